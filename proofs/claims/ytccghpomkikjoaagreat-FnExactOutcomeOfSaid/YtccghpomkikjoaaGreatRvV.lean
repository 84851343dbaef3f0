/- Acceptors: plain facts. No condition. -/
import Derived.Test.YtccghpomkikjoaaGreatRvM
namespace Go.Rv
/-! Acceptors: their slots in order; what stands where. -/
/-- The slot a goes ahead of the slot b. -/
def aheadB (a b : SlotT) : Bool := if a.1 = b.1 then decide (a.2.1 < b.2.1) else decide (a.1 < b.1)
def accStep (xs : List SlotT) (i : Nat) (y : SlotT) : Option Int := cond (!(slotCode y == 0)) (some (slotCode y)) (cond (decide (0 < i) && !(aheadB (xs[i - 1]?.getD y) y)) (some 1) none)
def accCode (xs : List SlotT) : Int := if xs.length > 60 then 2 else (match fstI (accStep xs) 0 xs with | some r => r | none => 0)
theorem accGo_zero (xs : List SlotT) : ∀ (ys : List SlotT) (i : Nat), (fstI (accStep xs) i ys = none ∨ fstI (accStep xs) i ys = some 0) → ∀ j, (h : j < ys.length) → slotCode ys[j] = 0 ∧ (0 < i + j → aheadB (xs[i + j - 1]?.getD ys[j]) ys[j] = true)
  | [], _, _, j, h => by cases h
  | y :: ys, i, hf, j, h => by
    have h1 : accStep xs i y = none := by
      simp only [fstI] at hf
      cases hs : accStep xs i y with
      | none => rfl
      | some r =>
        rw [hs] at hf
        unfold accStep at hs
        cases hc : (slotCode y == 0) with
        | false =>
          rw [hc] at hs
          simp only [Bool.not_false, cond_true, Option.some.injEq] at hs
          rcases hf with hf | hf
          · cases hf
          · rw [Option.some.injEq] at hf
            rw [beq_eq_false_iff_ne] at hc
            omega
        | true =>
          rw [hc] at hs
          cases hc2 : (decide (0 < i) && !(aheadB (xs[i - 1]?.getD y) y)) with
          | false => rw [hc2] at hs; cases hs
          | true =>
            rw [hc2] at hs
            simp only [Bool.not_true, cond_false, cond_true, Option.some.injEq] at hs
            subst hs
            rcases hf with hf | hf <;> cases hf
    have h2 : fstI (accStep xs) (i + 1) ys = none ∨ fstI (accStep xs) (i + 1) ys = some 0 := by
      simp only [fstI, h1] at hf; exact hf
    cases j with
    | succ j =>
      have := accGo_zero xs ys (i + 1) h2 j (by simpa using h)
      rw [show i + 1 + j = i + (j + 1) from by omega] at this
      exact this
    | zero =>
      unfold accStep at h1
      cases hc : (slotCode y == 0) with
      | false => rw [hc] at h1; cases h1
      | true =>
        rw [hc] at h1
        refine ⟨by simpa using hc, fun h0 => ?_⟩
        cases hc2 : (decide (0 < i) && !(aheadB (xs[i - 1]?.getD y) y)) with
        | true => rw [hc2] at h1; cases h1
        | false =>
          have : decide (0 < i) = true := decide_eq_true (by omega)
          rw [this] at hc2
          simpa using hc2
/-- An acceptor without fault: its slots are in order, each without fault. -/
theorem accCode_zero {xs : List SlotT} (h : accCode xs = 0) : xs.length ≤ 60 ∧ (∀ x ∈ xs, slotCode x = 0) ∧ ∀ i (hi : i + 1 < xs.length), aheadB xs[i] xs[i + 1] = true := by
  unfold accCode at h
  split at h
  · cases h
  · rename_i hl
    have hf : fstI (accStep xs) 0 xs = none ∨ fstI (accStep xs) 0 xs = some 0 := by
      cases hs : fstI (accStep xs) 0 xs with
      | none => exact .inl rfl
      | some r => rw [hs] at h; simp only at h; subst h; exact .inr rfl
    have key := accGo_zero xs xs 0 hf
    refine ⟨by omega, fun x hx => ?_, fun i hi => ?_⟩
    · obtain ⟨j, hj, rfl⟩ := List.getElem_of_mem hx
      exact (key j hj).1
    · have := (key (i + 1) hi).2 (by omega)
      simp only [Nat.zero_add, Nat.add_sub_cancel, List.getElem?_eq_getElem (show i < xs.length by omega), Option.getD_some] at this
      exact this
theorem ahead_trans {a b c : SlotT} (h1 : aheadB a b = true) (h2 : aheadB b c = true) : aheadB a c = true := by
  unfold aheadB at *
  split at h1 <;> split at h2 <;> simp only [decide_eq_true_eq] at h1 h2 <;> split <;> simp only [decide_eq_true_eq] <;> omega
theorem acc_lt {xs : List SlotT} (h : ∀ i (hi : i + 1 < xs.length), aheadB xs[i] xs[i + 1] = true) : ∀ i j (_ : i < j) (hj : j < xs.length), aheadB (xs[i]'(by omega)) xs[j] = true := by
  intro i j hij
  induction j with
  | zero => omega
  | succ j ih =>
    intro hj
    rcases Nat.lt_or_ge i j with h' | h'
    · exact ahead_trans (ih h' (by omega)) (h j hj)
    · have : i = j := by omega
      subst this
      exact h i hj
def cmpS (a b : SlotT) : Int := if (if a.1 < b.1 then (-1 : Int) else if a.1 > b.1 then 1 else 0) = 0 then (if a.2.1 < b.2.1 then -1 else if a.2.1 > b.2.1 then 1 else 0) else (if a.1 < b.1 then -1 else if a.1 > b.1 then 1 else 0)
theorem cmpS_lt (a b : SlotT) : cmpS a b < 0 ↔ (a.1 < b.1 ∨ a.1 = b.1 ∧ a.2.1 < b.2.1) := by
  unfold cmpS
  by_cases h1 : a.1 < b.1 <;> by_cases h2 : a.1 > b.1 <;> by_cases h3 : a.2.1 < b.2.1 <;> by_cases h4 : a.2.1 > b.2.1 <;> simp [h1, h2, h3, h4] <;> omega
theorem cmpS_zero (a b : SlotT) : cmpS a b = 0 ↔ (a.1 = b.1 ∧ a.2.1 = b.2.1) := by
  unfold cmpS
  by_cases h1 : a.1 < b.1 <;> by_cases h2 : a.1 > b.1 <;> by_cases h3 : a.2.1 < b.2.1 <;> by_cases h4 : a.2.1 > b.2.1 <;> simp [h1, h2, h3, h4] <;> omega
theorem cmpS_ahead (a b : SlotT) : decide (cmpS a b ≥ 0) = !(aheadB a b) := by
  have h := cmpS_lt a b
  have e : aheadB a b = decide (a.1 < b.1 ∨ a.1 = b.1 ∧ a.2.1 < b.2.1) := by
    unfold aheadB
    by_cases h1 : a.1 = b.1
    · rw [if_pos h1]
      by_cases h2 : a.2.1 < b.2.1
      · rw [decide_eq_true h2, decide_eq_true (.inr ⟨h1, h2⟩)]
      · rw [decide_eq_false h2, decide_eq_false (by omega)]
    · rw [if_neg h1]
      by_cases h2 : a.1 < b.1
      · rw [decide_eq_true h2, decide_eq_true (.inl h2)]
      · rw [decide_eq_false h2, decide_eq_false (by omega)]
  rw [e]
  by_cases hc : cmpS a b < 0
  · have h1 := h.1 hc
    rw [decide_eq_false (show ¬ cmpS a b ≥ 0 by omega), decide_eq_true h1]; rfl
  · have h1 : ¬ _ := fun q => hc (h.2 q)
    rw [decide_eq_true (show cmpS a b ≥ 0 by omega), decide_eq_false h1]; rfl
def keyS (c d : Int) : SlotT := (c, (d, (0, ((0, 0), []))))
theorem ahead_iff (a b : SlotT) : aheadB a b = true ↔ cmpS a b < 0 := by
  have h := cmpS_ahead a b
  cases ha : aheadB a b with
  | true =>
    rw [ha] at h
    have := of_decide_eq_false h
    exact ⟨fun _ => by omega, fun _ => rfl⟩
  | false =>
    rw [ha] at h
    have := of_decide_eq_true h
    exact ⟨fun h => (by cases h), fun h => by omega⟩
def isSlot (c d : Int) (s : SlotT) : Bool := (s.1 == c) && (s.2.1 == d)
def newS (c d : Int) : SlotT := (c, (d, (-1, ((-1, 0), []))))
/-- The slot of an acceptor. -/
def slotOf (xs : List SlotT) (c d : Int) : SlotT := (xs.find? (isSlot c d)).getD (newS c d)
def newR (a b : Int) : Int × ((Int × Int) × SlotT) := cond (!(idB a && shB b)) (3, zS) (0, ((0, 0), (a, (b, (-1, ((-1, 0), []))))))
/-- A list built, element by element. -/
theorem grow_loop {α β : Type} (sz : Nat) (hs : sz ≤ 1024) (xs : List α) (f : α → Option β) (g : α → β) (h : ∀ x ∈ xs, f x = some (g x)) (hl : xs.length ≤ 1048576) :
    lp (fun rec (z : List β × Int) => cond (decide (z.2 < lenI xs)) ((geti xs z.2).bind fun y => (f y).bind fun r => chk (Nat.ble ((z.1.length + [r].length) * sz) maxBytes) (rec (z.1 ++ [r], IntKind.wrap .i64 (z.2 + (1 : Int))))) (some z.1)) FU ([], (0 : Int)) = some (xs.map g) := by
  refine lp_for (fun r => r = some (xs.map g)) (fun i z => z = ((xs.take i).map g, (i : Int))) xs.length (fun i z hi hz => ?_) (fun z hz rec => ?_) FU _ (FU_gt hl) (by simp)
  · subst hz
    have hb : Nat.ble ((((xs.take i).map g).length + [g xs[i]].length) * sz) maxBytes = true := by
      rw [Nat.ble_eq]
      have : ((xs.take i).map g).length + [g xs[i]].length ≤ 1048576 := by simp; omega
      exact Nat.le_trans (Nat.mul_le_mul this hs) (by unfold maxBytes; omega)
    refine .inr ⟨_, rfl, fun rec => ?_⟩
    simp only [lt_lenI hi, cond_true, geti_lt xs i hi, Option.bind_some, h _ (List.getElem_mem hi), chk_true hb, wrap_next hi hl]
    rw [List.take_succ_eq_append_getElem hi, List.map_append]
    rfl
  · subst hz
    simp only [ge_lenI, cond_false, List.take_length]
/-- The first fault of a list of acceptors. -/
def accsF (y : List SlotT) : Option Int := cond (!(accCode y == 0)) (some (accCode y)) none
def accsCode (xs : List (List SlotT)) : Int := if xs.length < 1 ∨ xs.length > 5 then 2 else (match fstI (fun _ y => accsF y) 0 xs with | some r => r | none => 0)
theorem accsCode_zero {xs : List (List SlotT)} (h : accsCode xs = 0) : xs.length ≤ 5 ∧ ∀ x ∈ xs, accCode x = 0 := by
  unfold accsCode at h
  split at h
  · cases h
  · rename_i hl
    refine ⟨by omega, ?_⟩
    have key : ∀ (ys : List (List SlotT)) (i : Nat), (match fstI (fun _ y => accsF y) i ys with | some r => r | none => 0) = 0 → ∀ y ∈ ys, accCode y = 0 := by
      intro ys
      induction ys with
      | nil => intro i _ y hy; cases hy
      | cons z ys ih =>
        intro i h y hy
        simp only [fstI, accsF] at h
        cases hc : (accCode z == 0) with
        | false =>
          rw [hc] at h
          simp only [Bool.not_false, cond_true] at h
          rw [beq_eq_false_iff_ne] at hc
          exact absurd h hc
        | true =>
          rw [hc] at h
          simp only [Bool.not_true, cond_false] at h
          rcases List.mem_cons.1 hy with rfl | hy
          · simpa using hc
          · exact ih (i + 1) h y hy
    exact key xs 0 h
def slotsR (xs : List (List SlotT)) (c d : Int) : Int × List SlotT := cond (!(accsCode xs == 0)) (accsCode xs, []) (cond (!(idB c && shB d)) (3, []) (0, xs.map fun x => slotOf x c d))
theorem acc_sizes {xs : List (List SlotT)} (h : accsCode xs = 0) : xs.length ≤ 5 ∧ (∀ x ∈ xs, x.length ≤ 60) ∧ ∀ x ∈ xs, ∀ y ∈ x, y.2.2.2.2.length ≤ 60 := by
  have h1 := accsCode_zero h
  exact ⟨h1.1, fun x hx => (accCode_zero (h1.2 x hx)).1, fun x hx y hy => (slotCode_zero ((accCode_zero (h1.2 x hx)).2.1 y hy)).2.1⟩
theorem slotOf_ok {x : List SlotT} {c d : Int} (hx : ∀ s ∈ x, slotCode s = 0) (hn : (idB c && shB d) = true) : slotCode (slotOf x c d) = 0 ∧ (slotOf x c d).1 = c ∧ (slotOf x c d).2.1 = d := by
  unfold slotOf
  cases hf : x.find? (isSlot c d) with
  | none =>
    simp only [Bool.and_eq_true] at hn
    refine ⟨slotCode_of ⟨hn.1, hn.2, rfl⟩ (by simp [newS]) rfl rfl (by simp [newS]), rfl, rfl⟩
  | some s =>
    have h1 := List.find?_some hf
    simp only [isSlot, Bool.and_eq_true, beq_iff_eq] at h1
    exact ⟨hx s (List.mem_of_find?_eq_some hf), h1.1, h1.2⟩
theorem accs_ne {xs : List (List SlotT)} (h : accsCode xs = 0) : 1 ≤ xs.length := by
  unfold accsCode at h
  split at h
  · cases h
  · omega
theorem slots_ask {xs : List (List SlotT)} {c d : Int} (h : accsCode xs = 0) (hn : (idB c && shB d) = true) : askCode (xs.map fun x => slotOf x c d) = 0 := by
  have h1 := accsCode_zero h
  have h2 := accs_ne h
  have hs : ∀ s ∈ xs.map (fun x => slotOf x c d), slotCode s = 0 ∧ s.1 = c ∧ s.2.1 = d := by
    intro s hs
    obtain ⟨x, hx, rfl⟩ := List.mem_map.1 hs
    exact slotOf_ok (accCode_zero (h1.2 x hx)).2.1 hn
  exact ask_of (fun s hs' => (hs s hs').1) (by rw [List.length_map]; exact h2) (by rw [List.length_map]; omega) c d (fun s hs' => (hs s hs').2)
def chosenAtP (xs : List (List SlotT)) (c d : Int) (r : Int × Int) : Prop :=
  (accsCode xs ≠ 0 ∧ r = (accsCode xs, 0)) ∨ (accsCode xs = 0 ∧ (idB c && shB d) = false ∧ r = (3, 0)) ∨
  (accsCode xs = 0 ∧ (idB c && shB d) = true ∧ ∃ out, chosenOK (xs.map fun x => slotOf x c d) out ∧ r = match out with | [] => (4, 0) | v :: _ => (0, v.2))
theorem chosenAtP_same {xs : List (List SlotT)} {c d : Int} {r r' : Int × Int} (h : chosenAtP xs c d r) (h' : chosenAtP xs c d r') : r = r' := by
  rcases h with ⟨h0, rfl⟩ | ⟨h0, h1, rfl⟩ | ⟨h0, h1, out, ho, rfl⟩ <;> rcases h' with ⟨g0, rfl⟩ | ⟨g0, g1, rfl⟩ | ⟨g0, g1, out', ho', rfl⟩ <;>
    first | rfl | (exact absurd g0 h0) | (exact absurd h0 g0) | (exact absurd (h1.symm.trans g1) (by decide)) | (rw [chosen_same ho ho'])
/-! Where a slot goes: the first place whose slot does not go ahead of it. -/
def placeS (xs : List SlotT) (s : SlotT) : Nat := (xs.findIdx? (fun x => !(aheadB x s))).getD xs.length
def putS (xs : List SlotT) (s : SlotT) : Option (List SlotT) := cond ((xs[placeS xs s]?).elim false fun y => !(aheadB s y)) (some (xs.set (placeS xs s) s)) (cond (decide (xs.length ≥ 60)) none (some (xs.take (placeS xs s) ++ [s] ++ xs.drop (placeS xs s))))
abbrev AccR := Int × ((Int × Int) × List SlotT)
def zA : AccR := (0, ((0, 0), []))
/-- What an acceptor answers: the code, the vote, the slots. -/
def toldR (xs : List SlotT) (r : Int × ((Int × Int) × SlotT)) : AccR := cond (!(r.1 == 0)) (r.1, zA.2) ((putS xs r.2.2).elim (2, zA.2) fun ys => (0, (r.2.1, ys)))
theorem placeS_le (xs : List SlotT) (s : SlotT) : placeS xs s ≤ xs.length := by
  unfold placeS
  cases h : xs.findIdx? (fun x => !(aheadB x s)) with
  | none => exact Nat.le_refl _
  | some i => exact Nat.le_of_lt (List.findIdx?_eq_some_iff_getElem.1 h).1
theorem placeS_of {xs : List SlotT} {s : SlotT} {j : Nat} (hj : j ≤ xs.length) (h1 : ∀ i (hi : i < xs.length), i < j → aheadB xs[i] s = true) (h2 : ∀ hi : j < xs.length, aheadB xs[j] s = false) : placeS xs s = j := by
  unfold placeS
  by_cases hl : j < xs.length
  · have : xs.findIdx? (fun x => !(aheadB x s)) = some j := List.findIdx?_eq_some_iff_getElem.2 ⟨hl, by rw [h2 hl]; rfl, fun k hk => by rw [h1 k (by omega) hk]; decide⟩
    rw [this]; rfl
  · have hjl : j = xs.length := by omega
    have : xs.findIdx? (fun x => !(aheadB x s)) = none := List.findIdx?_eq_none_iff.2 fun x hx => by
      obtain ⟨k, hk, rfl⟩ := List.getElem_of_mem hx
      rw [h1 k hk (by omega)]; rfl
    rw [this, hjl]; rfl
theorem ahead_key {a b b' : SlotT} (h1 : b.1 = b'.1) (h2 : b.2.1 = b'.2.1) : aheadB a b = aheadB a b' ∧ aheadB b a = aheadB b' a := by
  unfold aheadB
  rw [h1, h2]
  exact ⟨rfl, rfl⟩
theorem promR_key (s : SlotT) (b : Int) (h : (promR s b).1 = 0) : (promR s b).2.2.1 = s.1 ∧ (promR s b).2.2.2.1 = s.2.1 := by
  unfold promR at h ⊢
  cases h1 : slotCode s == 0 with
  | false =>
    rw [h1] at h
    simp only [Bool.not_false, cond_true] at h
    rw [beq_eq_false_iff_ne] at h1
    exact absurd h h1
  | true =>
    rw [h1] at h
    cases h2 : bal b with
    | false => rw [h2] at h; exact absurd (show (3 : Int) = 0 from h) (by decide)
    | true =>
      rw [h2] at h
      cases h3 : decide (b < s.2.2.1) with
      | true => rw [h3] at h; exact absurd (show (8 : Int) = 0 from h) (by decide)
      | false => exact ⟨rfl, rfl⟩
theorem accR_key (s : SlotT) (v : Int × Int) (h : (accR s v).1 = 0) : (accR s v).2.2.1 = s.1 ∧ (accR s v).2.2.2.1 = s.2.1 := by
  unfold accR at h ⊢
  cases h1 : slotCode s == 0 with
  | false =>
    rw [h1] at h
    simp only [Bool.not_false, cond_true] at h
    rw [beq_eq_false_iff_ne] at h1
    exact absurd h h1
  | true =>
    rw [h1] at h
    cases h2 : votB v with
    | false => rw [h2] at h; exact absurd (show (3 : Int) = 0 from h) (by decide)
    | true =>
      rw [h2] at h
      cases h3 : decide (v.1 < s.2.2.1) with
      | true => rw [h3] at h; exact absurd (show (8 : Int) = 0 from h) (by decide)
      | false =>
        rw [h3] at h
        cases h4 : (v.1 == s.2.2.2.1.1 && !(v.2 == s.2.2.2.1.2)) with
        | true => rw [h4] at h; exact absurd (show (7 : Int) = 0 from h) (by decide)
        | false =>
          rw [h4] at h
          cases h5 : (!((v.1 == s.2.2.2.1.1) && ((v.2 == s.2.2.2.1.2) && true))) with
          | false => exact ⟨rfl, rfl⟩
          | true =>
            rw [h5] at h
            cases h6 : decide (s.2.2.2.2.length ≥ 60) with
            | true => rw [h6] at h; exact absurd (show (2 : Int) = 0 from h) (by decide)
            | false => exact ⟨rfl, rfl⟩
theorem promR_l61 (s : SlotT) (b : Int) (h : (promR s b).1 = 0) : (promR s b).2.2.2.2.2.2.length ≤ 61 := by
  unfold promR at h ⊢
  cases h1 : slotCode s == 0 with
  | false =>
    rw [h1] at h
    simp only [Bool.not_false, cond_true] at h
    rw [beq_eq_false_iff_ne] at h1
    exact absurd h h1
  | true =>
    have hl := (slotCode_zero (eq_of_beq h1)).2.1
    cases h2 : bal b with
    | false => exact Nat.zero_le _
    | true =>
      cases h3 : decide (b < s.2.2.1) with
      | true => exact Nat.zero_le _
      | false => show s.2.2.2.2.length ≤ 61; omega
theorem accR_l61 (s : SlotT) (v : Int × Int) (h : (accR s v).1 = 0) : (accR s v).2.2.2.2.2.2.length ≤ 61 := by
  unfold accR at h ⊢
  cases h1 : slotCode s == 0 with
  | false =>
    rw [h1] at h
    simp only [Bool.not_false, cond_true] at h
    rw [beq_eq_false_iff_ne] at h1
    exact absurd h h1
  | true =>
    have hl := (slotCode_zero (eq_of_beq h1)).2.1
    cases h2 : votB v with
    | false => exact Nat.zero_le _
    | true =>
      cases h3 : decide (v.1 < s.2.2.1) with
      | true => exact Nat.zero_le _
      | false =>
        cases h4 : (v.1 == s.2.2.2.1.1 && !(v.2 == s.2.2.2.1.2)) with
        | true => exact Nat.zero_le _
        | false =>
          cases h5 : (!((v.1 == s.2.2.2.1.1) && ((v.2 == s.2.2.2.1.2) && true))) with
          | false => show s.2.2.2.2.length ≤ 61; omega
          | true =>
            cases h6 : decide (s.2.2.2.2.length ≥ 60) with
            | true => exact Nat.zero_le _
            | false =>
              have : ¬ s.2.2.2.2.length ≥ 60 := of_decide_eq_false h6
              show (s.2.2.2.2 ++ [v]).length ≤ 61; simp; omega
theorem slotOf_key (xs : List SlotT) (c d : Int) : (slotOf xs c d).1 = c ∧ (slotOf xs c d).2.1 = d := by
  unfold slotOf
  cases hf : xs.find? (isSlot c d) with
  | none => exact ⟨rfl, rfl⟩
  | some s =>
    have h1 := List.find?_some hf
    simp only [isSlot, Bool.and_eq_true, beq_iff_eq] at h1
    exact h1
/-- A place told by a search among the slots in order. -/
theorem place_found {xs : List SlotT} {c d : Int} {s : SlotT} (k1 : s.1 = c) (k2 : s.2.1 = d) {j : Nat} (hj : j ≤ xs.length) (hf : (xs.find? (isSlot c d)).isSome = true → xs[j]? = xs.find? (isSlot c d))
    (h1 : ∀ i (hi : i < xs.length), i < j → cmpS xs[i] (keyS c d) < 0) (h2 : ∀ i (hi : i < xs.length), j ≤ i → ¬ cmpS xs[i] (keyS c d) < 0) :
    placeS xs s = j ∧ ((xs[j]?).elim false fun y => !(aheadB s y)) = (xs.find? (isSlot c d)).isSome := by
  have ek : ∀ a : SlotT, aheadB a s = aheadB a (keyS c d) ∧ aheadB s a = aheadB (keyS c d) a := fun a => ahead_key k1 k2
  have hc : ∀ a : SlotT, aheadB a s = false ↔ ¬ cmpS a (keyS c d) < 0 := fun a => by
    rw [(ek a).1, ← Bool.not_eq_true, ahead_iff]
  refine ⟨placeS_of hj (fun i hi hij => by rw [(ek _).1]; exact (ahead_iff _ _).2 (h1 i hi hij)) (fun hi => (hc _).2 (h2 j hi (Nat.le_refl _))), ?_⟩
  cases hs : (xs.find? (isSlot c d)).isSome with
  | true =>
    rw [hf hs]
    cases hx : xs.find? (isSlot c d) with
    | none => rw [hx] at hs; cases hs
    | some y =>
      have hy := List.find?_some hx
      simp only [isSlot, Bool.and_eq_true, beq_iff_eq] at hy
      simp only [Option.elim]
      rw [(ek y).2]
      unfold aheadB keyS
      rw [if_pos hy.1.symm]
      simp [hy.2]
  | false =>
    by_cases hl : j < xs.length
    · rw [List.getElem?_eq_getElem hl]
      simp only [Option.elim]
      rw [(ek _).2]
      have hn : isSlot c d xs[j] = false := by
        have : xs.find? (isSlot c d) = none := by simpa using hs
        rw [List.find?_eq_none] at this
        simpa using this xs[j] (List.getElem_mem hl)
      have h3 := h2 j hl (Nat.le_refl _)
      rw [cmpS_lt] at h3
      have h4 : ¬ (xs[j].1 = c ∧ xs[j].2.1 = d) := by
        rintro ⟨q1, q2⟩
        simp [isSlot, q1, q2] at hn
      have h3' : ¬ (xs[j].1 < c ∨ xs[j].1 = c ∧ xs[j].2.1 < d) := h3
      have : aheadB (keyS c d) xs[j] = true := by
        unfold aheadB keyS
        simp only
        split
        · rename_i h5; exact decide_eq_true (by omega)
        · exact decide_eq_true (by omega)
      rw [this]; rfl
    · rw [List.getElem?_eq_none (by omega)]; rfl
theorem putS_mem {xs : List SlotT} {s : SlotT} {ys : List SlotT} (h : putS xs s = some ys) : (∀ y ∈ ys, y ∈ xs ∨ y = s) ∧ ys.length ≤ xs.length + 1 := by
  have hp := placeS_le xs s
  unfold putS at h
  cases hc : (xs[placeS xs s]?).elim false fun y => !(aheadB s y) with
  | true =>
    rw [hc] at h
    simp only [cond_true, Option.some.injEq] at h
    subst h
    refine ⟨fun y hy => ?_, by simp⟩
    exact List.mem_or_eq_of_mem_set hy
  | false =>
    rw [hc] at h
    simp only [cond_false] at h
    cases h6 : decide (xs.length ≥ 60) with
    | true => rw [h6] at h; cases h
    | false =>
      rw [h6] at h
      simp only [cond_false, Option.some.injEq] at h
      subst h
      refine ⟨fun y hy => ?_, by simp only [List.length_append, List.length_take, List.length_drop, List.length_cons, List.length_nil]; omega⟩
      simp only [List.mem_append, List.mem_singleton] at hy
      rcases hy with (hy | hy) | hy
      · exact .inl (List.mem_of_mem_take hy)
      · exact .inr hy
      · exact .inl (List.mem_of_mem_drop hy)
theorem grow_loop2 {α β : Type} (sz : Nat) (hs : sz ≤ 1024) (xs : List α) (f : α → Option β) (g : α → β) (h : ∀ x ∈ xs, f x = some (g x)) (hl : xs.length ≤ 1048576) :
    lp (fun rec (z : Int × List β) => cond (decide (z.1 < lenI xs)) ((geti xs z.1).bind fun y => (f y).bind fun r => chk (Nat.ble ((z.2.length + [r].length) * sz) maxBytes) (rec (IntKind.wrap .i64 (z.1 + (1 : Int)), z.2 ++ [r]))) (some z.2)) FU ((0 : Int), []) = some (xs.map g) := by
  refine lp_for (fun r => r = some (xs.map g)) (fun i z => z = ((i : Int), (xs.take i).map g)) xs.length (fun i z hi hz => ?_) (fun z hz rec => ?_) FU _ (FU_gt hl) (by simp)
  · subst hz
    have hb : Nat.ble ((((xs.take i).map g).length + [g xs[i]].length) * sz) maxBytes = true := by
      rw [Nat.ble_eq]
      have : ((xs.take i).map g).length + [g xs[i]].length ≤ 1048576 := by simp; omega
      exact Nat.le_trans (Nat.mul_le_mul this hs) (by unfold maxBytes; omega)
    refine .inr ⟨_, rfl, fun rec => ?_⟩
    simp only [lt_lenI hi, cond_true, geti_lt xs i hi, Option.bind_some, h _ (List.getElem_mem hi), chk_true hb, wrap_next hi hl]
    rw [List.take_succ_eq_append_getElem hi, List.map_append]
    rfl
  · subst hz
    simp only [ge_lenI, cond_false, List.take_length]
end Go.Rv
