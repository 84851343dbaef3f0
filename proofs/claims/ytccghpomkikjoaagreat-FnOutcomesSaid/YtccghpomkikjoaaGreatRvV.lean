/- Acceptors: plain facts. No condition. -/
import Derived.Test.YtccghpomkikjoaaGreatRvM
namespace Go.Rv
/-! Acceptors: their slots in order; what stands where. -/
/-- The slot a goes ahead of the slot b. -/
def aheadB (a b : SlotT) : Bool := if a.1 = b.1 then decide (a.2.1 < b.2.1) else decide (a.1 < b.1)
def accStep (xs : List SlotT) (i : Nat) (y : SlotT) : Option Int := cond (!(slotCode y == 0)) (some (slotCode y)) (cond (decide (0 < i) && !(aheadB (xs[i - 1]?.getD y) y)) (some 1) none)
def accCode (xs : List SlotT) : Int := if xs.length > 60 then 2 else (match fstI (accStep xs) 0 xs with | some r => r | none => 0)
theorem accGo_zero (xs : List SlotT) : ∀ (ys : List SlotT) (i : Nat), (fstI (accStep xs) i ys = none ∨ fstI (accStep xs) i ys = some 0) → ∀ j, (h : j < ys.length) → slotCode ys[j] = 0 ∧ (0 < i + j → aheadB (xs[i + j - 1]?.getD ys[j]) ys[j] = true)
  | [], _, _, j, h => by cases h
  | y :: ys, i, hf, j, h => by
    have h1 : accStep xs i y = none := by
      simp only [fstI] at hf
      cases hs : accStep xs i y with
      | none => rfl
      | some r =>
        rw [hs] at hf
        unfold accStep at hs
        cases hc : (slotCode y == 0) with
        | false =>
          rw [hc] at hs
          simp only [Bool.not_false, cond_true, Option.some.injEq] at hs
          rcases hf with hf | hf
          · cases hf
          · rw [Option.some.injEq] at hf
            rw [beq_eq_false_iff_ne] at hc
            omega
        | true =>
          rw [hc] at hs
          cases hc2 : (decide (0 < i) && !(aheadB (xs[i - 1]?.getD y) y)) with
          | false => rw [hc2] at hs; cases hs
          | true =>
            rw [hc2] at hs
            simp only [Bool.not_true, cond_false, cond_true, Option.some.injEq] at hs
            subst hs
            rcases hf with hf | hf <;> cases hf
    have h2 : fstI (accStep xs) (i + 1) ys = none ∨ fstI (accStep xs) (i + 1) ys = some 0 := by
      simp only [fstI, h1] at hf; exact hf
    cases j with
    | succ j =>
      have := accGo_zero xs ys (i + 1) h2 j (by simpa using h)
      rw [show i + 1 + j = i + (j + 1) from by omega] at this
      exact this
    | zero =>
      unfold accStep at h1
      cases hc : (slotCode y == 0) with
      | false => rw [hc] at h1; cases h1
      | true =>
        rw [hc] at h1
        refine ⟨by simpa using hc, fun h0 => ?_⟩
        cases hc2 : (decide (0 < i) && !(aheadB (xs[i - 1]?.getD y) y)) with
        | true => rw [hc2] at h1; cases h1
        | false =>
          have : decide (0 < i) = true := decide_eq_true (by omega)
          rw [this] at hc2
          simpa using hc2
/-- An acceptor without fault: its slots are in order, each without fault. -/
theorem accCode_zero {xs : List SlotT} (h : accCode xs = 0) : xs.length ≤ 60 ∧ (∀ x ∈ xs, slotCode x = 0) ∧ ∀ i (hi : i + 1 < xs.length), aheadB xs[i] xs[i + 1] = true := by
  unfold accCode at h
  split at h
  · cases h
  · rename_i hl
    have hf : fstI (accStep xs) 0 xs = none ∨ fstI (accStep xs) 0 xs = some 0 := by
      cases hs : fstI (accStep xs) 0 xs with
      | none => exact .inl rfl
      | some r => rw [hs] at h; simp only at h; subst h; exact .inr rfl
    have key := accGo_zero xs xs 0 hf
    refine ⟨by omega, fun x hx => ?_, fun i hi => ?_⟩
    · obtain ⟨j, hj, rfl⟩ := List.getElem_of_mem hx
      exact (key j hj).1
    · have := (key (i + 1) hi).2 (by omega)
      simp only [Nat.zero_add, Nat.add_sub_cancel, List.getElem?_eq_getElem (show i < xs.length by omega), Option.getD_some] at this
      exact this
theorem ahead_trans {a b c : SlotT} (h1 : aheadB a b = true) (h2 : aheadB b c = true) : aheadB a c = true := by
  unfold aheadB at *
  split at h1 <;> split at h2 <;> simp only [decide_eq_true_eq] at h1 h2 <;> split <;> simp only [decide_eq_true_eq] <;> omega
theorem acc_lt {xs : List SlotT} (h : ∀ i (hi : i + 1 < xs.length), aheadB xs[i] xs[i + 1] = true) : ∀ i j (_ : i < j) (hj : j < xs.length), aheadB (xs[i]'(by omega)) xs[j] = true := by
  intro i j hij
  induction j with
  | zero => omega
  | succ j ih =>
    intro hj
    rcases Nat.lt_or_ge i j with h' | h'
    · exact ahead_trans (ih h' (by omega)) (h j hj)
    · have : i = j := by omega
      subst this
      exact h i hj
def cmpS (a b : SlotT) : Int := if (if a.1 < b.1 then (-1 : Int) else if a.1 > b.1 then 1 else 0) = 0 then (if a.2.1 < b.2.1 then -1 else if a.2.1 > b.2.1 then 1 else 0) else (if a.1 < b.1 then -1 else if a.1 > b.1 then 1 else 0)
theorem cmpS_lt (a b : SlotT) : cmpS a b < 0 ↔ (a.1 < b.1 ∨ a.1 = b.1 ∧ a.2.1 < b.2.1) := by
  unfold cmpS
  by_cases h1 : a.1 < b.1 <;> by_cases h2 : a.1 > b.1 <;> by_cases h3 : a.2.1 < b.2.1 <;> by_cases h4 : a.2.1 > b.2.1 <;> simp [h1, h2, h3, h4] <;> omega
theorem cmpS_zero (a b : SlotT) : cmpS a b = 0 ↔ (a.1 = b.1 ∧ a.2.1 = b.2.1) := by
  unfold cmpS
  by_cases h1 : a.1 < b.1 <;> by_cases h2 : a.1 > b.1 <;> by_cases h3 : a.2.1 < b.2.1 <;> by_cases h4 : a.2.1 > b.2.1 <;> simp [h1, h2, h3, h4] <;> omega
theorem cmpS_ahead (a b : SlotT) : decide (cmpS a b ≥ 0) = !(aheadB a b) := by
  have h := cmpS_lt a b
  have e : aheadB a b = decide (a.1 < b.1 ∨ a.1 = b.1 ∧ a.2.1 < b.2.1) := by
    unfold aheadB
    by_cases h1 : a.1 = b.1
    · rw [if_pos h1]
      by_cases h2 : a.2.1 < b.2.1
      · rw [decide_eq_true h2, decide_eq_true (.inr ⟨h1, h2⟩)]
      · rw [decide_eq_false h2, decide_eq_false (by omega)]
    · rw [if_neg h1]
      by_cases h2 : a.1 < b.1
      · rw [decide_eq_true h2, decide_eq_true (.inl h2)]
      · rw [decide_eq_false h2, decide_eq_false (by omega)]
  rw [e]
  by_cases hc : cmpS a b < 0
  · have h1 := h.1 hc
    rw [decide_eq_false (show ¬ cmpS a b ≥ 0 by omega), decide_eq_true h1]; rfl
  · have h1 : ¬ _ := fun q => hc (h.2 q)
    rw [decide_eq_true (show cmpS a b ≥ 0 by omega), decide_eq_false h1]; rfl
def keyS (c d : Int) : SlotT := (c, (d, (0, ((0, 0), []))))
theorem ahead_iff (a b : SlotT) : aheadB a b = true ↔ cmpS a b < 0 := by
  have h := cmpS_ahead a b
  cases ha : aheadB a b with
  | true =>
    rw [ha] at h
    have := of_decide_eq_false h
    exact ⟨fun _ => by omega, fun _ => rfl⟩
  | false =>
    rw [ha] at h
    have := of_decide_eq_true h
    exact ⟨fun h => (by cases h), fun h => by omega⟩
def isSlot (c d : Int) (s : SlotT) : Bool := (s.1 == c) && (s.2.1 == d)
def newS (c d : Int) : SlotT := (c, (d, (-1, ((-1, 0), []))))
/-- The slot of an acceptor. -/
def slotOf (xs : List SlotT) (c d : Int) : SlotT := (xs.find? (isSlot c d)).getD (newS c d)
def newR (a b : Int) : Int × ((Int × Int) × SlotT) := cond (!(idB a && shB b)) (3, zS) (0, ((0, 0), (a, (b, (-1, ((-1, 0), []))))))
/-- A list built, element by element. -/
theorem grow_loop {α β : Type} (sz : Nat) (hs : sz ≤ 1024) (xs : List α) (f : α → Option β) (g : α → β) (h : ∀ x ∈ xs, f x = some (g x)) (hl : xs.length ≤ 1048576) :
    lp (fun rec (z : List β × Int) => cond (decide (z.2 < lenI xs)) ((geti xs z.2).bind fun y => (f y).bind fun r => chk (Nat.ble ((z.1.length + [r].length) * sz) maxBytes) (rec (z.1 ++ [r], IntKind.wrap .i64 (z.2 + (1 : Int))))) (some z.1)) FU ([], (0 : Int)) = some (xs.map g) := by
  refine lp_for (fun r => r = some (xs.map g)) (fun i z => z = ((xs.take i).map g, (i : Int))) xs.length (fun i z hi hz => ?_) (fun z hz rec => ?_) FU _ (FU_gt hl) (by simp)
  · subst hz
    have hb : Nat.ble ((((xs.take i).map g).length + [g xs[i]].length) * sz) maxBytes = true := by
      rw [Nat.ble_eq]
      have : ((xs.take i).map g).length + [g xs[i]].length ≤ 1048576 := by simp; omega
      exact Nat.le_trans (Nat.mul_le_mul this hs) (by unfold maxBytes; omega)
    refine .inr ⟨_, rfl, fun rec => ?_⟩
    simp only [lt_lenI hi, cond_true, geti_lt xs i hi, Option.bind_some, h _ (List.getElem_mem hi), chk_true hb, wrap_next hi hl]
    rw [List.take_succ_eq_append_getElem hi, List.map_append]
    rfl
  · subst hz
    simp only [ge_lenI, cond_false, List.take_length]
/-- The first fault of a list of acceptors. -/
def accsF (y : List SlotT) : Option Int := cond (!(accCode y == 0)) (some (accCode y)) none
def accsCode (xs : List (List SlotT)) : Int := if xs.length < 1 ∨ xs.length > 5 then 2 else (match fstI (fun _ y => accsF y) 0 xs with | some r => r | none => 0)
theorem accsCode_zero {xs : List (List SlotT)} (h : accsCode xs = 0) : xs.length ≤ 5 ∧ ∀ x ∈ xs, accCode x = 0 := by
  unfold accsCode at h
  split at h
  · cases h
  · rename_i hl
    refine ⟨by omega, ?_⟩
    have key : ∀ (ys : List (List SlotT)) (i : Nat), (match fstI (fun _ y => accsF y) i ys with | some r => r | none => 0) = 0 → ∀ y ∈ ys, accCode y = 0 := by
      intro ys
      induction ys with
      | nil => intro i _ y hy; cases hy
      | cons z ys ih =>
        intro i h y hy
        simp only [fstI, accsF] at h
        cases hc : (accCode z == 0) with
        | false =>
          rw [hc] at h
          simp only [Bool.not_false, cond_true] at h
          rw [beq_eq_false_iff_ne] at hc
          exact absurd h hc
        | true =>
          rw [hc] at h
          simp only [Bool.not_true, cond_false] at h
          rcases List.mem_cons.1 hy with rfl | hy
          · simpa using hc
          · exact ih (i + 1) h y hy
    exact key xs 0 h
def slotsR (xs : List (List SlotT)) (c d : Int) : Int × List SlotT := cond (!(accsCode xs == 0)) (accsCode xs, []) (cond (!(idB c && shB d)) (3, []) (0, xs.map fun x => slotOf x c d))
theorem acc_sizes {xs : List (List SlotT)} (h : accsCode xs = 0) : xs.length ≤ 5 ∧ (∀ x ∈ xs, x.length ≤ 60) ∧ ∀ x ∈ xs, ∀ y ∈ x, y.2.2.2.2.length ≤ 60 := by
  have h1 := accsCode_zero h
  exact ⟨h1.1, fun x hx => (accCode_zero (h1.2 x hx)).1, fun x hx y hy => (slotCode_zero ((accCode_zero (h1.2 x hx)).2.1 y hy)).2.1⟩
theorem slotOf_ok {x : List SlotT} {c d : Int} (hx : ∀ s ∈ x, slotCode s = 0) (hn : (idB c && shB d) = true) : slotCode (slotOf x c d) = 0 ∧ (slotOf x c d).1 = c ∧ (slotOf x c d).2.1 = d := by
  unfold slotOf
  cases hf : x.find? (isSlot c d) with
  | none =>
    simp only [Bool.and_eq_true] at hn
    refine ⟨slotCode_of ⟨hn.1, hn.2, rfl⟩ (by simp [newS]) rfl rfl (by simp [newS]), rfl, rfl⟩
  | some s =>
    have h1 := List.find?_some hf
    simp only [isSlot, Bool.and_eq_true, beq_iff_eq] at h1
    exact ⟨hx s (List.mem_of_find?_eq_some hf), h1.1, h1.2⟩
theorem accs_ne {xs : List (List SlotT)} (h : accsCode xs = 0) : 1 ≤ xs.length := by
  unfold accsCode at h
  split at h
  · cases h
  · omega
theorem slots_ask {xs : List (List SlotT)} {c d : Int} (h : accsCode xs = 0) (hn : (idB c && shB d) = true) : askCode (xs.map fun x => slotOf x c d) = 0 := by
  have h1 := accsCode_zero h
  have h2 := accs_ne h
  have hs : ∀ s ∈ xs.map (fun x => slotOf x c d), slotCode s = 0 ∧ s.1 = c ∧ s.2.1 = d := by
    intro s hs
    obtain ⟨x, hx, rfl⟩ := List.mem_map.1 hs
    exact slotOf_ok (accCode_zero (h1.2 x hx)).2.1 hn
  exact ask_of (fun s hs' => (hs s hs').1) (by rw [List.length_map]; exact h2) (by rw [List.length_map]; omega) c d (fun s hs' => (hs s hs').2)
def chosenAtP (xs : List (List SlotT)) (c d : Int) (r : Int × Int) : Prop :=
  (accsCode xs ≠ 0 ∧ r = (accsCode xs, 0)) ∨ (accsCode xs = 0 ∧ (idB c && shB d) = false ∧ r = (3, 0)) ∨
  (accsCode xs = 0 ∧ (idB c && shB d) = true ∧ ∃ out, chosenOK (xs.map fun x => slotOf x c d) out ∧ r = match out with | [] => (4, 0) | v :: _ => (0, v.2))
theorem chosenAtP_same {xs : List (List SlotT)} {c d : Int} {r r' : Int × Int} (h : chosenAtP xs c d r) (h' : chosenAtP xs c d r') : r = r' := by
  rcases h with ⟨h0, rfl⟩ | ⟨h0, h1, rfl⟩ | ⟨h0, h1, out, ho, rfl⟩ <;> rcases h' with ⟨g0, rfl⟩ | ⟨g0, g1, rfl⟩ | ⟨g0, g1, out', ho', rfl⟩ <;>
    first | rfl | (exact absurd g0 h0) | (exact absurd h0 g0) | (exact absurd (h1.symm.trans g1) (by decide)) | (rw [chosen_same ho ho'])
/-! Where a slot goes: the first place whose slot does not go ahead of it. -/
def placeS (xs : List SlotT) (s : SlotT) : Nat := (xs.findIdx? (fun x => !(aheadB x s))).getD xs.length
def putS (xs : List SlotT) (s : SlotT) : Option (List SlotT) := cond ((xs[placeS xs s]?).elim false fun y => !(aheadB s y)) (some (xs.set (placeS xs s) s)) (cond (decide (xs.length ≥ 60)) none (some (xs.take (placeS xs s) ++ [s] ++ xs.drop (placeS xs s))))
abbrev AccR := Int × ((Int × Int) × List SlotT)
def zA : AccR := (0, ((0, 0), []))
/-- What an acceptor answers: the code, the vote, the slots. -/
def toldR (xs : List SlotT) (r : Int × ((Int × Int) × SlotT)) : AccR := cond (!(r.1 == 0)) (r.1, zA.2) ((putS xs r.2.2).elim (2, zA.2) fun ys => (0, (r.2.1, ys)))
theorem placeS_le (xs : List SlotT) (s : SlotT) : placeS xs s ≤ xs.length := by
  unfold placeS
  cases h : xs.findIdx? (fun x => !(aheadB x s)) with
  | none => exact Nat.le_refl _
  | some i => exact Nat.le_of_lt (List.findIdx?_eq_some_iff_getElem.1 h).1
theorem placeS_of {xs : List SlotT} {s : SlotT} {j : Nat} (hj : j ≤ xs.length) (h1 : ∀ i (hi : i < xs.length), i < j → aheadB xs[i] s = true) (h2 : ∀ hi : j < xs.length, aheadB xs[j] s = false) : placeS xs s = j := by
  unfold placeS
  by_cases hl : j < xs.length
  · have : xs.findIdx? (fun x => !(aheadB x s)) = some j := List.findIdx?_eq_some_iff_getElem.2 ⟨hl, by rw [h2 hl]; rfl, fun k hk => by rw [h1 k (by omega) hk]; decide⟩
    rw [this]; rfl
  · have hjl : j = xs.length := by omega
    have : xs.findIdx? (fun x => !(aheadB x s)) = none := List.findIdx?_eq_none_iff.2 fun x hx => by
      obtain ⟨k, hk, rfl⟩ := List.getElem_of_mem hx
      rw [h1 k hk (by omega)]; rfl
    rw [this, hjl]; rfl
theorem ahead_key {a b b' : SlotT} (h1 : b.1 = b'.1) (h2 : b.2.1 = b'.2.1) : aheadB a b = aheadB a b' ∧ aheadB b a = aheadB b' a := by
  unfold aheadB
  rw [h1, h2]
  exact ⟨rfl, rfl⟩
theorem promR_key (s : SlotT) (b : Int) (h : (promR s b).1 = 0) : (promR s b).2.2.1 = s.1 ∧ (promR s b).2.2.2.1 = s.2.1 := by
  unfold promR at h ⊢
  cases h1 : slotCode s == 0 with
  | false =>
    rw [h1] at h
    simp only [Bool.not_false, cond_true] at h
    rw [beq_eq_false_iff_ne] at h1
    exact absurd h h1
  | true =>
    rw [h1] at h
    cases h2 : bal b with
    | false => rw [h2] at h; exact absurd (show (3 : Int) = 0 from h) (by decide)
    | true =>
      rw [h2] at h
      cases h3 : decide (b < s.2.2.1) with
      | true => rw [h3] at h; exact absurd (show (8 : Int) = 0 from h) (by decide)
      | false => exact ⟨rfl, rfl⟩
theorem accR_key (s : SlotT) (v : Int × Int) (h : (accR s v).1 = 0) : (accR s v).2.2.1 = s.1 ∧ (accR s v).2.2.2.1 = s.2.1 := by
  unfold accR at h ⊢
  cases h1 : slotCode s == 0 with
  | false =>
    rw [h1] at h
    simp only [Bool.not_false, cond_true] at h
    rw [beq_eq_false_iff_ne] at h1
    exact absurd h h1
  | true =>
    rw [h1] at h
    cases h2 : votB v with
    | false => rw [h2] at h; exact absurd (show (3 : Int) = 0 from h) (by decide)
    | true =>
      rw [h2] at h
      cases h3 : decide (v.1 < s.2.2.1) with
      | true => rw [h3] at h; exact absurd (show (8 : Int) = 0 from h) (by decide)
      | false =>
        rw [h3] at h
        cases h4 : (v.1 == s.2.2.2.1.1 && !(v.2 == s.2.2.2.1.2)) with
        | true => rw [h4] at h; exact absurd (show (7 : Int) = 0 from h) (by decide)
        | false =>
          rw [h4] at h
          cases h5 : (!((v.1 == s.2.2.2.1.1) && ((v.2 == s.2.2.2.1.2) && true))) with
          | false => exact ⟨rfl, rfl⟩
          | true =>
            rw [h5] at h
            cases h6 : decide (s.2.2.2.2.length ≥ 60) with
            | true => rw [h6] at h; exact absurd (show (2 : Int) = 0 from h) (by decide)
            | false => exact ⟨rfl, rfl⟩
theorem promR_l61 (s : SlotT) (b : Int) (h : (promR s b).1 = 0) : (promR s b).2.2.2.2.2.2.length ≤ 61 := by
  unfold promR at h ⊢
  cases h1 : slotCode s == 0 with
  | false =>
    rw [h1] at h
    simp only [Bool.not_false, cond_true] at h
    rw [beq_eq_false_iff_ne] at h1
    exact absurd h h1
  | true =>
    have hl := (slotCode_zero (eq_of_beq h1)).2.1
    cases h2 : bal b with
    | false => exact Nat.zero_le _
    | true =>
      cases h3 : decide (b < s.2.2.1) with
      | true => exact Nat.zero_le _
      | false => show s.2.2.2.2.length ≤ 61; omega
theorem accR_l61 (s : SlotT) (v : Int × Int) (h : (accR s v).1 = 0) : (accR s v).2.2.2.2.2.2.length ≤ 61 := by
  unfold accR at h ⊢
  cases h1 : slotCode s == 0 with
  | false =>
    rw [h1] at h
    simp only [Bool.not_false, cond_true] at h
    rw [beq_eq_false_iff_ne] at h1
    exact absurd h h1
  | true =>
    have hl := (slotCode_zero (eq_of_beq h1)).2.1
    cases h2 : votB v with
    | false => exact Nat.zero_le _
    | true =>
      cases h3 : decide (v.1 < s.2.2.1) with
      | true => exact Nat.zero_le _
      | false =>
        cases h4 : (v.1 == s.2.2.2.1.1 && !(v.2 == s.2.2.2.1.2)) with
        | true => exact Nat.zero_le _
        | false =>
          cases h5 : (!((v.1 == s.2.2.2.1.1) && ((v.2 == s.2.2.2.1.2) && true))) with
          | false => show s.2.2.2.2.length ≤ 61; omega
          | true =>
            cases h6 : decide (s.2.2.2.2.length ≥ 60) with
            | true => exact Nat.zero_le _
            | false =>
              have : ¬ s.2.2.2.2.length ≥ 60 := of_decide_eq_false h6
              show (s.2.2.2.2 ++ [v]).length ≤ 61; simp; omega
theorem slotOf_key (xs : List SlotT) (c d : Int) : (slotOf xs c d).1 = c ∧ (slotOf xs c d).2.1 = d := by
  unfold slotOf
  cases hf : xs.find? (isSlot c d) with
  | none => exact ⟨rfl, rfl⟩
  | some s =>
    have h1 := List.find?_some hf
    simp only [isSlot, Bool.and_eq_true, beq_iff_eq] at h1
    exact h1
/-- A place told by a search among the slots in order. -/
theorem place_found {xs : List SlotT} {c d : Int} {s : SlotT} (k1 : s.1 = c) (k2 : s.2.1 = d) {j : Nat} (hj : j ≤ xs.length) (hf : (xs.find? (isSlot c d)).isSome = true → xs[j]? = xs.find? (isSlot c d))
    (h1 : ∀ i (hi : i < xs.length), i < j → cmpS xs[i] (keyS c d) < 0) (h2 : ∀ i (hi : i < xs.length), j ≤ i → ¬ cmpS xs[i] (keyS c d) < 0) :
    placeS xs s = j ∧ ((xs[j]?).elim false fun y => !(aheadB s y)) = (xs.find? (isSlot c d)).isSome := by
  have ek : ∀ a : SlotT, aheadB a s = aheadB a (keyS c d) ∧ aheadB s a = aheadB (keyS c d) a := fun a => ahead_key k1 k2
  have hc : ∀ a : SlotT, aheadB a s = false ↔ ¬ cmpS a (keyS c d) < 0 := fun a => by
    rw [(ek a).1, ← Bool.not_eq_true, ahead_iff]
  refine ⟨placeS_of hj (fun i hi hij => by rw [(ek _).1]; exact (ahead_iff _ _).2 (h1 i hi hij)) (fun hi => (hc _).2 (h2 j hi (Nat.le_refl _))), ?_⟩
  cases hs : (xs.find? (isSlot c d)).isSome with
  | true =>
    rw [hf hs]
    cases hx : xs.find? (isSlot c d) with
    | none => rw [hx] at hs; cases hs
    | some y =>
      have hy := List.find?_some hx
      simp only [isSlot, Bool.and_eq_true, beq_iff_eq] at hy
      simp only [Option.elim]
      rw [(ek y).2]
      unfold aheadB keyS
      rw [if_pos hy.1.symm]
      simp [hy.2]
  | false =>
    by_cases hl : j < xs.length
    · rw [List.getElem?_eq_getElem hl]
      simp only [Option.elim]
      rw [(ek _).2]
      have hn : isSlot c d xs[j] = false := by
        have : xs.find? (isSlot c d) = none := by simpa using hs
        rw [List.find?_eq_none] at this
        simpa using this xs[j] (List.getElem_mem hl)
      have h3 := h2 j hl (Nat.le_refl _)
      rw [cmpS_lt] at h3
      have h4 : ¬ (xs[j].1 = c ∧ xs[j].2.1 = d) := by
        rintro ⟨q1, q2⟩
        simp [isSlot, q1, q2] at hn
      have h3' : ¬ (xs[j].1 < c ∨ xs[j].1 = c ∧ xs[j].2.1 < d) := h3
      have : aheadB (keyS c d) xs[j] = true := by
        unfold aheadB keyS
        simp only
        split
        · rename_i h5; exact decide_eq_true (by omega)
        · exact decide_eq_true (by omega)
      rw [this]; rfl
    · rw [List.getElem?_eq_none (by omega)]; rfl
theorem putS_mem {xs : List SlotT} {s : SlotT} {ys : List SlotT} (h : putS xs s = some ys) : (∀ y ∈ ys, y ∈ xs ∨ y = s) ∧ ys.length ≤ xs.length + 1 := by
  have hp := placeS_le xs s
  unfold putS at h
  cases hc : (xs[placeS xs s]?).elim false fun y => !(aheadB s y) with
  | true =>
    rw [hc] at h
    simp only [cond_true, Option.some.injEq] at h
    subst h
    refine ⟨fun y hy => ?_, by simp⟩
    exact List.mem_or_eq_of_mem_set hy
  | false =>
    rw [hc] at h
    simp only [cond_false] at h
    cases h6 : decide (xs.length ≥ 60) with
    | true => rw [h6] at h; cases h
    | false =>
      rw [h6] at h
      simp only [cond_false, Option.some.injEq] at h
      subst h
      refine ⟨fun y hy => ?_, by simp only [List.length_append, List.length_take, List.length_drop, List.length_cons, List.length_nil]; omega⟩
      simp only [List.mem_append, List.mem_singleton] at hy
      rcases hy with (hy | hy) | hy
      · exact .inl (List.mem_of_mem_take hy)
      · exact .inr hy
      · exact .inl (List.mem_of_mem_drop hy)
theorem grow_loop2 {α β : Type} (sz : Nat) (hs : sz ≤ 1024) (xs : List α) (f : α → Option β) (g : α → β) (h : ∀ x ∈ xs, f x = some (g x)) (hl : xs.length ≤ 1048576) :
    lp (fun rec (z : Int × List β) => cond (decide (z.1 < lenI xs)) ((geti xs z.1).bind fun y => (f y).bind fun r => chk (Nat.ble ((z.2.length + [r].length) * sz) maxBytes) (rec (IntKind.wrap .i64 (z.1 + (1 : Int)), z.2 ++ [r]))) (some z.2)) FU ((0 : Int), []) = some (xs.map g) := by
  refine lp_for (fun r => r = some (xs.map g)) (fun i z => z = ((i : Int), (xs.take i).map g)) xs.length (fun i z hi hz => ?_) (fun z hz rec => ?_) FU _ (FU_gt hl) (by simp)
  · subst hz
    have hb : Nat.ble ((((xs.take i).map g).length + [g xs[i]].length) * sz) maxBytes = true := by
      rw [Nat.ble_eq]
      have : ((xs.take i).map g).length + [g xs[i]].length ≤ 1048576 := by simp; omega
      exact Nat.le_trans (Nat.mul_le_mul this hs) (by unfold maxBytes; omega)
    refine .inr ⟨_, rfl, fun rec => ?_⟩
    simp only [lt_lenI hi, cond_true, geti_lt xs i hi, Option.bind_some, h _ (List.getElem_mem hi), chk_true hb, wrap_next hi hl]
    rw [List.take_succ_eq_append_getElem hi, List.map_append]
    rfl
  · subst hz
    simp only [ge_lenI, cond_false, List.take_length]
end Go.Rv
namespace Go.Rv
/-! Ballots over acceptors: what is kept. -/
def pBad : Option (Int × Int) → Int × Int → Bool
  | none, _ => false
  | some u, v => badP u v
theorem castGo_cons (p : Option (Int × Int)) (v : Int × Int) (r : List (Int × Int)) : castGo p (v :: r) = cond (!(votB v)) 3 (cond (pBad p v) 1 (castGo (some v) r)) := by cases p <;> rfl
theorem cast_append : ∀ (xs : List (Int × Int)) (p : Option (Int × Int)) (v : Int × Int), castGo p xs = 0 → votB v = true → pBad (xs.getLast?.or p) v = false → castGo p (xs ++ [v]) = 0
  | [], p, v, _, hv, hl => by
    rw [List.nil_append, castGo_cons, hv]
    simp only [List.getLast?_nil, Option.none_or] at hl
    rw [hl]; rfl
  | x :: xs, p, v, h, hv, hl => by
    rw [castGo_cons] at h
    rw [List.cons_append, castGo_cons]
    cases hx : votB x with
    | false => rw [hx] at h; simp at h
    | true =>
      rw [hx] at h
      simp only [Bool.not_true, cond_false] at h ⊢
      cases hp : pBad p x with
      | true => rw [hp] at h; simp at h
      | false =>
        rw [hp] at h
        simp only [cond_false] at h ⊢
        refine cast_append xs (some x) v h hv ?_
        rw [List.getLast?_cons] at hl
        cases hg : xs.getLast? with
        | none => rw [hg] at hl; exact hl
        | some u => rw [hg] at hl; exact hl

theorem prom_slot {s : SlotT} {b : Int} (h : (promR s b).1 = 0) : slotCode s = 0 ∧ bal b = true ∧ s.2.2.1 ≤ b ∧ promR s b = (0, (s.2.2.2.1, (s.1, (s.2.1, (b, s.2.2.2))))) := by
  unfold promR at h ⊢
  cases h0 : (slotCode s == 0) with
  | false =>
    rw [h0] at h
    simp only [Bool.not_false, cond_true] at h
    rw [h] at h0; simp at h0
  | true =>
    rw [h0] at h
    cases hb : bal b with
    | false => rw [hb] at h; simp at h
    | true =>
      rw [hb] at h
      cases hd : decide (b < s.2.2.1) with
      | true => rw [hd] at h; simp at h
      | false =>
        simp only [decide_eq_false_iff_not] at hd
        exact ⟨by simpa using h0, rfl, by omega, rfl⟩

theorem acc_slotG {s : SlotT} {v : Int × Int} (h : (accR s v).1 = 0) : slotCode s = 0 ∧ s.2.2.1 ≤ v.1 ∧ slotCode (accR s v).2.2 = 0 ∧ votB v = true ∧ (accR s v).2.2.2.2.1 = v.1 ∧ (accR s v).2.2.2.2.2.1 = v ∧ ((accR s v).2.2.2.2.2.2 = s.2.2.2.2 ∧ s.2.2.2.1 = v ∨ (accR s v).2.2.2.2.2.2 = s.2.2.2.2 ++ [v]) := by
  unfold accR at h ⊢
  cases h0 : (slotCode s == 0) with
  | false =>
    rw [h0] at h
    simp only [Bool.not_false, cond_true] at h
    rw [h] at h0; simp at h0
  | true =>
    rw [h0] at h
    have h0' : slotCode s = 0 := by simpa using h0
    obtain ⟨g1, g2, g3, g4, g5⟩ := slotCode_zero h0'
    cases hv : votB v with
    | false => rw [hv] at h; simp at h
    | true =>
      rw [hv] at h
      cases hd : decide (v.1 < s.2.2.1) with
      | true => rw [hd] at h; simp at h
      | false =>
        have hb : s.2.2.1 ≤ v.1 := by have := of_decide_eq_false hd; omega
        have hv3 : inB v.1 (-1) 1000 = true := by
          simp only [votB, bal, Bool.and_eq_true, inB, decide_eq_true_eq] at hv ⊢
          omega
        refine ⟨h0', hb, ?_⟩
        rw [hd] at h
        cases h7 : (v.1 == s.2.2.2.1.1 && !(v.2 == s.2.2.2.1.2)) with
        | true => rw [h7] at h; simp at h
        | false =>
          rw [h7] at h
          cases hn : (!((v.1 == s.2.2.2.1.1) && ((v.2 == s.2.2.2.1.2) && true))) with
          | false =>
            simp only [Bool.not_true, cond_false]
            have hs : s.2.2.2.1 = v := by
              simp only [Bool.and_true, Bool.not_eq_false', Bool.and_eq_true, beq_iff_eq] at hn
              exact (Prod.ext hn.1 hn.2).symm
            refine ⟨slotCode_of ⟨g1.1, g1.2.1, hv3⟩ g2 g3 (by rw [← g4, hs]) (Int.le_refl _), by simp, by simp, by simp, .inl ⟨by simp, hs⟩⟩
          | true =>
            rw [hn] at h
            cases h6 : decide (s.2.2.2.2.length ≥ 60) with
            | true => rw [h6] at h; simp at h
            | false =>
              simp only [decide_eq_false_iff_not] at h6
              simp only [Bool.not_true, cond_false, cond_true]
              refine ⟨slotCode_of ⟨g1.1, g1.2.1, hv3⟩ (by show (s.2.2.2.2 ++ [v]).length ≤ 60; simp; omega) (cast_append _ _ _ g3 hv ?_) ?_ (Int.le_refl _), by simp, by simp, by simp, .inr (by simp)⟩
              · cases hg : s.2.2.2.2.getLast? with
                | none => rfl
                | some u =>
                  have hu : s.2.2.2.1 = u := by rw [g4]; unfold lastV; rw [hg]; rfl
                  show badP u v = false
                  unfold badP
                  rw [← hu]
                  have e1 : decide (v.1 < s.2.2.2.1.1) = false := decide_eq_false (by omega)
                  rw [e1, h7]; rfl
              · show v = lastV (s.2.2.2.2 ++ [v])
                unfold lastV
                simp


theorem prom_code {s : SlotT} {b : Int} (h : (promR s b).1 = 0) : slotCode (promR s b).2.2 = 0 := by
  obtain ⟨h0, hb, hle, he⟩ := prom_slot h
  obtain ⟨g1, g2, g3, g4, g5⟩ := slotCode_zero h0
  rw [he]
  refine slotCode_of ⟨g1.1, g1.2.1, ?_⟩ g2 g3 g4 (by show s.2.2.2.1.1 ≤ b; omega)
  show inB b (-1) 1000 = true
  simp only [bal, inB, Bool.and_eq_true, decide_eq_true_eq] at hb ⊢
  omega
def ordS (xs : List SlotT) : Prop := xs.Pairwise fun a b => aheadB a b = true
theorem ordS_of {xs : List SlotT} (h : ∀ i (hi : i + 1 < xs.length), aheadB xs[i] xs[i + 1] = true) : ordS xs := by
  unfold ordS
  rw [List.pairwise_iff_getElem]
  intro i j hi hj hij
  exact acc_lt h i j hij hj
theorem accCode_of {xs : List SlotT} (h1 : xs.length ≤ 60) (h2 : ∀ x ∈ xs, slotCode x = 0) (h3 : ordS xs) : accCode xs = 0 := by
  unfold accCode
  rw [if_neg (by omega)]
  have key : ∀ (ys : List SlotT) (i : Nat), xs.drop i = ys → fstI (accStep xs) i ys = none := by
    intro ys
    induction ys with
    | nil => intro i _; rfl
    | cons y ys ih =>
      intro i hi
      have hil : i < xs.length := by
        rcases Nat.lt_or_ge i xs.length with h | h
        · exact h
        · rw [List.drop_eq_nil_of_le h] at hi; cases hi
      rw [List.drop_eq_getElem_cons hil] at hi
      simp only [List.cons.injEq] at hi
      obtain ⟨rfl, hi⟩ := hi
      have hs : accStep xs i xs[i] = none := by
        unfold accStep
        rw [h2 _ (List.getElem_mem hil)]
        rcases Nat.eq_zero_or_pos i with h0 | h0
        · subst h0; rfl
        · have h4 := (List.pairwise_iff_getElem.1 h3) (i - 1) i (by omega) hil (by omega)
          rw [List.getElem?_eq_getElem (show i - 1 < xs.length by omega), Option.getD_some, h4]
          simp
      simp only [fstI, hs]
      exact ih (i + 1) hi
  rw [key xs 0 rfl]
theorem ahead_none {a b : SlotT} (h1 : aheadB a b = false) (h2 : aheadB b a = false) : a.1 = b.1 ∧ a.2.1 = b.2.1 := by
  unfold aheadB at h1 h2
  split at h1 <;> split at h2 <;> simp only [decide_eq_false_iff_not] at h1 h2 <;> omega
theorem place_lt {xs : List SlotT} {s : SlotT} {i : Nat} (hi : i < placeS xs s) (hil : i < xs.length) : aheadB xs[i] s = true := by
  unfold placeS at hi
  cases h : xs.findIdx? (fun x => !(aheadB x s)) with
  | none =>
    rw [List.findIdx?_eq_none_iff] at h
    simpa using h xs[i] (List.getElem_mem hil)
  | some j =>
    rw [h] at hi
    obtain ⟨_, _, h2⟩ := List.findIdx?_eq_some_iff_getElem.1 h
    simpa using h2 i hi
theorem place_at {xs : List SlotT} {s : SlotT} (h : placeS xs s < xs.length) : aheadB xs[placeS xs s] s = false := by
  cases hf : xs.findIdx? (fun x => !(aheadB x s)) with
  | none => have : placeS xs s = xs.length := by unfold placeS; rw [hf]; rfl
            omega
  | some j =>
    have e : placeS xs s = j := by unfold placeS; rw [hf]; rfl
    obtain ⟨_, h1, _⟩ := List.findIdx?_eq_some_iff_getElem.1 hf
    simp only [e]
    simpa using h1
theorem accCode_put {xs ys : List SlotT} {s : SlotT} (h : accCode xs = 0) (hs : slotCode s = 0) (hp : putS xs s = some ys) : accCode ys = 0 := by
  obtain ⟨h1, h2, h3⟩ := accCode_zero h
  have ho := ordS_of h3
  have hm := putS_mem hp
  have hget := List.pairwise_iff_getElem.1 ho
  have hle := placeS_le xs s
  unfold putS at hp
  cases hc : (xs[placeS xs s]?).elim false fun y => !(aheadB s y) with
  | true =>
    rw [hc] at hp
    simp only [cond_true, Option.some.injEq] at hp
    have hl : placeS xs s < xs.length := by
      rcases Nat.lt_or_ge (placeS xs s) xs.length with h | h
      · exact h
      · rw [List.getElem?_eq_none h] at hc; cases hc
    rw [List.getElem?_eq_getElem hl] at hc
    have hc' : aheadB s xs[placeS xs s] = false := by simpa using hc
    obtain ⟨k1, k2⟩ := ahead_none hc' (place_at hl)
    refine accCode_of (by rw [← hp, List.length_set]; exact h1) (fun y hy => (hm.1 y hy).elim (h2 y) fun e => e ▸ hs) ?_
    rw [← hp]
    unfold ordS
    rw [List.pairwise_iff_getElem]
    intro i j hi hj hij
    rw [List.length_set] at hi hj
    rw [List.getElem_set, List.getElem_set]
    split
    · rename_i e
      rw [if_neg (by omega)]
      rw [(ahead_key (a := xs[j]) k1 k2).2]
      have := hget (placeS xs s) j hl hj (by omega)
      exact this
    · split
      · rename_i e
        rw [(ahead_key (a := xs[i]) k1 k2).1]
        exact hget i (placeS xs s) hi hl (by omega)
      · exact hget i j hi hj hij
  | false =>
    rw [hc] at hp
    simp only [cond_false] at hp
    cases h6 : decide (xs.length ≥ 60) with
    | true => rw [h6] at hp; cases hp
    | false =>
      rw [h6] at hp
      simp only [cond_false, Option.some.injEq] at hp
      have h6 := of_decide_eq_false h6
      refine accCode_of (by have := hm.2; omega) (fun y hy => (hm.1 y hy).elim (h2 y) fun e => e ▸ hs) ?_
      rw [← hp, List.append_assoc]
      have hdrop : ∀ y ∈ xs.drop (placeS xs s), aheadB s y = true := by
        intro y hy
        obtain ⟨k, hk, rfl⟩ := List.getElem_of_mem hy
        rw [List.length_drop] at hk
        have hl : placeS xs s < xs.length := by omega
        rw [List.getElem?_eq_getElem hl] at hc
        have hc' : aheadB s xs[placeS xs s] = true := by simpa using hc
        rw [List.getElem_drop]
        rcases Nat.eq_zero_or_pos k with rfl | hk0
        · simpa using hc'
        · exact ahead_trans hc' (hget (placeS xs s) (placeS xs s + k) hl (by omega) (by omega))
      have htake : ∀ y ∈ xs.take (placeS xs s), aheadB y s = true := by
        intro y hy
        obtain ⟨k, hk, rfl⟩ := List.getElem_of_mem hy
        rw [List.length_take] at hk
        rw [List.getElem_take]
        exact place_lt (by omega) (by omega)
      refine List.pairwise_append.2 ⟨ho.sublist (List.take_sublist _ _), List.pairwise_append.2 ⟨by simp, ho.sublist (List.drop_sublist _ _), fun a ha b hb => ?_⟩, fun a ha b hb => ?_⟩
      · rw [List.mem_singleton.1 ha]; exact hdrop b hb
      · rcases List.mem_append.1 hb with hb | hb
        · rw [List.mem_singleton.1 hb]; exact htake a ha
        · exact ahead_trans (htake a ha) (hdrop b hb)
/-- What an acceptor holds behind a promise or a vote that it gave is without fault. -/
theorem told_code {xs : List SlotT} {r : Int × ((Int × Int) × SlotT)} (h : accCode xs = 0) (hr : r.1 = 0 → slotCode r.2.2 = 0) (hc : (toldR xs r).1 = 0) : accCode (toldR xs r).2.2 = 0 := by
  unfold toldR at hc ⊢
  cases h0 : (r.1 == 0) with
  | false =>
    rw [h0] at hc
    simp only [Bool.not_false, cond_true] at hc
    rw [beq_eq_false_iff_ne] at h0
    exact absurd hc h0
  | true =>
    rw [h0] at hc
    simp only [Bool.not_true, cond_false] at hc ⊢
    cases hp : putS xs r.2.2 with
    | none => rw [hp] at hc; exact absurd (show (2 : Int) = 0 from hc) (by decide)
    | some ys => exact accCode_put h (hr (eq_of_beq h0)) hp
end Go.Rv
namespace Go.Rv
/-! A ballot: promises, then votes, acceptor by acceptor. -/
abbrev BSt := List Int × (List VoteT × List (List SlotT))
def promStep (c d b : Int) (st : BSt) (y : Int) : BSt := (st.2.2[y.toNat]?).elim st fun a => cond ((toldR a (promR (slotOf a c d) b)).1 == 0) (st.1 ++ [y], (st.2.1 ++ [(toldR a (promR (slotOf a c d) b)).2.1], st.2.2.set y.toNat (toldR a (promR (slotOf a c d) b)).2.2)) st
def voteStep (c d : Int) (v : VoteT) (accs : List (List SlotT)) (y : Int) : List (List SlotT) := (accs[y.toNat]?).elim accs fun a => cond ((toldR a (accR (slotOf a c d) v)).1 == 0) (accs.set y.toNat (toldR a (accR (slotOf a c d) v)).2.2) accs
def AccsOK (N : Nat) (accs : List (List SlotT)) : Prop := accs.length = N ∧ ∀ a ∈ accs, accCode a = 0
theorem AccsOK.set {N : Nat} {accs : List (List SlotT)} (h : AccsOK N accs) (k : Nat) {a : List SlotT} (ha : accCode a = 0) : AccsOK N (accs.set k a) :=
  ⟨by rw [List.length_set]; exact h.1, fun x hx => (List.mem_or_eq_of_mem_set hx).elim (h.2 x) fun e => e ▸ ha⟩
theorem vote_ok {s : SlotT} (h : slotCode s = 0) : badV s.2.2.2.1 = false := by
  obtain ⟨_, _, g3, g4, _⟩ := slotCode_zero h
  rw [g4]
  unfold lastV
  cases hg : s.2.2.2.2.getLast? with
  | none => rfl
  | some v =>
    have hv := (castGo_ord _ none g3).2.2 v (List.mem_of_getLast? hg)
    show badV v = false
    unfold badV
    simp only [votB] at hv
    rw [hv]; simp
theorem slotOf_code {a : List SlotT} {c d : Int} (ha : accCode a = 0) (hn : (idB c && shB d) = true) : slotCode (slotOf a c d) = 0 := (slotOf_ok (accCode_zero ha).2.1 hn).1
theorem told_prom {a : List SlotT} {c d b : Int} (ha : accCode a = 0) (h : (toldR a (promR (slotOf a c d) b)).1 = 0) : accCode (toldR a (promR (slotOf a c d) b)).2.2 = 0 := told_code ha prom_code h
theorem told_acc {a : List SlotT} {c d : Int} {v : VoteT} (ha : accCode a = 0) (h : (toldR a (accR (slotOf a c d) v)).1 = 0) : accCode (toldR a (accR (slotOf a c d) v)).2.2 = 0 := told_code ha (fun h => (acc_slotG h).2.2.1) h
theorem told_vote {a : List SlotT} {r : Int × ((Int × Int) × SlotT)} (h : (toldR a r).1 = 0) : r.1 = 0 ∧ (toldR a r).2.1 = r.2.1 := by
  unfold toldR at h ⊢
  cases h0 : (r.1 == 0) with
  | false =>
    rw [h0] at h
    simp only [Bool.not_false, cond_true] at h
    rw [beq_eq_false_iff_ne] at h0
    exact absurd h h0
  | true =>
    rw [h0] at h
    simp only [Bool.not_true, cond_false] at h ⊢
    cases hp : putS a r.2.2 with
    | none => rw [hp] at h; exact absurd (show (2 : Int) = 0 from h) (by decide)
    | some ys => exact ⟨eq_of_beq h0, rfl⟩
theorem prom_vote {a : List SlotT} {c d b : Int} (h : (toldR a (promR (slotOf a c d) b)).1 = 0) : badV (toldR a (promR (slotOf a c d) b)).2.1 = false := by
  obtain ⟨h1, h2⟩ := told_vote h
  obtain ⟨g0, _, _, he⟩ := prom_slot h1
  rw [h2, he]
  exact vote_ok g0
structure PI (N : Nat) (rs : List Int) (i : Nat) (st : BSt) : Prop where
  ok : AccsOK N st.2.2
  len : st.1.length ≤ i
  vlen : st.2.1.length = st.1.length
  mem : ∀ y ∈ st.1, y ∈ rs
  vok : ∀ v ∈ st.2.1, badV v = false
theorem PI.step {N : Nat} {rs : List Int} {i : Nat} {st : BSt} (h : PI N rs i st) (hi : i < rs.length) (c d b : Int) : PI N rs (i + 1) (promStep c d b st rs[i]) := by
  unfold promStep
  cases ha : st.2.2[rs[i].toNat]? with
  | none => exact ⟨h.ok, Nat.le_succ_of_le h.len, h.vlen, h.mem, h.vok⟩
  | some a =>
    simp only [Option.elim]
    have hm := List.mem_of_getElem? ha
    cases hc : (toldR a (promR (slotOf a c d) b)).1 == 0 with
    | false => exact ⟨h.ok, Nat.le_succ_of_le h.len, h.vlen, h.mem, h.vok⟩
    | true =>
      have hc := eq_of_beq hc
      refine ⟨h.ok.set _ (told_prom (h.ok.2 a hm) hc), by simp only [cond_true, List.length_append, List.length_cons, List.length_nil]; have := h.len; omega, by simp [h.vlen], fun y hy => ?_, fun v hv => ?_⟩
      · simp only [cond_true, List.mem_append, List.mem_singleton] at hy
        rcases hy with hy | rfl
        · exact h.mem y hy
        · exact List.getElem_mem hi
      · simp only [cond_true, List.mem_append, List.mem_singleton] at hv
        rcases hv with hv | rfl
        · exact h.vok v hv
        · exact prom_vote hc
theorem voteStep_ok {N : Nat} {accs : List (List SlotT)} (h : AccsOK N accs) (c d : Int) (v : VoteT) (y : Int) : AccsOK N (voteStep c d v accs y) := by
  unfold voteStep
  cases ha : accs[y.toNat]? with
  | none => exact h
  | some a =>
    simp only [Option.elim]
    cases hc : (toldR a (accR (slotOf a c d) v)).1 == 0 with
    | false => exact h
    | true => exact h.set _ (told_acc (h.2 a (List.mem_of_getElem? ha)) (eq_of_beq hc))
def upI (rs : List Int) : Prop := ∀ (i : Nat) (h : i + 1 < rs.length), rs[i] < rs[i + 1]
theorem up_len {rs : List Int} {N : Nat} (hu : upI rs) (h : ∀ y ∈ rs, 0 ≤ y ∧ y < (N : Int)) : rs.length ≤ N := by
  have key : ∀ (i : Nat) (hi : i < rs.length), (i : Int) ≤ rs[i] := by
    intro i
    induction i with
    | zero => intro hi; exact (h _ (List.getElem_mem hi)).1
    | succ i ih => intro hi; have := ih (by omega); have := hu i hi; omega
  rcases Nat.eq_zero_or_pos rs.length with h0 | h0
  · omega
  · have h1 := key (rs.length - 1) (by omega)
    have h2 := (h _ (List.getElem_mem (show rs.length - 1 < rs.length by omega))).2
    omega
/-- What a ballot answers. -/
def reachC (N : Nat) (rs : List Int) : Int := cond (rs.any fun y => !(inB y 0 ((N : Int) - 1))) 3 (cond ((List.range (rs.length - 1)).any fun i => decide (rs[i + 1]?.getD 0 ≤ rs[i]?.getD 0)) 7 0)
abbrev RunR := Int × (Int × List (List SlotT))
def promAll (accs : List (List SlotT)) (rs : List Int) (c d b : Int) : BSt := rs.foldl (promStep c d b) ([], ([], accs))
def pickOf (st : BSt) (v : Int) : Int := (st.2.1.foldl bestV (-1, v)).2
def runR (accs : List (List SlotT)) (rs : List Int) (c d b v : Int) : RunR :=
  cond (!((if accsCode accs = 0 then (newR c d).1 else accsCode accs) == 0)) ((if accsCode accs = 0 then (newR c d).1 else accsCode accs), (0, []))
    (cond (!(bal b && vlu v)) (3, (0, [])) (cond (!(reachC accs.length rs == 0)) (reachC accs.length rs, (0, []))
      (cond (decide ((promAll accs rs c d b).1.length < quo accs.length)) (4, (0, (promAll accs rs c d b).2.2))
        (0, (pickOf (promAll accs rs c d b) v, (promAll accs rs c d b).1.foldl (voteStep c d (b, pickOf (promAll accs rs c d b) v)) (promAll accs rs c d b).2.2)))))
theorem reach_zero {N : Nat} {rs : List Int} (h : reachC N rs = 0) : (∀ y ∈ rs, 0 ≤ y ∧ y < (N : Int)) ∧ upI rs := by
  unfold reachC at h
  cases h1 : rs.any fun y => !(inB y 0 ((N : Int) - 1)) with
  | true => rw [h1] at h; exact absurd (show (3 : Int) = 0 from h) (by decide)
  | false =>
    rw [h1] at h
    simp only [cond_false] at h
    cases h2 : (List.range (rs.length - 1)).any fun i => decide (rs[i + 1]?.getD 0 ≤ rs[i]?.getD 0) with
    | true => rw [h2] at h; exact absurd (show (7 : Int) = 0 from h) (by decide)
    | false =>
      rw [List.any_eq_false] at h1 h2
      refine ⟨fun y hy => ?_, fun i hi => ?_⟩
      · have := h1 y hy
        simp only [inB, Bool.not_eq_true, Bool.not_eq_false', Bool.and_eq_true, decide_eq_true_eq] at this
        omega
      · have := h2 i (List.mem_range.2 (by omega))
        rw [List.getElem?_eq_getElem hi, List.getElem?_eq_getElem (show i < rs.length by omega)] at this
        simp only [Option.getD_some, decide_eq_true_eq] at this
        omega
def adjB (rs : List Int) : Bool := (List.range (rs.length - 1)).any fun i => decide (rs[i + 1]?.getD 0 ≤ rs[i]?.getD 0)
theorem lp_adj {R : Type} (rs : List Int) (c fin : Option R) {step : (Int → Option R) → Int → Option R} (hl : rs.length ≤ B36)
    (h1 : ∀ (i : Nat) (hi : i + 1 < rs.length) rec, step rec ((i + 1 : Nat) : Int) = cond (decide (rs[i + 1] ≤ rs[i])) c (rec ((i + 1 + 1 : Nat) : Int)))
    (h2 : ∀ (n : Nat) rec, rs.length ≤ n → step rec (n : Int) = fin) : lp step FU (1 : Int) = cond (adjB rs) c fin := by
  have hg : ∀ (i : Nat) (hi : i + 1 < rs.length), decide (rs[i + 1]?.getD 0 ≤ rs[i]?.getD 0) = decide (rs[i + 1] ≤ rs[i]) := fun i hi => by
    rw [List.getElem?_eq_getElem hi, List.getElem?_eq_getElem (show i < rs.length by omega)]; rfl
  refine lp_for (fun r => r = cond (adjB rs) c fin) (fun i z => z = ((i + 1 : Nat) : Int) ∧ ∀ j, j < i → decide (rs[j + 1]?.getD 0 ≤ rs[j]?.getD 0) = false) (rs.length - 1) (fun i z hi hz => ?_) (fun z hz rec => ?_) FU _ (FUb (by omega)) ⟨rfl, fun j hj => by omega⟩
  · obtain ⟨rfl, hz⟩ := hz
    have hi1 : i + 1 < rs.length := by omega
    cases hb : decide (rs[i + 1] ≤ rs[i]) with
    | true =>
      refine .inl fun rec => ?_
      rw [h1 i hi1 rec, hb]
      have : adjB rs = true := by
        unfold adjB
        rw [List.any_eq_true]
        exact ⟨i, List.mem_range.2 hi, by rw [hg i hi1]; exact hb⟩
      rw [this]; rfl
    | false =>
      refine .inr ⟨_, ⟨rfl, fun j hj => ?_⟩, fun rec => by rw [h1 i hi1 rec, hb]; rfl⟩
      rcases Nat.lt_or_ge j i with h | h
      · exact hz j h
      · have : j = i := by omega
        subst this; rw [hg j hi1]; exact hb
  · obtain ⟨rfl, hz⟩ := hz
    rw [h2 _ rec (by omega)]
    have : adjB rs = false := by
      unfold adjB
      rw [List.any_eq_false]
      intro j hj
      rw [hz j (List.mem_range.1 hj)]; decide
    rw [this]; rfl
theorem reachC_eq (N : Nat) (rs : List Int) : reachC N rs = cond (rs.any fun y => !(inB y 0 ((N : Int) - 1))) 3 (cond (adjB rs) 7 0) := rfl
theorem slotsR_code (accs : List (List SlotT)) (c d : Int) : (slotsR accs c d).1 = if accsCode accs = 0 then (newR c d).1 else accsCode accs := by
  unfold slotsR newR
  by_cases h : accsCode accs = 0
  · rw [if_pos h, h]
    cases (idB c && shB d) <;> rfl
  · have hb : (accsCode accs == 0) = false := by simpa using h
    rw [if_neg h, hb]; rfl
theorem newR_zero {c d : Int} (h : (newR c d).1 = 0) : (idB c && shB d) = true := by
  unfold newR at h
  cases hn : (idB c && shB d) with
  | true => rfl
  | false => rw [hn] at h; exact absurd (show (3 : Int) = 0 from h) (by decide)
theorem pickV_eq {st : BSt} {v : Int} (h1 : st.2.1.length ≤ 9) (h2 : ∀ u ∈ st.2.1, badV u = false) (h3 : vlu v = true) : (pickV st.2.1 v).2 = pickOf st v := by
  unfold pickV pickOf
  have : st.2.1.any badV = false := by rw [List.any_eq_false]; intro u hu; rw [h2 u hu]; decide
  rw [if_neg (by omega), this, h3]; rfl
end Go.Rv
