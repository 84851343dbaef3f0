/- One slot, ballot after ballot: plain facts. No condition. -/
import Derived.Test.YtccghpomkikjoaaGreatRvV
namespace Go.Rv
/-! One slot, ballot after ballot: what the acceptors agree on. -/
def S1 (a : List SlotT) : SlotT := slotOf a 7 1
def shape1 (a : List SlotT) : Prop := a = [] ∨ ∃ s, a = [s] ∧ s.1 = 7 ∧ s.2.1 = 1
theorem S1_one {s : SlotT} (h1 : s.1 = 7) (h2 : s.2.1 = 1) : S1 [s] = s := by
  unfold S1 slotOf isSlot
  simp [h1, h2]
theorem S1_nil : S1 [] = newS 7 1 := rfl
theorem put_one {a : List SlotT} {s : SlotT} (ha : shape1 a) (h1 : s.1 = 7) (h2 : s.2.1 = 1) : putS a s = some [s] := by
  rcases ha with rfl | ⟨t, rfl, k1, k2⟩
  · rfl
  · have e1 : aheadB t s = false := by unfold aheadB; simp [h1, h2, k1, k2]
    have e2 : aheadB s t = false := by unfold aheadB; simp [h1, h2, k1, k2]
    unfold putS placeS
    simp [List.findIdx?_cons, e1, e2]
theorem told_one {a : List SlotT} {r : Int × ((Int × Int) × SlotT)} (ha : shape1 a) (h0 : r.1 = 0) (h1 : r.2.2.1 = 7) (h2 : r.2.2.2.1 = 1) : toldR a r = (0, (r.2.1, [r.2.2])) := by
  unfold toldR
  rw [put_one ha h1 h2, h0]; rfl
theorem n71 : (idB 7 && shB 1) = true := by decide
theorem S1_key (a : List SlotT) : (S1 a).1 = 7 ∧ (S1 a).2.1 = 1 := slotOf_key a 7 1
theorem S1_code {a : List SlotT} (h : accCode a = 0) : slotCode (S1 a) = 0 := slotOf_code h n71
def casts (a : List SlotT) : List VoteT := castS (S1 a)
/-- What one acceptor comes to by a promise that it gives. -/
theorem prom_one {a : List SlotT} {b : Int} (hs : shape1 a) (hc : accCode a = 0) (hb : bal b = true) (hp : (S1 a).2.2.1 ≤ b) :
    toldR a (promR (slotOf a 7 1) b) = (0, ((S1 a).2.2.2.1, [(7, (1, (b, (S1 a).2.2.2)))])) := by
  have h0 := S1_code hc
  have hk := S1_key a
  have e : promR (S1 a) b = (0, ((S1 a).2.2.2.1, ((S1 a).1, ((S1 a).2.1, (b, (S1 a).2.2.2))))) := by
    unfold promR
    have hd : decide (b < (S1 a).2.2.1) = false := decide_eq_false (by omega)
    rw [h0, hb, hd]; rfl
  have := told_one (a := a) (r := promR (S1 a) b) hs (by rw [e]) (by rw [e]; exact hk.1) (by rw [e]; exact hk.2)
  show toldR a (promR (S1 a) b) = _
  rw [this, e, hk.1, hk.2]
theorem prom_not {a : List SlotT} {b : Int} (hc : accCode a = 0) (hb : bal b = true) (hp : b < (S1 a).2.2.1) : (toldR a (promR (slotOf a 7 1) b)).1 = 8 := by
  have h0 := S1_code hc
  have e : promR (S1 a) b = (8, zS) := by
    unfold promR
    have hd : decide (b < (S1 a).2.2.1) = true := decide_eq_true hp
    rw [h0, hb, hd]; rfl
  show (toldR a (promR (S1 a) b)).1 = 8
  rw [e]; rfl
/-- What one acceptor comes to by a vote. -/
theorem vote_one {a : List SlotT} {b w : Int} (hs : shape1 a) (hc : accCode a = 0) (hv : votB (b, w) = true) (hp : (S1 a).2.2.1 = b) (hw : ∀ u ∈ (S1 a).2.2.2.2, u.2 = w) (hl : (S1 a).2.2.2.2.length < 60) :
    ∃ s', (toldR a (accR (slotOf a 7 1) (b, w))).1 = 0 ∧ (toldR a (accR (slotOf a 7 1) (b, w))).2.2 = [s'] ∧ s'.1 = 7 ∧ s'.2.1 = 1 ∧ s'.2.2.1 = b ∧ (b, w) ∈ s'.2.2.2.2 ∧ (∀ u ∈ s'.2.2.2.2, u.2 = w) ∧ s'.2.2.2.2.length ≤ (S1 a).2.2.2.2.length + 1 ∧ (∀ u ∈ (S1 a).2.2.2.2, u ∈ s'.2.2.2.2) := by
  have h0 := S1_code hc
  obtain ⟨g1, g2, g3, g4, g5⟩ := slotCode_zero h0
  have hk := S1_key a
  have hlast : ∀ u, (S1 a).2.2.2.2.getLast? = some u → (S1 a).2.2.2.1 = u := fun u hu => by rw [g4]; unfold lastV; rw [hu]; rfl
  have hne : (S1 a).2.2.2.2 = [] → (S1 a).2.2.2.1 = (-1, 0) := fun he => by rw [g4, he]; rfl
  have hb0 : 0 ≤ b := by simp only [votB, bal, Bool.and_eq_true, decide_eq_true_eq] at hv; exact hv.1.1
  have h0c : (accR (S1 a) (b, w)).1 = 0 := by
    unfold accR
    have hd : decide (b < (S1 a).2.2.1) = false := decide_eq_false (by omega)
    have h7 : (b == (S1 a).2.2.2.1.1 && !(w == (S1 a).2.2.2.1.2)) = false := by
      cases hg : (S1 a).2.2.2.2.getLast? with
      | none =>
        have := hne (List.getLast?_eq_none_iff.1 hg)
        rw [this]
        have : (b == (-1 : Int)) = false := by rw [beq_eq_false_iff_ne]; omega
        rw [this]; rfl
      | some u =>
        rw [hlast u hg, hw u (List.mem_of_getLast? hg)]
        simp
    have h6 : decide ((S1 a).2.2.2.2.length ≥ 60) = false := decide_eq_false (by omega)
    rw [h0, hv]
    simp only [hd, h7, h6, beq_self_eq_true, Bool.not_true, cond_false]
    cases (!((b == (S1 a).2.2.2.1.1) && ((w == (S1 a).2.2.2.1.2) && true))) <;> rfl
  obtain ⟨_, _, q3, _, q5, q6, q7⟩ := acc_slotG h0c
  have hkey := accR_key (S1 a) (b, w) h0c
  have ht := told_one (a := a) (r := accR (S1 a) (b, w)) hs h0c (hkey.1.trans hk.1) (hkey.2.trans hk.2)
  refine ⟨(accR (S1 a) (b, w)).2.2, ?_, ?_, hkey.1.trans hk.1, hkey.2.trans hk.2, q5, ?_, ?_, ?_, ?_⟩
  · show (toldR a (accR (S1 a) (b, w))).1 = 0
    rw [ht]
  · show (toldR a (accR (S1 a) (b, w))).2.2 = _
    rw [ht]
  · rcases q7 with ⟨e, hl2⟩ | e
    · rw [e]
      cases hg : (S1 a).2.2.2.2.getLast? with
      | none =>
        have := hne (List.getLast?_eq_none_iff.1 hg)
        rw [this] at hl2
        have : (-1 : Int) = b := congrArg (·.1) hl2
        omega
      | some u => rw [← hl2, hlast u hg]; exact List.mem_of_getLast? hg
    · rw [e]; simp
  · intro u hu
    rcases q7 with ⟨e, _⟩ | e
    · rw [e] at hu; exact hw u hu
    · rw [e] at hu
      rcases List.mem_append.1 hu with hu | hu
      · exact hw u hu
      · rw [List.mem_singleton.1 hu]
  · rcases q7 with ⟨e, _⟩ | e
    · rw [e]; omega
    · rw [e]; simp
  · intro u hu
    rcases q7 with ⟨e, _⟩ | e
    · rw [e]; exact hu
    · rw [e]; exact List.mem_append_left _ hu
end Go.Rv
namespace Go.Rv
/-! One slot, ballot after ballot: a value that is chosen stays so. -/
theorem nodup_sub {α : Type} [BEq α] [LawfulBEq α] : ∀ (js l : List α), js.Nodup → (∀ j ∈ js, j ∈ l) → js.length ≤ l.length
  | [], _, _, _ => Nat.zero_le _
  | x :: js, l, hn, h => by
    obtain ⟨h1, h2⟩ := List.nodup_cons.1 hn
    have ih := nodup_sub js (l.erase x) h2 fun j hj => (List.mem_erase_of_ne (fun (he : j = x) => h1 (he ▸ hj))).2 (h j (List.mem_cons_of_mem _ hj))
    have hx := h x List.mem_cons_self
    rw [List.length_erase_of_mem hx] at ih
    have := List.length_pos_of_mem hx
    rw [List.length_cons]
    omega
theorem nodup_range {N : Nat} (js : List Nat) (hn : js.Nodup) (hj : ∀ j ∈ js, j < N) (p : Nat → Bool) (hp : ∀ j ∈ js, p j = true) : js.length ≤ (List.range N).countP p := by
  rw [List.countP_eq_length_filter]
  exact nodup_sub js _ hn fun j h => List.mem_filter.2 ⟨List.mem_range.2 (hj j h), hp j h⟩
theorem countP_range {α : Type} (p : α → Bool) : ∀ (xs : List α), xs.countP p = (List.range xs.length).countP fun j => (xs[j]?).elim false p
  | [] => rfl
  | x :: xs => by
    rw [List.length_cons, List.range_succ_eq_map, List.countP_cons, List.countP_cons, List.countP_map, countP_range p xs]
    rfl
theorem count_ids {α : Type} {xs : List α} {p : α → Bool} {ids : List Int} (hn : ids.Nodup) (hin : ∀ y ∈ ids, 0 ≤ y ∧ y < (xs.length : Int)) (hp : ∀ y ∈ ids, ∀ a, xs[y.toNat]? = some a → p a = true) : ids.length ≤ xs.countP p := by
  rw [countP_range p xs]
  have := nodup_range (N := xs.length) (ids.map Int.toNat) (by
    refine List.Pairwise.map _ ?_ (List.Pairwise.imp_of_mem (R := fun a b => a ≠ b) (S := fun a b => a.toNat ≠ b.toNat) (fun {a b} ha hb hab he => hab ?_) hn)
    · intro a b h; exact h
    · have := (hin a ha).1; have := (hin b hb).1; omega) (fun j hj => by
    obtain ⟨y, hy, rfl⟩ := List.mem_map.1 hj
    have := hin y hy; omega) (fun j => (xs[j]?).elim false p) (fun j hj => by
    obtain ⟨y, hy, rfl⟩ := List.mem_map.1 hj
    have h2 := hin y hy
    have hl : y.toNat < xs.length := by omega
    rw [List.getElem?_eq_getElem hl]
    exact hp y hy _ (List.getElem?_eq_getElem hl))
  simpa using this
theorem ids_meet {α : Type} {xs : List α} {p : α → Bool} {ids : List Int} (hn : ids.Nodup) (hin : ∀ y ∈ ids, 0 ≤ y ∧ y < (xs.length : Int)) (h1 : quo xs.length ≤ ids.length) (h2 : quo xs.length ≤ xs.countP p) : ∃ y ∈ ids, ∃ a, xs[y.toNat]? = some a ∧ p a = true := by
  apply Classical.byContradiction
  intro hno
  have h3 := count_ids (p := fun a => !p a) hn hin (fun y hy a ha => by
    cases hp : p a with
    | false => rfl
    | true => exact absurd ⟨y, hy, a, ha, hp⟩ hno)
  have h4 := List.length_eq_countP_add_countP p (l := xs)
  have h5 : xs.countP (fun a => !p a) = xs.countP (fun a => decide ¬p a = true) := by
    apply List.countP_congr
    intro a _
    cases p a <;> simp
  unfold quo at h1 h2
  omega
def isN (N : Nat) (y : Int) : Prop := 0 ≤ y ∧ y < (N : Int)
structure Base (N : Nat) (accs : List (List SlotT)) : Prop where
  ok : AccsOK N accs
  sh : ∀ a ∈ accs, shape1 a
  pr : ∀ a ∈ accs, (S1 a).2.2.1 ≤ 500
theorem Base.set {N : Nat} {accs : List (List SlotT)} (h : Base N accs) (k : Nat) {s : SlotT} (h0 : slotCode s = 0) (h1 : s.1 = 7) (h2 : s.2.1 = 1) (h3 : s.2.2.1 ≤ 500) : Base N (accs.set k [s]) := by
  refine ⟨h.ok.set k ?_, fun a ha => ?_, fun a ha => ?_⟩
  · show accCode [s] = 0
    unfold accCode accStep
    simp [fstI, h0]
  · rcases List.mem_or_eq_of_mem_set ha with ha | rfl
    · exact h.sh a ha
    · exact .inr ⟨s, rfl, h1, h2⟩
  · rcases List.mem_or_eq_of_mem_set ha with ha | rfl
    · exact h.pr a ha
    · rw [S1_one h1 h2]; exact h3
theorem set_get {α : Type} {xs : List α} {k : Nat} (hk : k < xs.length) (a : α) (j : Nat) : (xs.set k a)[j]? = if j = k then some a else xs[j]? := by
  by_cases h : j = k
  · subst h; rw [if_pos rfl]; simp [hk]
  · rw [if_neg h, List.getElem?_set_ne (fun h' => h h'.symm)]
/-- Promises, so far. -/
structure PrI (N : Nat) (accs : List (List SlotT)) (rs : List Int) (b : Int) (i : Nat) (st : BSt) : Prop where
  base : Base N st.2.2
  same : ∀ (k : Nat) a a', accs[k]? = some a → st.2.2[k]? = some a' → (S1 a').2.2.2 = (S1 a).2.2.2
  sub : st.1.Sublist (rs.take i)
  at_b : ∀ y ∈ st.1, ∀ a, st.2.2[y.toNat]? = some a → (S1 a).2.2.1 = b
  all : b = 500 → st.1 = rs.take i
  votes : st.2.1 = st.1.map fun y => (S1 (accs[y.toNat]?.getD [])).2.2.2.1
theorem PrI.step {N : Nat} {accs : List (List SlotT)} {rs : List Int} {b : Int} {i : Nat} {st : BSt} (hl : accs.length = N) (h : PrI N accs rs b i st) (hi : i < rs.length) (hin : ∀ y ∈ rs, 0 ≤ y ∧ y < (N : Int)) (hb : bal b = true) (hb5 : b ≤ 500) : PrI N accs rs b (i + 1) (promStep 7 1 b st rs[i]) := by
  have hy := hin rs[i] (List.getElem_mem hi)
  have hk : rs[i].toNat < st.2.2.length := by rw [h.base.ok.1]; omega
  have hka : rs[i].toNat < accs.length := by omega
  have ha := List.getElem?_eq_getElem hk
  have haa := List.getElem?_eq_getElem hka
  have hm := List.getElem_mem hk
  have hc := h.base.ok.2 _ hm
  have ht : rs.take (i + 1) = rs.take i ++ [rs[i]] := by rw [List.take_add_one, List.getElem?_eq_getElem hi]; rfl
  have hsame := h.same _ _ _ haa ha
  unfold promStep
  rw [ha]
  simp only [Option.elim]
  by_cases hp : (S1 st.2.2[rs[i].toNat]).2.2.1 ≤ b
  · have hone := prom_one (h.base.sh _ hm) hc hb hp
    rw [hone]
    simp only [beq_self_eq_true, cond_true]
    obtain ⟨g1, g2, g3, g4, g5⟩ := slotCode_zero (S1_code hc)
    have hkey := S1_key st.2.2[rs[i].toNat]
    have h0 : slotCode (7, (1, (b, (S1 st.2.2[rs[i].toNat]).2.2.2))) = 0 := by
      refine slotCode_of ⟨(by decide : idB 7 = true), (by decide : shB 1 = true), ?_⟩ g2 g3 g4 (by show (S1 st.2.2[rs[i].toNat]).2.2.2.1.1 ≤ b; omega)
      simp only [bal, Bool.and_eq_true, decide_eq_true_eq] at hb
      simp only [inB, Bool.and_eq_true, decide_eq_true_eq]
      omega
    have hS : S1 [((7 : Int), ((1 : Int), (b, (S1 st.2.2[rs[i].toNat]).2.2.2)))] = (7, (1, (b, (S1 st.2.2[rs[i].toNat]).2.2.2))) := S1_one rfl rfl
    refine ⟨h.base.set _ h0 rfl rfl hb5, fun k a a' e1 e2 => ?_, ?_, fun y hy a e => ?_, fun e => ?_, ?_⟩
    · rw [set_get hk] at e2
      split at e2
      · rename_i hkk
        subst hkk
        cases e2
        rw [hS]
        exact h.same _ _ _ e1 ha
      · exact h.same _ _ _ e1 e2
    · rw [ht]; exact h.sub.append (List.Sublist.refl _)
    · rw [set_get hk] at e
      split at e
      · cases e; rw [hS]
      · rename_i hne
        rcases List.mem_append.1 hy with hy | hy
        · exact h.at_b y hy a e
        · rw [List.mem_singleton] at hy; rw [hy] at hne; exact absurd rfl hne
    · rw [ht, h.all e]
    · show _ ++ [(S1 st.2.2[rs[i].toNat]).2.2.2.1] = _
      rw [h.votes, List.map_append, List.map_cons, List.map_nil, haa, Option.getD_some, hsame]
  · have hnot := prom_not hc hb (by omega)
    have : ((toldR st.2.2[rs[i].toNat] (promR (slotOf st.2.2[rs[i].toNat] 7 1) b)).1 == 0) = false := by rw [hnot]; rfl
    rw [this]
    simp only [cond_false]
    refine ⟨h.base, h.same, ?_, h.at_b, fun e => ?_, h.votes⟩
    · rw [ht]; exact h.sub.trans (List.sublist_append_left _ _)
    · have := h.base.pr _ hm
      omega
theorem prom_inv {N : Nat} {accs : List (List SlotT)} {rs : List Int} {b : Int} (h : Base N accs) (hin : ∀ y ∈ rs, 0 ≤ y ∧ y < (N : Int)) (hb : bal b = true) (hb5 : b ≤ 500) : PrI N accs rs b rs.length (promAll accs rs 7 1 b) := by
  have key : ∀ (ys : List Int) (i : Nat) (st : BSt), rs.drop i = ys → i ≤ rs.length → PrI N accs rs b i st → PrI N accs rs b rs.length (ys.foldl (promStep 7 1 b) st) := by
    intro ys
    induction ys with
    | nil =>
      intro i st hd hi hI
      have : i = rs.length := by
        have := congrArg List.length hd
        simp at this; omega
      subst this; exact hI
    | cons y ys ih =>
      intro i st hd hi hI
      have hil : i < rs.length := by
        rcases Nat.lt_or_ge i rs.length with h | h
        · exact h
        · rw [List.drop_eq_nil_of_le h] at hd; cases hd
      rw [List.drop_eq_getElem_cons hil] at hd
      simp only [List.cons.injEq] at hd
      obtain ⟨rfl, hd⟩ := hd
      exact ih (i + 1) _ hd hil (hI.step h.ok.1 hil hin hb hb5)
  refine key rs 0 ([], ([], accs)) rfl (Nat.zero_le _) ⟨h, fun k a a' e1 e2 => ?_, List.Sublist.refl _, (fun y hy => by cases hy), (fun _ => rfl), rfl⟩
  rw [e1] at e2; cases e2; rfl
end Go.Rv
namespace Go.Rv
theorem best_none (w : Int) : ∀ (vs : List VoteT), (∀ u ∈ vs, u.1 = -1) → vs.foldl bestV (-1, w) = (-1, w)
  | [], _ => rfl
  | u :: vs, h => by
    have hu := h u List.mem_cons_self
    have e : bestV (-1, w) u = (-1, w) := by unfold bestV; rw [if_neg (by omega)]
    rw [List.foldl_cons, e]
    exact best_none w vs fun x hx => h x (List.mem_cons_of_mem _ hx)
theorem best_val (v : Int) : ∀ (vs : List VoteT) (s : VoteT), (s.1 = -1 ∨ (0 ≤ s.1 ∧ s.2 = v)) → (∀ u ∈ vs, u.1 = -1 ∨ (0 ≤ u.1 ∧ u.2 = v)) → ((0 ≤ s.1 ∧ s.2 = v) ∨ ∃ u ∈ vs, 0 ≤ u.1) → (vs.foldl bestV s).2 = v
  | [], s, _, _, h => by
    rcases h with h | ⟨u, hu, _⟩
    · exact h.2
    · cases hu
  | u :: vs, s, hs, h, hex => by
    rw [List.foldl_cons]
    have hu := h u List.mem_cons_self
    have hrest := fun x hx => h x (List.mem_cons_of_mem _ hx)
    by_cases hgt : u.1 > s.1
    · have e : bestV s u = u := by unfold bestV; rw [if_pos hgt]
      rw [e]
      have h0 : 0 ≤ u.1 ∧ u.2 = v := by
        rcases hu with hu | hu
        · rcases hs with hs | hs <;> omega
        · exact hu
      exact best_val v vs u (.inr h0) hrest (.inl h0)
    · have e : bestV s u = s := by unfold bestV; rw [if_neg hgt]
      rw [e]
      refine best_val v vs s hs hrest ?_
      rcases hex with hex | ⟨x, hx, hx0⟩
      · exact .inl hex
      · rcases List.mem_cons.1 hx with rfl | hx
        · rcases hs with hs | hs
          · omega
          · exact .inl hs
        · exact .inr ⟨x, hx, hx0⟩
/-- Votes, so far. -/
structure VoI (N m : Nat) (accs : List (List SlotT)) (ids : List Int) (b w : Int) (i : Nat) (s : List (List SlotT)) : Prop where
  base : Base N s
  vals : ∀ a ∈ s, ∀ u ∈ casts a, u.2 = w
  kept : ∀ (k : Nat) a a', accs[k]? = some a → s[k]? = some a' → ∀ u ∈ casts a, u ∈ casts a'
  len : ∀ (k : Nat) a, s[k]? = some a → (casts a).length ≤ m + (if (k : Int) ∈ ids.take i then 1 else 0)
  at_b : ∀ y ∈ ids, ∀ a, s[y.toNat]? = some a → (S1 a).2.2.1 = b
  done : ∀ y ∈ ids.take i, ∀ a, s[y.toNat]? = some a → (b, w) ∈ casts a
theorem VoI.step {N m : Nat} {accs s : List (List SlotT)} {ids : List Int} {b w : Int} {i : Nat} (hl : accs.length = N) (hm60 : m < 60) (h : VoI N m accs ids b w i s) (hi : i < ids.length) (hn : ids.Nodup) (hin : ∀ y ∈ ids, 0 ≤ y ∧ y < (N : Int)) (hv : votB (b, w) = true) (hb5 : b ≤ 500) : VoI N m accs ids b w (i + 1) (voteStep 7 1 (b, w) s ids[i]) := by
  have hy := hin ids[i] (List.getElem_mem hi)
  have hk : ids[i].toNat < s.length := by rw [h.base.ok.1]; omega
  have ha := List.getElem?_eq_getElem hk
  have hm := List.getElem_mem hk
  have hc := h.base.ok.2 _ hm
  have ht : ids.take (i + 1) = ids.take i ++ [ids[i]] := by rw [List.take_add_one, List.getElem?_eq_getElem hi]; rfl
  have hnt : ids[i] ∉ ids.take i := by
    intro hmem
    obtain ⟨j, hj, he⟩ := List.mem_iff_getElem.1 hmem
    have hj' : j < i := by rw [List.length_take] at hj; omega
    rw [List.getElem_take] at he
    exact List.pairwise_iff_getElem.1 hn j i (by omega) hi hj' he
  have hlen := h.len _ _ ha
  rw [show ((ids[i].toNat : Nat) : Int) = ids[i] from by omega, if_neg hnt] at hlen
  obtain ⟨s', q1, q2, q3, q4, q5, q6, q7, q8, q9⟩ := vote_one (h.base.sh _ hm) hc hv (h.at_b _ (List.getElem_mem hi) _ ha) (h.vals _ hm) (show (S1 s[ids[i].toNat]).2.2.2.2.length < 60 by have hh : (casts s[ids[i].toNat]).length ≤ m + 0 := hlen; unfold casts castS at hh; omega)
  have hcode : accCode [s'] = 0 := by
    have := told_acc (v := (b, w)) hc q1
    rw [q2] at this; exact this
  have hs' : slotCode s' = 0 := (accCode_zero hcode).2.1 s' (by simp)
  have hS : S1 [s'] = s' := S1_one q3 q4
  have hcs : casts [s'] = s'.2.2.2.2 := by unfold casts castS; rw [hS]
  unfold voteStep
  rw [ha]
  simp only [Option.elim, q1, q2, beq_self_eq_true, cond_true]
  refine ⟨h.base.set _ hs' q3 q4 (by omega), fun a hma => ?_, fun k a a' e1 e2 => ?_, fun k a e => ?_, fun y hy' a e => ?_, fun y hy' a e => ?_⟩
  · rcases List.mem_or_eq_of_mem_set hma with hma | rfl
    · exact h.vals a hma
    · rw [hcs]; exact q7
  · rw [set_get hk] at e2
    split at e2
    · rename_i hkk
      subst hkk
      cases e2
      intro u hu
      rw [hcs]
      exact q9 u (h.kept _ _ _ e1 ha u hu)
    · exact h.kept k a a' e1 e2
  · rw [set_get hk] at e
    split at e
    · rename_i hkk
      subst hkk
      cases e
      rw [hcs, if_pos (by rw [ht]; exact List.mem_append_right _ (by simp; omega))]
      have hh : (casts s[ids[i].toNat]).length ≤ m + 0 := hlen
      unfold casts castS at hh
      omega
    · have := h.len k a e
      split at this
      · rename_i hmem
        rw [if_pos (by rw [ht]; exact List.mem_append_left _ hmem)]; exact this
      · exact Nat.le_trans this (by omega)
  · rw [set_get hk] at e
    split at e
    · cases e; rw [hS]; exact q5
    · exact h.at_b y hy' a e
  · rw [set_get hk] at e
    split at e
    · cases e; rw [hcs]; exact q6
    · rename_i hne
      rw [ht] at hy'
      rcases List.mem_append.1 hy' with hy' | hy'
      · exact h.done y hy' a e
      · rw [List.mem_singleton] at hy'; rw [hy'] at hne; exact absurd rfl hne
theorem vote_inv {N m : Nat} {accs : List (List SlotT)} {ids : List Int} {b w : Int} (h : Base N accs) (hm60 : m < 60) (hv0 : ∀ a ∈ accs, ∀ u ∈ casts a, u.2 = w) (hl0 : ∀ a ∈ accs, (casts a).length ≤ m) (hb0 : ∀ y ∈ ids, ∀ a, accs[y.toNat]? = some a → (S1 a).2.2.1 = b) (hn : ids.Nodup) (hin : ∀ y ∈ ids, 0 ≤ y ∧ y < (N : Int)) (hv : votB (b, w) = true) (hb5 : b ≤ 500) :
    VoI N m accs ids b w ids.length (ids.foldl (voteStep 7 1 (b, w)) accs) := by
  have key : ∀ (ys : List Int) (i : Nat) (s : List (List SlotT)), ids.drop i = ys → i ≤ ids.length → VoI N m accs ids b w i s → VoI N m accs ids b w ids.length (ys.foldl (voteStep 7 1 (b, w)) s) := by
    intro ys
    induction ys with
    | nil =>
      intro i s hd hi hI
      have : i = ids.length := by
        have := congrArg List.length hd
        simp at this; omega
      subst this; exact hI
    | cons y ys ih =>
      intro i s hd hi hI
      have hil : i < ids.length := by
        rcases Nat.lt_or_ge i ids.length with h | h
        · exact h
        · rw [List.drop_eq_nil_of_le h] at hd; cases hd
      rw [List.drop_eq_getElem_cons hil] at hd
      simp only [List.cons.injEq] at hd
      obtain ⟨rfl, hd⟩ := hd
      exact ih (i + 1) _ hd hil (hI.step h.ok.1 hm60 hil hn hin hv hb5)
  refine key ids 0 accs rfl (Nat.zero_le _) ⟨h, hv0, fun k a a' e1 e2 => ?_, fun k a e => ?_, hb0, (fun y hy => by simp at hy)⟩
  · rw [e1] at e2; cases e2; exact fun u hu => hu
  · have := hl0 a (List.mem_of_getElem? e); omega
/-- One value at the most. v: the value that is chosen, 0: none. -/
structure AgI (N m : Nat) (v : Int) (accs : List (List SlotT)) : Prop where
  base : Base N accs
  len : ∀ a ∈ accs, (casts a).length ≤ m
  val : (v = 0 ∧ ∀ a ∈ accs, casts a = []) ∨ (vlu v = true ∧ (∀ a ∈ accs, ∀ u ∈ casts a, u.2 = v) ∧ ∃ b, quo N ≤ accs.countP fun a => (casts a).contains (b, v))
theorem agI_new (N : Nat) : AgI N 0 0 (List.replicate N []) := by
  have h : ∀ a ∈ List.replicate N ([] : List SlotT), a = [] := fun a ha => (List.mem_replicate.1 ha).2
  refine ⟨⟨⟨List.length_replicate, fun a ha => by rw [h a ha]; rfl⟩, fun a ha => .inl (h a ha), fun a ha => by rw [h a ha]; decide⟩, fun a ha => by rw [h a ha]; exact Nat.le_refl _, .inl ⟨rfl, fun a ha => by rw [h a ha]; rfl⟩⟩
theorem reach_of {N : Nat} {rs : List Int} (h1 : ∀ y ∈ rs, 0 ≤ y ∧ y < (N : Int)) (h2 : upI rs) : reachC N rs = 0 := by
  unfold reachC
  have e1 : (rs.any fun y => !(inB y 0 ((N : Int) - 1))) = false := by
    rw [List.any_eq_false]
    intro y hy
    have := h1 y hy
    simp only [inB, Bool.not_eq_true, Bool.not_eq_false', Bool.and_eq_true, decide_eq_true_eq]
    omega
  have e2 : ((List.range (rs.length - 1)).any fun i => decide (rs[i + 1]?.getD 0 ≤ rs[i]?.getD 0)) = false := by
    rw [List.any_eq_false]
    intro i hi
    have hi := List.mem_range.1 hi
    have := h2 i (by omega)
    rw [List.getElem?_eq_getElem (show i + 1 < rs.length by omega), List.getElem?_eq_getElem (show i < rs.length by omega)]
    simp only [Option.getD_some, decide_eq_true_eq]
    omega
  rw [e1, e2]; rfl
theorem accsCode_of {accs : List (List SlotT)} (h1 : 1 ≤ accs.length) (h2 : accs.length ≤ 5) (h : ∀ a ∈ accs, accCode a = 0) : accsCode accs = 0 := by
  unfold accsCode
  rw [if_neg (by omega)]
  have : ∀ (ys : List (List SlotT)) (i : Nat), (∀ a ∈ ys, accCode a = 0) → fstI (fun _ y => accsF y) i ys = none := by
    intro ys
    induction ys with
    | nil => intro i _; rfl
    | cons y ys ih =>
      intro i h
      have hy : accsF y = none := by unfold accsF; rw [h y List.mem_cons_self]; rfl
      simp only [fstI, hy]
      exact ih (i + 1) fun a ha => h a (List.mem_cons_of_mem _ ha)
  rw [this accs 0 h]
theorem up_nodup {rs : List Int} (h : upI rs) : rs.Nodup := by
  have key : ∀ (i j : Nat) (_ : i < j) (hj : j < rs.length), rs[i]'(by omega) < rs[j] := by
    intro i j hij
    induction hij with
    | refl => intro hj; exact h i hj
    | step hij ih =>
      intro hj
      have h1 := ih (by omega)
      have h2 := h _ hj
      exact Int.lt_trans h1 h2
  refine List.pairwise_iff_getElem.2 fun i j hi hj hij he => ?_
  have := key i j hij hj
  omega
theorem casts_eq {a a' : List SlotT} (h : (S1 a').2.2.2 = (S1 a).2.2.2) : casts a' = casts a := by
  unfold casts castS; rw [h]
theorem last_of {a : List SlotT} (hc : accCode a = 0) : (S1 a).2.2.2.1 = lastV (casts a) := (slotCode_zero (S1_code hc)).2.2.2.1
theorem mem_idx {α : Type} {xs : List α} {a : α} (h : a ∈ xs) : ∃ k : Nat, xs[k]? = some a := by
  obtain ⟨k, hk, he⟩ := List.mem_iff_getElem.1 h
  exact ⟨k, by rw [List.getElem?_eq_getElem hk, he]⟩
theorem agI_run {N m : Nat} {v : Int} {accs : List (List SlotT)} (h : AgI N m v accs) (hm : m < 59) (hN1 : 1 ≤ N) (hN5 : N ≤ 5) {rs : List Int} (hu : upI rs) (hin : ∀ y ∈ rs, 0 ≤ y ∧ y < (N : Int)) {b w : Int} (hb : bal b = true) (hb5 : b ≤ 500) (hw : vlu w = true) :
    ((runR accs rs 7 1 b w).1 = 4 ∧ AgI N (m + 1) v (runR accs rs 7 1 b w).2.2 ∧ (b = 500 → rs.length < quo N)) ∨
    ((runR accs rs 7 1 b w).1 = 0 ∧ AgI N (m + 1) (runR accs rs 7 1 b w).2.1 (runR accs rs 7 1 b w).2.2 ∧ (v ≠ 0 → (runR accs rs 7 1 b w).2.1 = v)) := by
  have hN := h.base.ok.1
  have ha0 := accsCode_of (accs := accs) (by omega) (by omega) h.base.ok.2
  have hn0 : (newR 7 1).1 = 0 := by decide
  have hr0 := reach_of hin hu
  have hP := prom_inv (rs := rs) h.base hin hb hb5
  generalize hst : promAll accs rs 7 1 b = st at hP
  have e0 : runR accs rs 7 1 b w = cond (decide (st.1.length < quo N)) (4, (0, st.2.2)) (0, (pickOf st w, st.1.foldl (voteStep 7 1 (b, pickOf st w)) st.2.2)) := by
    unfold runR
    rw [ha0, if_pos rfl, hn0, hb, hw, hN, hr0, hst]; rfl
  rw [e0]
  have hsub : st.1.Sublist rs := by have := hP.sub; rwa [List.take_length] at this
  have hnd : st.1.Nodup := (up_nodup hu).sublist hsub
  have hin' : ∀ y ∈ st.1, 0 ≤ y ∧ y < (N : Int) := fun y hy => hin y (hsub.subset hy)
  have hstN := hP.base.ok.1
  -- casts are what they were
  have hcs : ∀ a' ∈ st.2.2, ∃ a ∈ accs, casts a' = casts a := by
    intro a' ha'
    obtain ⟨k, hk⟩ := mem_idx ha'
    have hkl : k < accs.length := by
      have := (List.getElem?_eq_some_iff.1 hk).1; omega
    exact ⟨accs[k], List.getElem_mem hkl, casts_eq (hP.same k _ _ (List.getElem?_eq_getElem hkl) hk)⟩
  have hlen' : ∀ a ∈ st.2.2, (casts a).length ≤ m := fun a' ha' => by
    obtain ⟨a, ha, e⟩ := hcs a' ha'
    rw [e]; exact h.len a ha
  have hcount : ∀ u : VoteT, (st.2.2.countP fun a => (casts a).contains u) = accs.countP fun a => (casts a).contains u := by
    intro u
    rw [countP_range _ st.2.2, countP_range _ accs, hstN, hN]
    apply List.countP_congr
    intro j hj
    rw [List.mem_range] at hj
    have h1 : j < st.2.2.length := by omega
    have h2 : j < accs.length := by omega
    rw [List.getElem?_eq_getElem h1, List.getElem?_eq_getElem h2]
    simp only [Option.elim]
    rw [casts_eq (hP.same j _ _ (List.getElem?_eq_getElem h2) (List.getElem?_eq_getElem h1))]
  have hval' : (v = 0 ∧ ∀ a ∈ st.2.2, casts a = []) ∨ (vlu v = true ∧ (∀ a ∈ st.2.2, ∀ u ∈ casts a, u.2 = v) ∧ ∃ b, quo N ≤ st.2.2.countP fun a => (casts a).contains (b, v)) := by
    rcases h.val with ⟨hv0, hv⟩ | ⟨hv0, hv, b', hv'⟩
    · exact .inl ⟨hv0, fun a' ha' => by obtain ⟨a, ha, e⟩ := hcs a' ha'; rw [e]; exact hv a ha⟩
    · exact .inr ⟨hv0, fun a' ha' => by obtain ⟨a, ha, e⟩ := hcs a' ha'; rw [e]; exact hv a ha, b', by rw [hcount]; exact hv'⟩
  cases hd : decide (st.1.length < quo N) with
  | true =>
    simp only [decide_eq_true_eq] at hd
    refine .inl ⟨rfl, ⟨hP.base, fun a ha => Nat.le_succ_of_le (hlen' a ha), hval'⟩, fun e => ?_⟩
    have := hP.all e
    rw [List.take_length] at this
    rw [← this]; exact hd
  | false =>
    simp only [decide_eq_false_iff_not] at hd
    have hq : quo N ≤ st.1.length := by omega
    refine .inr ?_
    simp only [cond_false]
    -- what is picked
    have hvotes : ∀ u ∈ st.2.1, ∃ y ∈ st.1, ∃ a, accs[y.toNat]? = some a ∧ u = lastV (casts a) := by
      intro u hu
      rw [hP.votes] at hu
      obtain ⟨y, hy, rfl⟩ := List.mem_map.1 hu
      have := hin' y hy
      have hl : y.toNat < accs.length := by omega
      refine ⟨y, hy, accs[y.toNat], List.getElem?_eq_getElem hl, ?_⟩
      rw [List.getElem?_eq_getElem hl, Option.getD_some]
      exact last_of (h.base.ok.2 _ (List.getElem_mem hl))
    have hpick : (v = 0 → pickOf st w = w) ∧ (v ≠ 0 → pickOf st w = v) := by
      constructor
      · intro hv0
        have hvn : ∀ a ∈ accs, casts a = [] := by
          rcases h.val with ⟨_, hv⟩ | ⟨hv1, _⟩
          · exact hv
          · rw [hv0] at hv1; exact absurd hv1 (by decide)
        unfold pickOf
        rw [best_none w st.2.1 fun u hu => by
          obtain ⟨y, _, a, ha, rfl⟩ := hvotes u hu
          rw [hvn a (List.mem_of_getElem? ha)]; rfl]
      · intro hvne
        rcases h.val with ⟨hv0, _⟩ | ⟨hv1, hv, b', hv'⟩
        · exact absurd hv0 hvne
        · unfold pickOf
          have hgood : ∀ a ∈ accs, (lastV (casts a)).1 = -1 ∨ (0 ≤ (lastV (casts a)).1 ∧ (lastV (casts a)).2 = v) := by
            intro a ha
            unfold lastV
            cases hg : (casts a).getLast? with
            | none => exact .inl rfl
            | some u =>
              have hm' := List.mem_of_getLast? hg
              have hcz := (slotCode_zero (S1_code (h.base.ok.2 a ha))).2.2.1
              exact .inr ⟨(cast_bal (xs := casts a) hcz hm').1, hv a ha u hm'⟩
          refine best_val v st.2.1 (-1, w) (.inl rfl) (fun u hu => ?_) (.inr ?_)
          · obtain ⟨y, _, a, ha, rfl⟩ := hvotes u hu
            exact hgood a (List.mem_of_getElem? ha)
          · obtain ⟨y, hy, a, ha, hp⟩ := ids_meet (xs := accs) (p := fun a => (casts a).contains (b', v)) hnd (fun y hy => by rw [hN]; exact hin' y hy) (by rw [hN]; exact hq) (by rw [hN]; exact hv')
            refine ⟨lastV (casts a), ?_, ?_⟩
            · rw [hP.votes]
              refine List.mem_map.2 ⟨y, hy, ?_⟩
              rw [ha, Option.getD_some]
              exact last_of (h.base.ok.2 _ (List.mem_of_getElem? ha))
            · have hne : casts a ≠ [] := by
                intro he; simp only [he] at hp; cases hp
              rcases hgood a (List.mem_of_getElem? ha) with hg | hg
              · exfalso
                unfold lastV at hg
                cases hgl : (casts a).getLast? with
                | none => exact hne (List.getLast?_eq_none_iff.1 hgl)
                | some u =>
                  rw [hgl] at hg
                  have hcz := (slotCode_zero (S1_code (h.base.ok.2 a (List.mem_of_getElem? ha)))).2.2.1
                  have := (cast_bal (xs := casts a) hcz (List.mem_of_getLast? hgl)).1
                  have hg : u.1 = -1 := hg
                  omega
              · exact hg.1
    generalize hp : pickOf st w = p at hpick
    have hpv : vlu p = true := by
      by_cases hv0 : v = 0
      · rw [hpick.1 hv0]; exact hw
      · rw [hpick.2 hv0]
        rcases h.val with ⟨h0, _⟩ | ⟨h1, _⟩
        · exact absurd h0 hv0
        · exact h1
    have hvp : ∀ a ∈ st.2.2, ∀ u ∈ casts a, u.2 = p := by
      rcases hval' with ⟨hv0, hv⟩ | ⟨hv1, hv, _⟩
      · intro a ha u hu; rw [hv a ha] at hu; cases hu
      · intro a ha u hu
        rw [hv a ha u hu, hpick.2 (fun e => by rw [e] at hv1; exact absurd hv1 (by decide))]
    have hvb : votB (b, p) = true := by unfold votB; rw [hb, hpv]; rfl
    have hV := vote_inv (m := m) hP.base (by omega) hvp hlen' hP.at_b hnd hin' hvb hb5
    refine ⟨trivial, ⟨hV.base, fun a ha => ?_, .inr ⟨hpv, hV.vals, b, ?_⟩⟩, hpick.2⟩
    · obtain ⟨k, hk⟩ := mem_idx ha
      have := hV.len k a hk
      split at this <;> omega
    · refine Nat.le_trans hq (count_ids hnd (fun y hy => by rw [hV.base.ok.1]; exact hin' y hy) fun y hy a ha => ?_)
      rw [List.contains_iff_mem]
      exact hV.done y (by rw [List.take_length]; exact hy) a ha
/-- What is told of such acceptors. -/
theorem agI_chosen {N m : Nat} {v : Int} {accs : List (List SlotT)} (h : AgI N m v accs) (hN1 : 1 ≤ N) (hN5 : N ≤ 5) : accsCode accs = 0 ∧ (∀ r, chosenAtP accs 7 1 r → r.2 = v) ∧ ∀ r, agreeP (accs.map fun x => slotOf x 7 1) r → r = true := by
  have hN := h.base.ok.1
  have ha0 := accsCode_of (accs := accs) (by omega) (by omega) h.base.ok.2
  have hcnt : ∀ u, cntV (accs.map fun x => slotOf x 7 1) u = accs.countP fun a => (casts a).contains u := by
    intro u
    unfold cntV
    rw [List.countP_map]
    rfl
  have hout : ∀ out, chosenOK (accs.map fun x => slotOf x 7 1) out → (v = 0 → out = []) ∧ (v ≠ 0 → out ≠ [] ∧ ∀ u ∈ out, u.2 = v) := by
    intro out ho
    have hq1 : 1 ≤ quo N := by unfold quo; omega
    have hmem : ∀ u ∈ out, ∃ a ∈ accs, u ∈ casts a := by
      intro u hu
      have h1 := (ho.2 u).1 hu
      rw [hcnt, List.length_map, hN] at h1
      obtain ⟨a, ha, hau⟩ := List.countP_pos_iff.1 (show 0 < accs.countP (fun a => (casts a).contains u) by omega)
      exact ⟨a, ha, by rw [List.contains_iff_mem] at hau; exact hau⟩
    constructor
    · intro hv0
      rcases h.val with ⟨_, hv⟩ | ⟨hv1, _⟩
      · cases out with
        | nil => rfl
        | cons u out =>
          obtain ⟨a, ha, hu⟩ := hmem u List.mem_cons_self
          rw [hv a ha] at hu; cases hu
      · rw [hv0] at hv1; exact absurd hv1 (by decide)
    · intro hvne
      rcases h.val with ⟨hv0, _⟩ | ⟨hv1, hv, b', hv'⟩
      · exact absurd hv0 hvne
      · refine ⟨fun he => ?_, fun u hu => ?_⟩
        · have : (b', v) ∈ out := (ho.2 _).2 (by rw [hcnt, List.length_map, hN]; exact hv')
          rw [he] at this; cases this
        · obtain ⟨a, ha, hu'⟩ := hmem u hu
          exact hv a ha u hu'
  refine ⟨ha0, fun r hr => ?_, fun r hr => ?_⟩
  · rcases hr with ⟨h0, _⟩ | ⟨_, h0, _⟩ | ⟨_, _, out, ho, rfl⟩
    · exact absurd ha0 h0
    · exact absurd h0 (by decide)
    · obtain ⟨g1, g2⟩ := hout out ho
      by_cases hv0 : v = 0
      · rw [g1 hv0, hv0]
      · obtain ⟨k1, k2⟩ := g2 hv0
        cases out with
        | nil => exact absurd rfl k1
        | cons u out => exact k2 u List.mem_cons_self
  · rcases hr with ⟨h0, _⟩ | ⟨_, out, ho, rfl⟩
    · exact absurd (slots_ask ha0 (by decide)) h0
    · obtain ⟨g1, g2⟩ := hout out ho
      by_cases hv0 : v = 0
      · rw [g1 hv0]; rfl
      · obtain ⟨k1, k2⟩ := g2 hv0
        have : (out.any (difV out)) = false := by
          rw [List.any_eq_false]
          intro u hu
          unfold difV
          cases out with
          | nil => cases hu
          | cons x out =>
            have e1 := k2 u hu
            have e2 := k2 x List.mem_cons_self
            simp [e1, e2]
        rw [this]; rfl
end Go.Rv
namespace Go.Rv
/-! Many slots, ballot after ballot: what stands in a slot hangs on its own ballots alone. -/
theorem find_set {α : Type} (p : α → Bool) (s : α) (hs : p s = false) : ∀ (xs : List α) (j : Nat), (∀ y, xs[j]? = some y → p y = false) → (xs.set j s).find? p = xs.find? p
  | [], _, _ => rfl
  | x :: xs, 0, h => by
    have hx := h x rfl
    rw [List.set_cons_zero, List.find?_cons, List.find?_cons, hs, hx]
  | x :: xs, j + 1, h => by
    rw [List.set_cons_succ, List.find?_cons, List.find?_cons, find_set p s hs xs j (fun y hy => h y (by simpa using hy))]
theorem find_here {α : Type} (p : α → Bool) (s : α) (hs : p s = true) : ∀ (xs : List α) (j : Nat), j < xs.length → (∀ (i : Nat) (hi : i < xs.length), i < j → p xs[i] = false) → (xs.set j s).find? p = some s
  | [], _, hj, _ => by simp at hj
  | x :: xs, 0, _, _ => by rw [List.set_cons_zero, List.find?_cons, hs]
  | x :: xs, j + 1, hj, h => by
    have h0 := h 0 (by simp) (by omega)
    simp only [List.getElem_cons_zero] at h0
    rw [List.set_cons_succ, List.find?_cons, h0]
    exact find_here p s hs xs j (by simpa using hj) fun i hi hij => by
      have := h (i + 1) (by simpa using hi) (by omega)
      simpa using this
theorem isSlot_iff (c d : Int) (s : SlotT) : isSlot c d s = true ↔ s.1 = c ∧ s.2.1 = d := by
  unfold isSlot; simp
theorem isSlot_not {c d : Int} {s : SlotT} (h : ¬ (s.1 = c ∧ s.2.1 = d)) : isSlot c d s = false := by
  cases hb : isSlot c d s with
  | false => rfl
  | true => exact absurd ((isSlot_iff c d s).1 hb) h
theorem ahead_ne {x s : SlotT} (h : aheadB x s = true) : ¬ (x.1 = s.1 ∧ x.2.1 = s.2.1) := by
  unfold aheadB at h
  rintro ⟨e1, e2⟩
  rw [if_pos e1] at h
  simp at h; omega
theorem ahead_eq {x s : SlotT} (h1 : aheadB x s = false) (h2 : aheadB s x = false) : x.1 = s.1 ∧ x.2.1 = s.2.1 := by
  unfold aheadB at h1 h2
  by_cases e : x.1 = s.1
  · rw [if_pos e] at h1
    rw [if_pos e.symm] at h2
    simp at h1 h2; omega
  · rw [if_neg e] at h1
    rw [if_neg (fun e' => e e'.symm)] at h2
    simp at h1 h2; omega
/-- What stands where, behind a slot that was put. -/
theorem putS_slot {a ys : List SlotT} {s : SlotT} (h : putS a s = some ys) : slotOf ys s.1 s.2.1 = s ∧ ∀ c d, ¬ (s.1 = c ∧ s.2.1 = d) → slotOf ys c d = slotOf a c d := by
  have hle := placeS_le a s
  have hbef : ∀ (i : Nat) (hi : i < a.length), i < placeS a s → aheadB a[i] s = true := by
    intro i hi hip
    unfold placeS at hip
    cases hf : a.findIdx? (fun x => !(aheadB x s)) with
    | none =>
      have := List.findIdx?_eq_none_iff.1 hf a[i] (List.getElem_mem hi)
      simpa using this
    | some j =>
      rw [hf] at hip
      obtain ⟨_, _, h3⟩ := List.findIdx?_eq_some_iff_getElem.1 hf
      have := h3 i hip
      simpa using this
  have hme : isSlot s.1 s.2.1 s = true := (isSlot_iff _ _ _).2 ⟨rfl, rfl⟩
  have hbn : ∀ (i : Nat) (hi : i < a.length), i < placeS a s → isSlot s.1 s.2.1 a[i] = false := fun i hi hip => isSlot_not (ahead_ne (hbef i hi hip))
  unfold putS at h
  cases hc : (a[placeS a s]?).elim false fun y => !(aheadB s y) with
  | true =>
    rw [hc] at h
    simp only [cond_true, Option.some.injEq] at h
    subst h
    cases hg : a[placeS a s]? with
    | none => rw [hg] at hc; cases hc
    | some y =>
      rw [hg] at hc
      simp only [Option.elim, Bool.not_eq_true'] at hc
      obtain ⟨hlt, hy⟩ := List.getElem?_eq_some_iff.1 hg
      have hya : aheadB y s = false := by
        have key : ∀ j (hj : j < a.length), placeS a s = j → aheadB a[j] s = false := by
          intro j hj hp
          unfold placeS at hp
          cases hf : a.findIdx? (fun x => !(aheadB x s)) with
          | none => rw [hf] at hp; simp at hp; omega
          | some i =>
            rw [hf] at hp
            have hp : i = j := hp
            subst hp
            obtain ⟨_, h2, _⟩ := List.findIdx?_eq_some_iff_getElem.1 hf
            simpa using h2
        rw [← hy]
        exact key _ hlt rfl
      have hk := ahead_eq hya hc
      constructor
      · unfold slotOf
        rw [find_here _ s hme a _ hlt hbn]; rfl
      · intro c d hne
        unfold slotOf
        rw [find_set _ s (isSlot_not hne) a _ fun z hz => by
          rw [hg] at hz; cases hz
          exact isSlot_not (by rw [hk.1, hk.2]; exact hne)]
  | false =>
    rw [hc] at h
    simp only [cond_false] at h
    cases h6 : decide (a.length ≥ 60) with
    | true => rw [h6] at h; cases h
    | false =>
      rw [h6] at h
      simp only [cond_false, Option.some.injEq] at h
      subst h
      have hA : (a.take (placeS a s)).find? (isSlot s.1 s.2.1) = none := by
        rw [List.find?_eq_none]
        intro x hx
        obtain ⟨i, hi, rfl⟩ := List.getElem_of_mem hx
        rw [List.length_take] at hi
        rw [List.getElem_take, hbn i (by omega) (by omega)]
        decide
      constructor
      · unfold slotOf
        rw [List.find?_append, List.find?_append, hA, Option.none_or, List.find?_cons, hme]
        rfl
      · intro c d hne
        unfold slotOf
        have hs := isSlot_not hne
        have e : ((a.take (placeS a s) ++ [s] ++ a.drop (placeS a s)).find? (isSlot c d)) = a.find? (isSlot c d) := by
          rw [List.find?_append, List.find?_append, List.find?_cons, hs]
          simp only [List.find?_nil, Option.or_none]
          rw [← List.find?_append, List.take_append_drop]
        rw [e]
/-- Slots of one contract alone. -/
structure okA (c : Int) (a : List SlotT) : Prop where
  code : accCode a = 0
  own : ∀ s ∈ a, s.1 = c
theorem okA.len {c : Int} {a : List SlotT} (h : okA c a) : a.length ≤ 3 := by
  obtain ⟨_, h2, h3⟩ := accCode_zero h.code
  have hu : upI (a.map (·.2.1)) := by
    intro i hi
    have hi' : i + 1 < a.length := by simpa using hi
    have := h3 i hi'
    simp only [List.getElem_map]
    unfold aheadB at this
    rw [if_pos ((h.own _ (List.getElem_mem _)).trans (h.own _ (List.getElem_mem _)).symm)] at this
    simpa using this
  have := up_len (N := 3) hu fun y hy => by
    obtain ⟨s, hs, rfl⟩ := List.mem_map.1 hy
    have := (slotCode_zero (h2 s hs)).1.2.1
    simp only [shB, inB, Bool.and_eq_true, decide_eq_true_eq] at this
    omega
  simpa using this
theorem told_gen {c d : Int} {a : List SlotT} (ha : okA c a) {r : Int × ((Int × Int) × SlotT)} (h0 : r.1 = 0) (hc : slotCode r.2.2 = 0) (h1 : r.2.2.1 = c) (h2 : r.2.2.2.1 = d) :
    ∃ ys, toldR a r = (0, (r.2.1, ys)) ∧ okA c ys ∧ slotOf ys c d = r.2.2 ∧ ∀ d', d' ≠ d → slotOf ys c d' = slotOf a c d' := by
  have hl := ha.len
  have hp : ∃ ys, putS a r.2.2 = some ys := by
    unfold putS
    cases (a[placeS a r.2.2]?).elim false fun y => !(aheadB r.2.2 y) with
    | true => exact ⟨_, rfl⟩
    | false =>
      have : decide (a.length ≥ 60) = false := decide_eq_false (by omega)
      rw [this]; exact ⟨_, rfl⟩
  obtain ⟨ys, hp⟩ := hp
  have ht : toldR a r = (0, (r.2.1, ys)) := by
    unfold toldR
    rw [h0, hp]; rfl
  obtain ⟨q1, q2⟩ := putS_slot hp
  rw [h1, h2] at q1 q2
  refine ⟨ys, ht, ⟨?_, fun s hs => ?_⟩, q1, fun d' hd' => q2 c d' fun h => hd' h.2.symm⟩
  · have := told_code (r := r) ha.code (fun _ => hc) (by rw [ht])
    rw [ht] at this; exact this
  · rcases (putS_mem hp).1 s hs with hs | rfl
    · exact ha.own s hs
    · exact h1
end Go.Rv
namespace Go.Rv
section
variable {c d : Int}
def castK (c d : Int) (a : List SlotT) : List VoteT := castS (slotOf a c d)
theorem prom_gen {a : List SlotT} {b : Int} (ha : okA c a) (hn : (idB c && shB d) = true) (hb : bal b = true) (hp : (slotOf a c d).2.2.1 ≤ b) :
    ∃ ys, toldR a (promR (slotOf a c d) b) = (0, ((slotOf a c d).2.2.2.1, ys)) ∧ okA c ys ∧ slotOf ys c d = (c, (d, (b, (slotOf a c d).2.2.2))) ∧ ∀ d', d' ≠ d → slotOf ys c d' = slotOf a c d' := by
  have h0 := slotOf_code (c := c) (d := d) ha.code hn
  have hk := slotOf_key a c d
  have e : promR (slotOf a c d) b = (0, ((slotOf a c d).2.2.2.1, (c, (d, (b, (slotOf a c d).2.2.2))))) := by
    unfold promR
    have hd : decide (b < (slotOf a c d).2.2.1) = false := decide_eq_false (by omega)
    rw [h0, hb, hd, hk.1, hk.2]; rfl
  obtain ⟨g1, g2, g3, g4, g5⟩ := slotCode_zero h0
  have hc : slotCode (c, (d, (b, (slotOf a c d).2.2.2))) = 0 := by
    refine slotCode_of ⟨by rw [← hk.1]; exact g1.1, by rw [← hk.2]; exact g1.2.1, ?_⟩ g2 g3 g4 (by show (slotOf a c d).2.2.2.1.1 ≤ b; omega)
    simp only [bal, Bool.and_eq_true, decide_eq_true_eq] at hb
    simp only [inB, Bool.and_eq_true, decide_eq_true_eq]
    omega
  rw [e]
  exact told_gen ha rfl hc rfl rfl
theorem prom_no {a : List SlotT} {b : Int} (ha : okA c a) (hn : (idB c && shB d) = true) (hb : bal b = true) (hp : b < (slotOf a c d).2.2.1) : (toldR a (promR (slotOf a c d) b)).1 = 8 := by
  have h0 := slotOf_code (c := c) (d := d) ha.code hn
  have e : promR (slotOf a c d) b = (8, zS) := by
    unfold promR
    have hd : decide (b < (slotOf a c d).2.2.1) = true := decide_eq_true hp
    rw [h0, hb, hd]; rfl
  rw [e]; rfl
theorem vote_gen {a : List SlotT} {b w : Int} (ha : okA c a) (hn : (idB c && shB d) = true) (hv : votB (b, w) = true) (hp : (slotOf a c d).2.2.1 = b) (hw : ∀ u ∈ castK c d a, u.2 = w) (hl : (castK c d a).length < 60) :
    ∃ ys, (toldR a (accR (slotOf a c d) (b, w))).1 = 0 ∧ (toldR a (accR (slotOf a c d) (b, w))).2.2 = ys ∧ okA c ys ∧ (slotOf ys c d).2.2.1 = b ∧ (b, w) ∈ castK c d ys ∧ (∀ u ∈ castK c d ys, u.2 = w) ∧ (castK c d ys).length ≤ (castK c d a).length + 1 ∧ (∀ u ∈ castK c d a, u ∈ castK c d ys) ∧ ∀ d', d' ≠ d → slotOf ys c d' = slotOf a c d' := by
  have h0 := slotOf_code (c := c) (d := d) ha.code hn
  obtain ⟨g1, g2, g3, g4, g5⟩ := slotCode_zero h0
  have hk := slotOf_key a c d
  unfold castK castS at hw hl
  have hlast : ∀ u, (slotOf a c d).2.2.2.2.getLast? = some u → (slotOf a c d).2.2.2.1 = u := fun u hu => by rw [g4]; unfold lastV; rw [hu]; rfl
  have hne : (slotOf a c d).2.2.2.2 = [] → (slotOf a c d).2.2.2.1 = (-1, 0) := fun he => by rw [g4, he]; rfl
  have hb0 : 0 ≤ b := by simp only [votB, bal, Bool.and_eq_true, decide_eq_true_eq] at hv; exact hv.1.1
  have h0c : (accR (slotOf a c d) (b, w)).1 = 0 := by
    unfold accR
    have hd : decide (b < (slotOf a c d).2.2.1) = false := decide_eq_false (by omega)
    have h7 : (b == (slotOf a c d).2.2.2.1.1 && !(w == (slotOf a c d).2.2.2.1.2)) = false := by
      cases hg : (slotOf a c d).2.2.2.2.getLast? with
      | none =>
        have := hne (List.getLast?_eq_none_iff.1 hg)
        rw [this]
        have : (b == (-1 : Int)) = false := by rw [beq_eq_false_iff_ne]; omega
        rw [this]; rfl
      | some u =>
        rw [hlast u hg, hw u (List.mem_of_getLast? hg)]
        simp
    have h6 : decide ((slotOf a c d).2.2.2.2.length ≥ 60) = false := decide_eq_false (by omega)
    rw [h0, hv]
    simp only [hd, h7, h6, beq_self_eq_true, Bool.not_true, cond_false]
    cases (!((b == (slotOf a c d).2.2.2.1.1) && ((w == (slotOf a c d).2.2.2.1.2) && true))) <;> rfl
  obtain ⟨_, _, q3, _, q5, q6, q7⟩ := acc_slotG h0c
  have hkey := accR_key (slotOf a c d) (b, w) h0c
  obtain ⟨ys, ht, hok, hS, hoth⟩ := told_gen ha h0c q3 (hkey.1.trans hk.1) (hkey.2.trans hk.2)
  have hcs : castK c d ys = (accR (slotOf a c d) (b, w)).2.2.2.2.2.2 := by unfold castK castS; rw [hS]
  have hca : castK c d a = (slotOf a c d).2.2.2.2 := rfl
  refine ⟨ys, by rw [ht], by rw [ht], hok, by rw [hS]; exact q5, ?_, ?_, ?_, ?_, hoth⟩
  · rw [hcs]
    rcases q7 with ⟨e, hl2⟩ | e
    · rw [e]
      cases hg : (slotOf a c d).2.2.2.2.getLast? with
      | none =>
        have := hne (List.getLast?_eq_none_iff.1 hg)
        rw [this] at hl2
        have : (-1 : Int) = b := congrArg (·.1) hl2
        omega
      | some u => rw [← hl2, hlast u hg]; exact List.mem_of_getLast? hg
    · rw [e]; simp
  · rw [hcs]
    intro u hu
    rcases q7 with ⟨e, _⟩ | e
    · rw [e] at hu; exact hw u hu
    · rw [e] at hu
      rcases List.mem_append.1 hu with hu | hu
      · exact hw u hu
      · rw [List.mem_singleton.1 hu]
  · rw [hcs, hca]
    rcases q7 with ⟨e, _⟩ | e
    · rw [e]; omega
    · rw [e]; simp
  · rw [hcs, hca]
    intro u hu
    rcases q7 with ⟨e, _⟩ | e
    · rw [e]; exact hu
    · rw [e]; exact List.mem_append_left _ hu
end
structure BaseK (N : Nat) (c : Int) (accs : List (List SlotT)) : Prop where
  len : accs.length = N
  ok : ∀ a ∈ accs, okA c a
theorem BaseK.set {N : Nat} {c : Int} {accs : List (List SlotT)} (h : BaseK N c accs) (k : Nat) {ys : List SlotT} (hy : okA c ys) : BaseK N c (accs.set k ys) :=
  ⟨by rw [List.length_set]; exact h.len, fun a ha => (List.mem_or_eq_of_mem_set ha).elim (h.ok a) fun e => e ▸ hy⟩
/-- The slots of other shards are what they were. -/
def Oth (c d : Int) (accs accs' : List (List SlotT)) : Prop := ∀ (k : Nat) a a', accs[k]? = some a → accs'[k]? = some a' → ∀ d', d' ≠ d → slotOf a' c d' = slotOf a c d'
/-- Promises, so far. -/
structure PrK (N : Nat) (c d : Int) (accs : List (List SlotT)) (rs : List Int) (b : Int) (i : Nat) (st : BSt) : Prop where
  base : BaseK N c st.2.2
  same : ∀ (k : Nat) a a', accs[k]? = some a → st.2.2[k]? = some a' → (slotOf a' c d).2.2.2 = (slotOf a c d).2.2.2
  oth : Oth c d accs st.2.2
  sub : st.1.Sublist (rs.take i)
  at_b : ∀ y ∈ st.1, ∀ a, st.2.2[y.toNat]? = some a → (slotOf a c d).2.2.1 = b
  votes : st.2.1 = st.1.map fun y => (slotOf (accs[y.toNat]?.getD []) c d).2.2.2.1
theorem PrK.step {N : Nat} {c d : Int} {accs : List (List SlotT)} {rs : List Int} {b : Int} {i : Nat} {st : BSt} (hl : accs.length = N) (hn : (idB c && shB d) = true) (h : PrK N c d accs rs b i st) (hi : i < rs.length) (hin : ∀ y ∈ rs, 0 ≤ y ∧ y < (N : Int)) (hb : bal b = true) : PrK N c d accs rs b (i + 1) (promStep c d b st rs[i]) := by
  have hy := hin rs[i] (List.getElem_mem hi)
  have hk : rs[i].toNat < st.2.2.length := by rw [h.base.len]; omega
  have hka : rs[i].toNat < accs.length := by omega
  have ha := List.getElem?_eq_getElem hk
  have haa := List.getElem?_eq_getElem hka
  have hm := List.getElem_mem hk
  have hc := h.base.ok _ hm
  have ht : rs.take (i + 1) = rs.take i ++ [rs[i]] := by rw [List.take_add_one, List.getElem?_eq_getElem hi]; rfl
  have hsame := h.same _ _ _ haa ha
  unfold promStep
  rw [ha]
  simp only [Option.elim]
  by_cases hp : (slotOf st.2.2[rs[i].toNat] c d).2.2.1 ≤ b
  · obtain ⟨ys, hone, hok, hS, hoth⟩ := prom_gen hc hn hb hp
    rw [hone]
    simp only [beq_self_eq_true, cond_true]
    refine ⟨h.base.set _ hok, fun k a a' e1 e2 => ?_, fun k a a' e1 e2 d' hd' => ?_, ?_, fun y hy a e => ?_, ?_⟩
    · rw [set_get hk] at e2
      split at e2
      · rename_i hkk
        subst hkk
        cases e2
        rw [hS]
        exact h.same _ _ _ e1 ha
      · exact h.same _ _ _ e1 e2
    · rw [set_get hk] at e2
      split at e2
      · rename_i hkk
        subst hkk
        cases e2
        rw [hoth d' hd']
        exact h.oth _ _ _ e1 ha d' hd'
      · exact h.oth _ _ _ e1 e2 d' hd'
    · rw [ht]; exact h.sub.append (List.Sublist.refl _)
    · rw [set_get hk] at e
      split at e
      · cases e; rw [hS]
      · rename_i hne
        rcases List.mem_append.1 hy with hy | hy
        · exact h.at_b y hy a e
        · rw [List.mem_singleton] at hy; rw [hy] at hne; exact absurd rfl hne
    · show _ ++ [(slotOf st.2.2[rs[i].toNat] c d).2.2.2.1] = _
      rw [h.votes, List.map_append, List.map_cons, List.map_nil, haa, Option.getD_some, hsame]
  · have hnot := prom_no hc hn hb (by omega)
    have : ((toldR st.2.2[rs[i].toNat] (promR (slotOf st.2.2[rs[i].toNat] c d) b)).1 == 0) = false := by rw [hnot]; rfl
    rw [this]
    simp only [cond_false]
    refine ⟨h.base, h.same, h.oth, ?_, h.at_b, h.votes⟩
    rw [ht]; exact h.sub.trans (List.sublist_append_left _ _)
theorem promK {N : Nat} {c d : Int} {accs : List (List SlotT)} {rs : List Int} {b : Int} (hn : (idB c && shB d) = true) (h : BaseK N c accs) (hin : ∀ y ∈ rs, 0 ≤ y ∧ y < (N : Int)) (hb : bal b = true) : PrK N c d accs rs b rs.length (promAll accs rs c d b) := by
  have key : ∀ (ys : List Int) (i : Nat) (st : BSt), rs.drop i = ys → i ≤ rs.length → PrK N c d accs rs b i st → PrK N c d accs rs b rs.length (ys.foldl (promStep c d b) st) := by
    intro ys
    induction ys with
    | nil =>
      intro i st hd hi hI
      have : i = rs.length := by
        have := congrArg List.length hd
        simp at this; omega
      subst this; exact hI
    | cons y ys ih =>
      intro i st hd hi hI
      have hil : i < rs.length := by
        rcases Nat.lt_or_ge i rs.length with h | h
        · exact h
        · rw [List.drop_eq_nil_of_le h] at hd; cases hd
      rw [List.drop_eq_getElem_cons hil] at hd
      simp only [List.cons.injEq] at hd
      obtain ⟨rfl, hd⟩ := hd
      exact ih (i + 1) _ hd hil (hI.step h.len hn hil hin hb)
  refine key rs 0 ([], ([], accs)) rfl (Nat.zero_le _) ⟨h, fun k a a' e1 e2 => ?_, fun k a a' e1 e2 d' _ => ?_, List.Sublist.refl _, (fun y hy => by cases hy), rfl⟩
  · rw [e1] at e2; cases e2; rfl
  · rw [e1] at e2; cases e2; rfl
/-- Votes, so far. -/
structure VoK (N m : Nat) (c d : Int) (accs : List (List SlotT)) (ids : List Int) (b w : Int) (i : Nat) (s : List (List SlotT)) : Prop where
  base : BaseK N c s
  vals : ∀ a ∈ s, ∀ u ∈ castK c d a, u.2 = w
  oth : Oth c d accs s
  len : ∀ (k : Nat) a, s[k]? = some a → (castK c d a).length ≤ m + (if (k : Int) ∈ ids.take i then 1 else 0)
  at_b : ∀ y ∈ ids, ∀ a, s[y.toNat]? = some a → (slotOf a c d).2.2.1 = b
  done : ∀ y ∈ ids.take i, ∀ a, s[y.toNat]? = some a → (b, w) ∈ castK c d a
theorem VoK.step {N m : Nat} {c d : Int} {accs s : List (List SlotT)} {ids : List Int} {b w : Int} {i : Nat} (hl : accs.length = N) (hn0 : (idB c && shB d) = true) (hm60 : m < 60) (h : VoK N m c d accs ids b w i s) (hi : i < ids.length) (hn : ids.Nodup) (hin : ∀ y ∈ ids, 0 ≤ y ∧ y < (N : Int)) (hv : votB (b, w) = true) : VoK N m c d accs ids b w (i + 1) (voteStep c d (b, w) s ids[i]) := by
  have hy := hin ids[i] (List.getElem_mem hi)
  have hk : ids[i].toNat < s.length := by rw [h.base.len]; omega
  have ha := List.getElem?_eq_getElem hk
  have hm := List.getElem_mem hk
  have hc := h.base.ok _ hm
  have ht : ids.take (i + 1) = ids.take i ++ [ids[i]] := by rw [List.take_add_one, List.getElem?_eq_getElem hi]; rfl
  have hnt : ids[i] ∉ ids.take i := by
    intro hmem
    obtain ⟨j, hj, he⟩ := List.mem_iff_getElem.1 hmem
    have hj' : j < i := by rw [List.length_take] at hj; omega
    rw [List.getElem_take] at he
    exact List.pairwise_iff_getElem.1 hn j i (by omega) hi hj' he
  have hlen := h.len _ _ ha
  rw [show ((ids[i].toNat : Nat) : Int) = ids[i] from by omega, if_neg hnt] at hlen
  obtain ⟨ys, q1, q2, q3, q4, q5, q6, q7, q8, q9⟩ := vote_gen hc hn0 hv (h.at_b _ (List.getElem_mem hi) _ ha) (h.vals _ hm) (by omega)
  unfold voteStep
  rw [ha]
  simp only [Option.elim, q1, q2, beq_self_eq_true, cond_true]
  refine ⟨h.base.set _ q3, fun a hma => ?_, fun k a a' e1 e2 d' hd' => ?_, fun k a e => ?_, fun y hy' a e => ?_, fun y hy' a e => ?_⟩
  · rcases List.mem_or_eq_of_mem_set hma with hma | rfl
    · exact h.vals a hma
    · exact q6
  · rw [set_get hk] at e2
    split at e2
    · rename_i hkk
      subst hkk
      cases e2
      rw [q9 d' hd']
      exact h.oth _ _ _ e1 ha d' hd'
    · exact h.oth k a a' e1 e2 d' hd'
  · rw [set_get hk] at e
    split at e
    · rename_i hkk
      subst hkk
      cases e
      rw [if_pos (by rw [ht]; exact List.mem_append_right _ (by simp; omega))]
      omega
    · have := h.len k a e
      split at this
      · rename_i hmem
        rw [if_pos (by rw [ht]; exact List.mem_append_left _ hmem)]; exact this
      · exact Nat.le_trans this (by omega)
  · rw [set_get hk] at e
    split at e
    · cases e; exact q4
    · exact h.at_b y hy' a e
  · rw [set_get hk] at e
    split at e
    · cases e; exact q5
    · rename_i hne
      rw [ht] at hy'
      rcases List.mem_append.1 hy' with hy' | hy'
      · exact h.done y hy' a e
      · rw [List.mem_singleton] at hy'; rw [hy'] at hne; exact absurd rfl hne
theorem voteK {N m : Nat} {c d : Int} {accs : List (List SlotT)} {ids : List Int} {b w : Int} (hn0 : (idB c && shB d) = true) (h : BaseK N c accs) (hm60 : m < 60) (hv0 : ∀ a ∈ accs, ∀ u ∈ castK c d a, u.2 = w) (hl0 : ∀ a ∈ accs, (castK c d a).length ≤ m) (hb0 : ∀ y ∈ ids, ∀ a, accs[y.toNat]? = some a → (slotOf a c d).2.2.1 = b) (hn : ids.Nodup) (hin : ∀ y ∈ ids, 0 ≤ y ∧ y < (N : Int)) (hv : votB (b, w) = true) :
    VoK N m c d accs ids b w ids.length (ids.foldl (voteStep c d (b, w)) accs) := by
  have key : ∀ (ys : List Int) (i : Nat) (s : List (List SlotT)), ids.drop i = ys → i ≤ ids.length → VoK N m c d accs ids b w i s → VoK N m c d accs ids b w ids.length (ys.foldl (voteStep c d (b, w)) s) := by
    intro ys
    induction ys with
    | nil =>
      intro i s hd hi hI
      have : i = ids.length := by
        have := congrArg List.length hd
        simp at this; omega
      subst this; exact hI
    | cons y ys ih =>
      intro i s hd hi hI
      have hil : i < ids.length := by
        rcases Nat.lt_or_ge i ids.length with h | h
        · exact h
        · rw [List.drop_eq_nil_of_le h] at hd; cases hd
      rw [List.drop_eq_getElem_cons hil] at hd
      simp only [List.cons.injEq] at hd
      obtain ⟨rfl, hd⟩ := hd
      exact ih (i + 1) _ hd hil (hI.step h.len hn0 hm60 hil hn hin hv)
  refine key ids 0 accs rfl (Nat.zero_le _) ⟨h, hv0, fun k a a' e1 e2 d' _ => ?_, fun k a e => ?_, hb0, (fun y hy => by simp at hy)⟩
  · rw [e1] at e2; cases e2; rfl
  · have := hl0 a (List.mem_of_getElem? e); omega
/-- One value at the most in a slot. v: the value that is chosen, 0: none. -/
structure AgK (N m : Nat) (c d v : Int) (accs : List (List SlotT)) : Prop where
  len : ∀ a ∈ accs, (castK c d a).length ≤ m
  val : (v = 0 ∧ ∀ a ∈ accs, castK c d a = []) ∨ (vlu v = true ∧ (∀ a ∈ accs, ∀ u ∈ castK c d a, u.2 = v) ∧ ∃ b, quo N ≤ accs.countP fun a => (castK c d a).contains (b, v))
theorem baseK_new (N : Nat) (c : Int) : BaseK N c (List.replicate N []) := by
  have h : ∀ a ∈ List.replicate N ([] : List SlotT), a = [] := fun a ha => (List.mem_replicate.1 ha).2
  exact ⟨List.length_replicate, fun a ha => by rw [h a ha]; exact ⟨rfl, fun s hs => by cases hs⟩⟩
theorem agK_new (N : Nat) (c d : Int) : AgK N 0 c d 0 (List.replicate N []) := by
  have h : ∀ a ∈ List.replicate N ([] : List SlotT), a = [] := fun a ha => (List.mem_replicate.1 ha).2
  exact ⟨fun a ha => by rw [h a ha]; exact Nat.le_refl _, .inl ⟨rfl, fun a ha => by rw [h a ha]; rfl⟩⟩
theorem castK_eq {c d : Int} {a a' : List SlotT} (h : (slotOf a' c d).2.2.2 = (slotOf a c d).2.2.2) : castK c d a' = castK c d a := by
  unfold castK castS; rw [h]
theorem lastK {c d : Int} {a : List SlotT} (hc : accCode a = 0) (hn : (idB c && shB d) = true) : (slotOf a c d).2.2.2.1 = lastV (castK c d a) := (slotCode_zero (slotOf_code hc hn)).2.2.2.1
/-- What another slot holds is not touched. -/
theorem agK_keep {N m c d v} {accs accs' : List (List SlotT)} (hl : accs.length = N) (hl' : accs'.length = N) (h : AgK N m c d v accs) (he : ∀ (k : Nat) a a', accs[k]? = some a → accs'[k]? = some a' → castK c d a' = castK c d a) : AgK N m c d v accs' := by
  have hcs : ∀ a' ∈ accs', ∃ a ∈ accs, castK c d a' = castK c d a := by
    intro a' ha'
    obtain ⟨k, hk⟩ := mem_idx ha'
    have hkl : k < accs.length := by
      have := (List.getElem?_eq_some_iff.1 hk).1; omega
    exact ⟨accs[k], List.getElem_mem hkl, he k _ _ (List.getElem?_eq_getElem hkl) hk⟩
  have hcount : ∀ u : VoteT, (accs'.countP fun a => (castK c d a).contains u) = accs.countP fun a => (castK c d a).contains u := by
    intro u
    rw [countP_range _ accs', countP_range _ accs, hl, hl']
    apply List.countP_congr
    intro j hj
    rw [List.mem_range] at hj
    have h1 : j < accs'.length := by omega
    have h2 : j < accs.length := by omega
    rw [List.getElem?_eq_getElem h1, List.getElem?_eq_getElem h2]
    simp only [Option.elim]
    rw [he j _ _ (List.getElem?_eq_getElem h2) (List.getElem?_eq_getElem h1)]
  refine ⟨fun a' ha' => ?_, ?_⟩
  · obtain ⟨a, ha, e⟩ := hcs a' ha'
    rw [e]; exact h.len a ha
  · rcases h.val with ⟨hv0, hv⟩ | ⟨hv0, hv, b', hv'⟩
    · exact .inl ⟨hv0, fun a' ha' => by obtain ⟨a, ha, e⟩ := hcs a' ha'; rw [e]; exact hv a ha⟩
    · exact .inr ⟨hv0, fun a' ha' => by obtain ⟨a, ha, e⟩ := hcs a' ha'; rw [e]; exact hv a ha, b', by rw [hcount]; exact hv'⟩
theorem agK_more {N m c d v} {accs : List (List SlotT)} (h : AgK N m c d v accs) : AgK N (m + 1) c d v accs := ⟨fun a ha => Nat.le_succ_of_le (h.len a ha), h.val⟩
theorem agK_run {N m : Nat} {c d v : Int} {accs : List (List SlotT)} (hB : BaseK N c accs) (hn : (idB c && shB d) = true) (h : AgK N m c d v accs) (hm : m < 59) (hN1 : 1 ≤ N) (hN5 : N ≤ 5) {rs : List Int} (hu : upI rs) (hin : ∀ y ∈ rs, 0 ≤ y ∧ y < (N : Int)) {b w : Int} (hb : bal b = true) (hw : vlu w = true) :
    BaseK N c (runR accs rs c d b w).2.2 ∧ Oth c d accs (runR accs rs c d b w).2.2 ∧ ∃ v', AgK N (m + 1) c d v' (runR accs rs c d b w).2.2 ∧ (v ≠ 0 → v' = v) := by
  have hN := hB.len
  have ha0 := accsCode_of (accs := accs) (by omega) (by omega) fun a ha => (hB.ok a ha).code
  have hn0 : (newR c d).1 = 0 := by unfold newR; rw [hn]; rfl
  have hr0 := reach_of hin hu
  have hP := promK (rs := rs) hn hB hin hb
  generalize hst : promAll accs rs c d b = st at hP
  have e0 : runR accs rs c d b w = cond (decide (st.1.length < quo N)) (4, (0, st.2.2)) (0, (pickOf st w, st.1.foldl (voteStep c d (b, pickOf st w)) st.2.2)) := by
    unfold runR
    rw [ha0, if_pos rfl, hn0, hb, hw, hN, hr0, hst]; rfl
  rw [e0]
  have hsub : st.1.Sublist rs := by have := hP.sub; rwa [List.take_length] at this
  have hnd : st.1.Nodup := (up_nodup hu).sublist hsub
  have hin' : ∀ y ∈ st.1, 0 ≤ y ∧ y < (N : Int) := fun y hy => hin y (hsub.subset hy)
  have hstN := hP.base.len
  have hA := agK_keep hN hstN h fun k a a' e1 e2 => castK_eq (hP.same k a a' e1 e2)
  cases hd : decide (st.1.length < quo N) with
  | true => exact ⟨hP.base, hP.oth, v, agK_more hA, fun _ => rfl⟩
  | false =>
    simp only [decide_eq_false_iff_not] at hd
    have hq : quo N ≤ st.1.length := by omega
    simp only [cond_false]
    have hvotes : ∀ u ∈ st.2.1, ∃ y ∈ st.1, ∃ a, accs[y.toNat]? = some a ∧ u = lastV (castK c d a) := by
      intro u hu
      rw [hP.votes] at hu
      obtain ⟨y, hy, rfl⟩ := List.mem_map.1 hu
      have := hin' y hy
      have hl : y.toNat < accs.length := by omega
      refine ⟨y, hy, accs[y.toNat], List.getElem?_eq_getElem hl, ?_⟩
      rw [List.getElem?_eq_getElem hl, Option.getD_some]
      exact lastK (hB.ok _ (List.getElem_mem hl)).code hn
    have hpick : (v = 0 → pickOf st w = w) ∧ (v ≠ 0 → pickOf st w = v) := by
      constructor
      · intro hv0
        have hvn : ∀ a ∈ accs, castK c d a = [] := by
          rcases h.val with ⟨_, hv⟩ | ⟨hv1, _⟩
          · exact hv
          · rw [hv0] at hv1; exact absurd hv1 (by decide)
        unfold pickOf
        rw [best_none w st.2.1 fun u hu => by
          obtain ⟨y, _, a, ha, rfl⟩ := hvotes u hu
          rw [hvn a (List.mem_of_getElem? ha)]; rfl]
      · intro hvne
        rcases h.val with ⟨hv0, _⟩ | ⟨hv1, hv, b', hv'⟩
        · exact absurd hv0 hvne
        · unfold pickOf
          have hgood : ∀ a ∈ accs, (lastV (castK c d a)).1 = -1 ∨ (0 ≤ (lastV (castK c d a)).1 ∧ (lastV (castK c d a)).2 = v) := by
            intro a ha
            unfold lastV
            cases hg : (castK c d a).getLast? with
            | none => exact .inl rfl
            | some u =>
              have hm' := List.mem_of_getLast? hg
              have hcz := (slotCode_zero (slotOf_code (hB.ok a ha).code hn)).2.2.1
              exact .inr ⟨(cast_bal (xs := castK c d a) hcz hm').1, hv a ha u hm'⟩
          refine best_val v st.2.1 (-1, w) (.inl rfl) (fun u hu => ?_) (.inr ?_)
          · obtain ⟨y, _, a, ha, rfl⟩ := hvotes u hu
            exact hgood a (List.mem_of_getElem? ha)
          · obtain ⟨y, hy, a, ha, hp⟩ := ids_meet (xs := accs) (p := fun a => (castK c d a).contains (b', v)) hnd (fun y hy => by rw [hN]; exact hin' y hy) (by rw [hN]; exact hq) (by rw [hN]; exact hv')
            refine ⟨lastV (castK c d a), ?_, ?_⟩
            · rw [hP.votes]
              refine List.mem_map.2 ⟨y, hy, ?_⟩
              rw [ha, Option.getD_some]
              exact lastK (hB.ok _ (List.mem_of_getElem? ha)).code hn
            · rcases hgood a (List.mem_of_getElem? ha) with hg | hg
              · exfalso
                unfold lastV at hg
                cases hgl : (castK c d a).getLast? with
                | none =>
                  have he := List.getLast?_eq_none_iff.1 hgl
                  simp only [he] at hp; cases hp
                | some u =>
                  rw [hgl] at hg
                  have hcz := (slotCode_zero (slotOf_code (hB.ok a (List.mem_of_getElem? ha)).code hn)).2.2.1
                  have := (cast_bal (xs := castK c d a) hcz (List.mem_of_getLast? hgl)).1
                  have hg : u.1 = -1 := hg
                  omega
              · exact hg.1
    generalize hp : pickOf st w = p at hpick
    have hpv : vlu p = true := by
      by_cases hv0 : v = 0
      · rw [hpick.1 hv0]; exact hw
      · rw [hpick.2 hv0]
        rcases h.val with ⟨h0, _⟩ | ⟨h1, _⟩
        · exact absurd h0 hv0
        · exact h1
    have hvp : ∀ a ∈ st.2.2, ∀ u ∈ castK c d a, u.2 = p := by
      rcases hA.val with ⟨hv0, hv⟩ | ⟨hv1, hv, _⟩
      · intro a ha u hu; rw [hv a ha] at hu; cases hu
      · intro a ha u hu
        rw [hv a ha u hu, hpick.2 (fun e => by rw [e] at hv1; exact absurd hv1 (by decide))]
    have hvb : votB (b, p) = true := by unfold votB; rw [hb, hpv]; rfl
    have hV := voteK (m := m) hn hP.base (by omega) hvp hA.len hP.at_b hnd hin' hvb
    refine ⟨hV.base, fun k a a' e1 e2 d' hd' => ?_, p, ⟨fun a ha => ?_, .inr ⟨hpv, hV.vals, b, ?_⟩⟩, hpick.2⟩
    · have hkl : k < st.2.2.length := by
        have := (List.getElem?_eq_some_iff.1 e1).1; omega
      rw [hV.oth k _ _ (List.getElem?_eq_getElem hkl) e2 d' hd']
      exact hP.oth k _ _ e1 (List.getElem?_eq_getElem hkl) d' hd'
    · obtain ⟨k, hk⟩ := mem_idx ha
      have := hV.len k a hk
      split at this <;> omega
    · refine Nat.le_trans hq (count_ids hnd (fun y hy => by rw [hV.base.len]; exact hin' y hy) fun y hy a ha => ?_)
      rw [List.contains_iff_mem]
      exact hV.done y (by rw [List.take_length]; exact hy) a ha
/-- What is told of such acceptors. -/
theorem agK_chosen {N m : Nat} {c d v : Int} {accs : List (List SlotT)} (hB : BaseK N c accs) (hN1 : 1 ≤ N) (hN5 : N ≤ 5) (h : AgK N m c d v accs) : accsCode accs = 0 ∧ ∀ out, chosenOK (accs.map fun x => slotOf x c d) out → (match out with | [] => 0 | u :: _ => u.2) = v := by
  have hN := hB.len
  have ha0 := accsCode_of (accs := accs) (by omega) (by omega) fun a ha => (hB.ok a ha).code
  refine ⟨ha0, fun out ho => ?_⟩
  have hcnt : ∀ u, cntV (accs.map fun x => slotOf x c d) u = accs.countP fun a => (castK c d a).contains u := by
    intro u
    unfold cntV
    rw [List.countP_map]
    rfl
  have hq1 : 1 ≤ quo N := by unfold quo; omega
  have hmem : ∀ u ∈ out, ∃ a ∈ accs, u ∈ castK c d a := by
    intro u hu
    have h1 := (ho.2 u).1 hu
    rw [hcnt, List.length_map, hN] at h1
    obtain ⟨a, ha, hau⟩ := List.countP_pos_iff.1 (show 0 < accs.countP (fun a => (castK c d a).contains u) by omega)
    exact ⟨a, ha, by rw [List.contains_iff_mem] at hau; exact hau⟩
  rcases h.val with ⟨hv0, hv⟩ | ⟨hv1, hv, b', hv'⟩
  · cases out with
    | nil => exact hv0.symm
    | cons u out =>
      obtain ⟨a, ha, hu⟩ := hmem u List.mem_cons_self
      rw [hv a ha] at hu; cases hu
  · cases out with
    | nil =>
      have : (b', v) ∈ ([] : List VoteT) := (ho.2 _).2 (by rw [hcnt, List.length_map, hN]; exact hv')
      cases this
    | cons u out =>
      obtain ⟨a, ha, hu⟩ := hmem u List.mem_cons_self
      exact hv a ha u hu
end Go.Rv
