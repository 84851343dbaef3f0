/- Rows put in order so that equal ones keep theirs. No condition. -/
import Derived.Test.YtbeplmdadjgamaaGreatRvO
namespace Go.Rv
def leR (a b : RowT) : Prop := ¬ cfRow b a < 0
def srt (xs : List RowT) : Prop := xs.Pairwise leR
def ssrt (xs : List RowT) : Prop := xs.Pairwise fun a b => cfRow a b < 0
def eqR (r y : RowT) : Bool := decide (cfRow y r = 0)
def EqS (xs ys : List RowT) : Prop := ∀ r, xs.filter (eqR r) = ys.filter (eqR r)
theorem cfR_key (x y : RowT) : cfRow x y = 0 ↔ x.1 = y.1 ∧ x.2.1 = y.2.1 := by
  rw [cfRow_zero, cmpB_zero]
  constructor <;> rintro ⟨a, b⟩ <;> exact ⟨a, b.symm⟩
theorem cfR_congr {a a' b b' : RowT} (h1 : cfRow a a' = 0) (h2 : cfRow b b' = 0) : cfRow a b = cfRow a' b' := by
  rw [cfR_key] at h1 h2
  unfold cfRow
  rw [h1.1, h1.2, h2.1, h2.2]
theorem cfR_self (a : RowT) : cfRow a a = 0 := (cfR_key a a).2 ⟨rfl, rfl⟩
theorem cfR_sym {a b : RowT} (h : cfRow a b = 0) : cfRow b a = 0 := (cfR_key b a).2 ⟨((cfR_key a b).1 h).1.symm, ((cfR_key a b).1 h).2.symm⟩
theorem cfR_etrans {a b c : RowT} (h : cfRow a b = 0) (h' : cfRow b c = 0) : cfRow a c = 0 := by rw [cfR_congr h (cfR_self c), h']
theorem leR_lt {a b : RowT} (h : cfRow a b < 0) : leR a b := cfR_asym h
theorem leR_iff (a b : RowT) : leR a b ↔ cfRow a b < 0 ∨ cfRow a b = 0 := by
  constructor
  · intro h
    by_cases h0 : cfRow b a = 0
    · exact .inr (cfR_sym h0)
    · exact .inl (cfR_tri h h0)
  · rintro (h | h)
    · exact leR_lt h
    · intro h2
      rw [cfR_sym h] at h2
      exact absurd h2 (by decide)
theorem leR_trans {a b c : RowT} (h1 : leR a b) (h2 : leR b c) : leR a c := by
  rw [leR_iff] at *
  rcases h1 with h1 | h1
  · rcases h2 with h2 | h2
    · exact .inl (cfRow_trans h1 h2)
    · exact .inl (by rw [← cfR_congr (cfR_self a) h2]; exact h1)
  · rw [cfR_congr h1 (cfR_self c)]; exact h2
theorem lt_leR {a b c : RowT} (h1 : cfRow a b < 0) (h2 : leR b c) : cfRow a c < 0 := by
  rcases (leR_iff b c).1 h2 with h2 | h2
  · exact cfRow_trans h1 h2
  · rw [← cfR_congr (cfR_self a) h2]; exact h1
theorem leR_lt2 {a b c : RowT} (h1 : leR a b) (h2 : cfRow b c < 0) : cfRow a c < 0 := by
  rcases (leR_iff a b).1 h1 with h1 | h1
  · exact cfRow_trans h1 h2
  · rw [cfR_congr h1 (cfR_self c)]; exact h2
theorem EqS.refl (xs : List RowT) : EqS xs xs := fun _ => rfl
theorem EqS.trans {a b c : List RowT} (h : EqS a b) (h' : EqS b c) : EqS a c := fun r => (h r).trans (h' r)
theorem EqS.symm {a b : List RowT} (h : EqS a b) : EqS b a := fun r => (h r).symm
theorem EqS.app {a b c d : List RowT} (h : EqS a b) (h' : EqS c d) : EqS (a ++ c) (b ++ d) := fun r => by rw [List.filter_append, List.filter_append, h r, h' r]
theorem EqS.mem {a b : List RowT} (h : EqS a b) {v : RowT} (hv : v ∈ b) : v ∈ a := by
  have : v ∈ b.filter (eqR v) := List.mem_filter.2 ⟨hv, decide_eq_true (cfR_self v)⟩
  rw [← h v] at this
  exact (List.mem_filter.1 this).1
theorem eqS_swap {U V : List RowT} (h : ∀ u ∈ U, ∀ v ∈ V, cfRow v u < 0) : EqS (U ++ V) (V ++ U) := fun r => by
  rw [List.filter_append, List.filter_append]
  by_cases hu : ∃ u ∈ U, eqR r u = true
  · obtain ⟨u, hu, hr⟩ := hu
    have : V.filter (eqR r) = [] := by
      rw [List.filter_eq_nil_iff]
      intro v hv hrv
      have h1 := of_decide_eq_true hr
      have h2 := of_decide_eq_true hrv
      have := h u hu v hv
      rw [cfR_etrans h2 (cfR_sym h1)] at this
      exact absurd this (by decide)
    rw [this, List.append_nil, List.nil_append]
  · have : U.filter (eqR r) = [] := by
      rw [List.filter_eq_nil_iff]
      intro u hu' hr
      exact hu ⟨u, hu', hr⟩
    rw [this, List.append_nil, List.nil_append]
theorem srt_merge {U1 U2 V1 V2 W1 W2 : List RowT} (hU : srt (U1 ++ U2)) (hV : srt (V1 ++ V2)) (h1 : ∀ u ∈ U1, ∀ v ∈ V2, leR u v) (h2 : ∀ u ∈ U2, ∀ v ∈ V1, cfRow v u < 0)
    (w1 : srt W1) (e1 : EqS (U1 ++ V1) W1) (w2 : srt W2) (e2 : EqS (U2 ++ V2) W2) : srt (W1 ++ W2) ∧ EqS ((U1 ++ U2) ++ (V1 ++ V2)) (W1 ++ W2) := by
  constructor
  · refine List.pairwise_append.2 ⟨w1, w2, fun a ha b hb => ?_⟩
    have qa := e1.mem ha
    have qb := e2.mem hb
    rcases List.mem_append.1 qa with qa | qa
    · rcases List.mem_append.1 qb with qb | qb
      · exact (List.pairwise_append.1 hU).2.2 a qa b qb
      · exact h1 a qa b qb
    · rcases List.mem_append.1 qb with qb | qb
      · exact leR_lt (h2 b qb a qa)
      · exact (List.pairwise_append.1 hV).2.2 a qa b qb
  · have s := eqS_swap h2
    have q : EqS ((U1 ++ U2) ++ (V1 ++ V2)) ((U1 ++ V1) ++ (U2 ++ V2)) := by
      have := ((EqS.refl U1).app s).app (EqS.refl V2)
      simpa only [List.append_assoc] using this
    exact q.trans (e1.app e2)
theorem srt_sub {a b : List RowT} (h : srt b) (hs : a.Sublist b) : srt a := h.sublist hs
theorem sw_get {α : Type} (A : List α) (x : α) (T : List α) : (A ++ x :: T)[A.length]? = some x := by simp
theorem sw_set {α : Type} (A : List α) (x u : α) (T : List α) : (A ++ x :: T).set A.length u = A ++ u :: T := by
  rw [List.set_append_right _ _ (Nat.le_refl _)]; simp
theorem sw_get2 {α : Type} (A : List α) (x : α) (M : List α) (y : α) (B : List α) : (A ++ x :: (M ++ y :: B))[A.length + 1 + M.length]? = some y := by
  have := sw_get (A ++ x :: M) y B
  simp only [List.append_assoc, List.cons_append, List.length_append, List.length_cons] at this
  rwa [show A.length + 1 + M.length = A.length + (M.length + 1) by omega]
theorem sw_set2 {α : Type} (A : List α) (x : α) (M : List α) (y u : α) (B : List α) : (A ++ x :: (M ++ y :: B)).set (A.length + 1 + M.length) u = A ++ x :: (M ++ u :: B) := by
  have := sw_set (A ++ x :: M) y u B
  simp only [List.append_assoc, List.cons_append, List.length_append, List.length_cons] at this
  rwa [show A.length + 1 + M.length = A.length + (M.length + 1) by omega]
theorem bs_from (lo hi : Nat) (hl : hi ≤ B36) (hlo : lo ≤ hi) (p : Nat → Bool) {step : (Int × Int → Option Int) → Int × Int → Option Int}
    (h1 : ∀ (a b : Nat) rec, lo ≤ a → a < b → b ≤ hi → step rec ((a : Int), (b : Int)) = cond (p ((a + b) / 2)) (rec ((((a + b) / 2 + 1 : Nat) : Int), (b : Int))) (rec ((a : Int), (((a + b) / 2 : Nat) : Int))))
    (h2 : ∀ (a : Nat) rec, step rec ((a : Int), (a : Int)) = some (a : Int)) :
    ∃ j : Nat, lo ≤ j ∧ j ≤ hi ∧ lp step FU ((lo : Int), (hi : Int)) = some (j : Int) ∧ (j < hi → p j = false) ∧ (lo < j → p (j - 1) = true) := by
  have key : ∀ (n k a b : Nat), b - a ≤ k → k < n → lo ≤ a → a ≤ b → b ≤ hi → (b < hi → p b = false) → (lo < a → p (a - 1) = true) →
      ∃ j : Nat, lo ≤ j ∧ j ≤ hi ∧ lp step n ((a : Int), (b : Int)) = some (j : Int) ∧ (j < hi → p j = false) ∧ (lo < j → p (j - 1) = true) := by
    intro n
    induction n with
    | zero => intro k a b _ h; omega
    | succ n ih =>
      intro k a b hk hn hla hab hb q1 q2
      show ∃ j : Nat, lo ≤ j ∧ j ≤ hi ∧ step (lp step n) _ = _ ∧ _
      rcases Nat.lt_or_ge a b with h | h
      · rw [h1 a b _ hla h hb]
        cases hp : p ((a + b) / 2) with
        | true =>
          simp only [cond_true]
          refine ih (k - 1) ((a + b) / 2 + 1) b (by omega) (by omega) (by omega) (by omega) hb q1 (fun _ => ?_)
          rw [Nat.add_sub_cancel]; exact hp
        | false =>
          simp only [cond_false]
          exact ih (k - 1) a ((a + b) / 2) (by omega) (by omega) hla (by omega) (by omega) (fun _ => hp) q2
      · have : a = b := by omega
        subst this
        exact ⟨a, hla, hb, h2 a _, q1, q2⟩
  exact key FU (hi - lo) lo hi (Nat.le_refl _) (by unfold B36 at hl; unfold FU; omega) (Nat.le_refl _) hlo (Nat.le_refl _) (fun h => absurd h (by omega)) (fun h => absurd h (by omega))
def ddG {α : Type} (e : α → α → Bool) : α → List α → List α
  | _, [] => []
  | p, y :: r => cond (e y p) (ddG e y r) (y :: ddG e y r)
def ddE {α : Type} (e : α → α → Bool) : List α → List α
  | [] => []
  | x :: r => x :: ddG e x r
theorem ddG_snoc {α : Type} (e : α → α → Bool) : ∀ (r : List α) (p y : α), ddG e p (r ++ [y]) = cond (e y (r.getLast?.getD p)) (ddG e p r) (ddG e p r ++ [y])
  | [], p, y => by simp only [List.nil_append, List.getLast?_nil, Option.getD_none, ddG]
  | z :: r, p, y => by
    have ih := ddG_snoc e r z y
    have hl : (z :: r).getLast?.getD p = r.getLast?.getD z := by
      cases r with
      | nil => rfl
      | cons a t => simp [List.getLast?_cons]
    rw [hl, List.cons_append]
    simp only [ddG, ih]
    cases e z p <;> cases e y (r.getLast?.getD z) <;> simp
theorem ddE_snoc {α : Type} (e : α → α → Bool) (x : List α) (k : Nat) (hk : k + 1 < x.length) : ddE e (x.take (k + 1 + 1)) = cond (e x[k + 1] x[k]) (ddE e (x.take (k + 1))) (ddE e (x.take (k + 1)) ++ [x[k + 1]]) := by
  cases x with
  | nil => simp at hk
  | cons a t =>
    simp only [List.length_cons] at hk
    have h1 : k < t.length := by omega
    simp only [List.take_succ_cons, ddE, List.getElem_cons_succ]
    rw [List.take_succ_eq_append_getElem h1, ddG_snoc]
    have hk' : k < (a :: t).length := by simp only [List.length_cons]; omega
    have hl : (t.take k).getLast?.getD a = (a :: t)[k] := by
      cases k with
      | zero => simp
      | succ k =>
        rw [List.getLast?_eq_getElem?, List.length_take, Nat.min_eq_left (by omega), List.getElem?_take, if_pos (by omega), List.getElem?_eq_getElem (by omega)]
        simp
    rw [hl]
    cases e t[k] ((a :: t)[k]'hk') <;> simp
theorem ddE_same {α : Type} (e : α → α → Bool) : ∀ (x : List α), (∀ (i : Nat) (h : i + 1 < x.length), e x[i + 1] x[i] = false) → ddE e x = x := by
  have key : ∀ (r : List α) (p : α), (∀ (i : Nat) (h : i + 1 < (p :: r).length), e (p :: r)[i + 1] (p :: r)[i] = false) → ddG e p r = r := by
    intro r
    induction r with
    | nil => intro p _; rfl
    | cons y r ih =>
      intro p h
      have h0 := h 0 (by simp)
      simp only [List.getElem_cons_succ, List.getElem_cons_zero] at h0
      simp only [ddG]
      have := ih y (fun i hi => by have := h (i + 1) (by simpa using hi); simpa using this)
      rw [this]
      have h0' : e y p = false := by simpa using h0
      rw [h0']; rfl
  intro x h
  cases x with
  | nil => rfl
  | cons a t => simp only [ddE]; rw [key t a h]
theorem ddG_ok : ∀ (r : List RowT) (p : RowT), srt (p :: r) → ssrt (p :: ddG (fun a b => cfRow a b == 0) p r) ∧ ∀ q, (p :: ddG (fun a b => cfRow a b == 0) p r).find? (eqR q) = (p :: r).find? (eqR q)
  | [], p, _ => ⟨List.pairwise_singleton _ _, fun _ => rfl⟩
  | y :: r, p, h => by
    have hy : leR p y := (List.pairwise_cons.1 h).1 y (by simp)
    obtain ⟨i1, i2⟩ := ddG_ok r y (List.pairwise_cons.1 h).2
    simp only [ddG]
    cases he : (cfRow y p == 0) with
    | true =>
      have h0 : cfRow y p = 0 := eq_of_beq he
      simp only [cond_true]
      constructor
      · refine List.pairwise_cons.2 ⟨fun z hz => ?_, (List.pairwise_cons.1 i1).2⟩
        have := (List.pairwise_cons.1 i1).1 z hz
        rw [cfR_congr (cfR_sym h0) (cfR_self z)]; exact this
      · intro q
        have hc : eqR q p = eqR q y := by unfold eqR; rw [cfR_congr h0 (cfR_self q)]
        have := i2 q
        rw [List.find?_cons] at this ⊢
        rw [List.find?_cons] at this
        rw [List.find?_cons, List.find?_cons]
        rw [← hc] at this
        cases hq : eqR q p with
        | true => rfl
        | false =>
          rw [hq] at this
          simp only at this ⊢
          rw [← hc, hq]
          simpa using this
    | false =>
      have h0 : cfRow y p ≠ 0 := by simpa using he
      have hlt : cfRow p y < 0 := by
        rcases (leR_iff p y).1 hy with q | q
        · exact q
        · exact absurd (cfR_sym q) h0
      simp only [cond_false]
      constructor
      · refine List.pairwise_cons.2 ⟨fun z hz => ?_, i1⟩
        rcases List.mem_cons.1 hz with rfl | hz
        · exact hlt
        · exact cfRow_trans hlt ((List.pairwise_cons.1 i1).1 z hz)
      · intro q
        have := i2 q
        rw [List.find?_cons (a := p), List.find?_cons (a := p), this]
theorem ddE_ok {xs : List RowT} (h : srt xs) : ssrt (ddE (fun a b => cfRow a b == 0) xs) ∧ ∀ q, (ddE (fun a b => cfRow a b == 0) xs).find? (eqR q) = xs.find? (eqR q) := by
  cases xs with
  | nil => exact ⟨List.Pairwise.nil, fun _ => rfl⟩
  | cons a t => exact ddG_ok t a h
theorem ddG_len {α : Type} (e : α → α → Bool) : ∀ (r : List α) (p : α), (ddG e p r).length ≤ r.length
  | [], _ => Nat.le_refl _
  | y :: r, p => by
    have := ddG_len e r y
    simp only [ddG]
    cases e y p <;> simp <;> omega
theorem ddE_len {α : Type} (e : α → α → Bool) (xs : List α) : (ddE e xs).length ≤ xs.length := by
  cases xs with
  | nil => exact Nat.le_refl _
  | cons a t => have := ddG_len e t a; simp only [ddE, List.length_cons]; omega
theorem ssrt_find {xs : List RowT} (h : ssrt xs) (v q : RowT) : xs.find? (eqR q) = some v ↔ v ∈ xs ∧ eqR q v = true := by
  constructor
  · intro e
    exact ⟨List.mem_of_find?_eq_some e, List.find?_some e⟩
  · rintro ⟨h1, h2⟩
    cases hf : xs.find? (eqR q) with
    | none => exact absurd h2 (by have := List.find?_eq_none.1 hf v h1; simpa using this)
    | some w =>
      have w1 := List.mem_of_find?_eq_some hf
      have w2 := List.find?_some hf
      have e0 : cfRow v w = 0 := cfR_etrans (of_decide_eq_true h2) (cfR_sym (of_decide_eq_true w2))
      obtain ⟨i, hi, rfl⟩ := List.getElem_of_mem h1
      obtain ⟨j, hj, rfl⟩ := List.getElem_of_mem w1
      rcases Nat.lt_trichotomy i j with q | q | q
      · have := List.pairwise_iff_getElem.1 h i j hi hj q; rw [e0] at this; exact absurd this (by decide)
      · subst q; rfl
      · have := List.pairwise_iff_getElem.1 h j i hj hi q; rw [cfR_sym e0] at this; exact absurd this (by decide)
theorem ssrt_uniq {xs ys : List RowT} (hx : ssrt xs) (hy : ssrt ys) (h : ∀ q, xs.find? (eqR q) = ys.find? (eqR q)) : xs = ys :=
  sorted_uniq _ cfR_irr (fun _ _ => cfR_asym) xs ys hx hy fun v => by
    have e : eqR v v = true := decide_eq_true (cfR_self v)
    constructor
    · intro hv
      have := (ssrt_find hx v v).2 ⟨hv, e⟩
      rw [h v] at this
      exact List.mem_of_find?_eq_some this
    · intro hv
      have := (ssrt_find hy v v).2 ⟨hv, e⟩
      rw [← h v] at this
      exact List.mem_of_find?_eq_some this
theorem putL_hit {xs : List RowT} {r : RowT} (h : ssrt xs) (hx : ∃ x ∈ xs, cfRow x r = 0) : putL xs r = xs := by
  obtain ⟨x, hx, h0⟩ := hx
  obtain ⟨j, hj, rfl⟩ := List.getElem_of_mem hx
  have hat : putAtR xs r = j := by
    unfold putAtR
    refine takeWhile_len (aheadR r) xs j (by omega) (fun i hi => ?_) (fun h' => ?_)
    · have := List.pairwise_iff_getElem.1 h i j (by omega) hj hi
      unfold aheadR
      rw [← cfR_congr (cfR_self xs[i]) h0]
      exact decide_eq_true this
    · unfold aheadR
      rw [h0]; rfl
  unfold putL
  rw [hat, List.getElem?_eq_getElem hj, Option.getD_some, decide_eq_true hj, cfR_sym h0]
  rfl
theorem putL_one {xs : List RowT} (h : ssrt xs) (y : RowT) : ssrt (putL xs y) ∧ ∀ q, (putL xs y).find? (eqR q) = (xs.find? (eqR q)).or (cond (eqR q y) (some y) none) := by
  by_cases hx : ∃ x ∈ xs, cfRow x y = 0
  · rw [putL_hit h hx]
    refine ⟨h, fun q => ?_⟩
    cases hq : eqR q y with
    | false => simp
    | true =>
      obtain ⟨x, hx, h0⟩ := hx
      have : eqR q x = true := decide_eq_true (cfR_etrans h0 (of_decide_eq_true hq))
      rw [(ssrt_find h x q).2 ⟨hx, this⟩]; rfl
  · have hn : ∀ x ∈ xs, cfRow x y ≠ 0 := fun x hm h0 => hx ⟨x, hm, h0⟩
    obtain ⟨s1, s2⟩ := putLR_ok h hn
    refine ⟨s1, fun q => ?_⟩
    cases hq : eqR q y with
    | true =>
      have h1 : xs.find? (eqR q) = none := by
        rw [List.find?_eq_none]
        intro x hm hx'
        exact hn x hm (cfR_etrans (of_decide_eq_true hx') (cfR_sym (of_decide_eq_true hq)))
      rw [h1, (ssrt_find s1 y q).2 ⟨(s2 y).2 (.inl rfl), hq⟩]; rfl
    | false =>
      rw [cond_false, Option.or_none]
      cases hf : xs.find? (eqR q) with
      | some v =>
        obtain ⟨v1, v2⟩ := (ssrt_find h v q).1 hf
        exact (ssrt_find s1 v q).2 ⟨(s2 v).2 (.inr v1), v2⟩
      | none =>
        rw [List.find?_eq_none] at hf ⊢
        intro x hm
        rcases (s2 x).1 hm with rfl | hm
        · rw [hq]; exact Bool.false_ne_true
        · exact hf x hm
theorem putL_all : ∀ (rs xs : List RowT), ssrt xs → ssrt (rs.foldl putL xs) ∧ ∀ q, (rs.foldl putL xs).find? (eqR q) = (xs.find? (eqR q)).or (rs.find? (eqR q))
  | [], xs, h => ⟨h, fun q => by simp⟩
  | r :: rs, xs, h => by
    obtain ⟨s1, s2⟩ := putL_one h r
    obtain ⟨t1, t2⟩ := putL_all rs (putL xs r) s1
    refine ⟨t1, fun q => ?_⟩
    rw [List.foldl_cons, t2, s2, List.find?_cons, Option.or_assoc]
    cases eqR q r <;> simp
theorem find_filter {α : Type} (p : α → Bool) (xs : List α) : xs.find? p = (xs.filter p).head? := List.head?_filter.symm
theorem merge_all {xs ys : List RowT} (h1 : srt ys) (h2 : EqS xs ys) : ddE (fun a b => cfRow a b == 0) ys = xs.foldl putL [] := by
  obtain ⟨d1, d2⟩ := ddE_ok h1
  obtain ⟨p1, p2⟩ := putL_all xs [] List.Pairwise.nil
  refine ssrt_uniq d1 p1 fun q => ?_
  rw [d2, p2, List.find?_nil, Option.none_or, find_filter, find_filter, h2 q]
end Go.Rv
