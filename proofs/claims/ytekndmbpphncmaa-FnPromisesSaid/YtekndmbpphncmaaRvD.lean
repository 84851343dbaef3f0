/- What is handed on through loops, joins and calls. No condition. -/
import Derived.Test.YtekndmbpphncmaaRvC
namespace Go.Rv

/-! ### Which entries a value names -/
mutual
def wfA (Q : Nat → Prop) : AVal → Prop
  | .ref i => Q i
  | .ptr i _ => Q i
  | .eptr i _ _ _ => Q i
  | .vw i _ _ _ => Q i
  | .agg cs => wfAs Q cs
  | .tup cs => wfAs Q cs
  | .fn _ cs => wfAs Q cs
  | _ => True
def wfAs (Q : Nat → Prop) : List AVal → Prop
  | [] => True
  | c :: cs => wfA Q c ∧ wfAs Q cs
end

mutual
theorem AV.wf {w : World} {R Al : Nat → Prop} {H : Nat → Value} {Q : Nat → Prop} (hQ : ∀ i, Al i → Q i) : ∀ (x : AVal) (v : Value), AV w R Al H x v → wfA Q x
  | .undef, _, _ => by simp [wfA]
  | .int _ _, _, _ => by simp [wfA]
  | .bool _, _, _ => by simp [wfA]
  | .str _, _, _ => by simp [wfA]
  | .nil, _, _ => by simp [wfA]
  | .sl _ _, _, _ => by simp [wfA]
  | .pel _ _ _, _, _ => by simp [wfA]
  | .ref i, v, h => by simp only [AV] at h; simp only [wfA]; exact hQ i h.1
  | .ptr i o, v, h => by simp only [AV] at h; simp only [wfA]; exact hQ i h.1
  | .eptr i s j o, v, h => by simp only [AV] at h; simp only [wfA]; exact hQ i h.1
  | .vw i s lo n, v, h => by simp only [AV] at h; simp only [wfA]; exact hQ i h.1
  | .emp, _, _ => by simp [wfA]
  | .agg cs, v, h => by simp only [AV] at h; obtain ⟨vs, _, h⟩ := h; simp only [wfA]; exact AVs.wf hQ cs _ h
  | .tup cs, v, h => by simp only [AV] at h; obtain ⟨vs, _, h⟩ := h; simp only [wfA]; exact AVs.wf hQ cs _ h
  | .fn f cs, v, h => by simp only [AV] at h; obtain ⟨vs, _, h⟩ := h; simp only [wfA]; exact AVs.wf hQ cs _ h
theorem AVs.wf {w : World} {R Al : Nat → Prop} {H : Nat → Value} {Q : Nat → Prop} (hQ : ∀ i, Al i → Q i) : ∀ (xs : List AVal) (vs : List Value), AVs w R Al H xs vs → wfAs Q xs
  | [], _, _ => by simp [wfAs]
  | c :: cs, vs, h => by
    simp only [AVs] at h
    obtain ⟨v, r, _, h2, h3⟩ := h
    simp only [wfAs]
    exact ⟨AV.wf hQ c v h2, AVs.wf hQ cs r h3⟩
end

mutual
theorem AV.mono' {w w' : World} {R R' Al Al' : Nat → Prop} {H H' : Nat → Value} {Q : Nat → Prop} (hR : ∀ b, R b → R' b ∧ w'.heap[b]? = w.heap[b]?) (hA : ∀ i, Q i → Al i → Al' i ∧ H' i = H i) :
    ∀ (x : AVal) (v : Value), wfA Q x → AV w R Al H x v → AV w' R' Al' H' x v
  | .undef, _, _, _ => by simp [AV]
  | .int _ _, _, _, h => by simpa [AV] using h
  | .bool _, _, _, h => by simpa [AV] using h
  | .str _, _, _, h => by simpa [AV] using h
  | .nil, _, _, h => by simpa [AV] using h
  | .sl e xs, v, _, h => by
    simp only [AV] at h ⊢
    exact Rp.mono (C' := noC) (i' := 0) [] hR (fun b p hb => by simp [noC] at hb) _ _ [] _ h
  | .ref i, v, hq, h => by
    simp only [AV] at h ⊢
    simp only [wfA] at hq
    exact ⟨(hA i hq h.1).1, by rw [(hA i hq h.1).2]; exact h.2⟩
  | .ptr i o, v, hq, h => by
    simp only [AV] at h ⊢
    simp only [wfA] at hq
    exact ⟨(hA i hq h.1).1, by rw [(hA i hq h.1).2]; exact h.2⟩
  | .eptr i s j o, v, hq, h => by
    simp only [AV] at h ⊢
    simp only [wfA] at hq
    exact ⟨(hA i hq h.1).1, by rw [(hA i hq h.1).2]; exact h.2⟩
  | .vw i s lo n, v, hq, h => by
    simp only [AV] at h ⊢
    simp only [wfA] at hq
    exact ⟨(hA i hq h.1).1, by rw [(hA i hq h.1).2]; exact h.2⟩
  | .emp, v, _, h => by simpa [AV] using h
  | .pel e x o, v, _, h => by
    simp only [AV] at h ⊢
    obtain ⟨a, fl, h1, h2, h3⟩ := h
    exact ⟨a, fl, h1, h2.mono hR, Rp.mono (C' := noC) (i' := 0) [] hR (fun b p hb => by simp [noC] at hb) _ _ [] _ h3⟩
  | .agg cs, v, hq, h => by
    simp only [AV] at h ⊢
    simp only [wfA] at hq
    obtain ⟨vs, h1, h2⟩ := h
    exact ⟨vs, h1, AVs.mono' hR hA cs _ hq h2⟩
  | .tup cs, v, hq, h => by
    simp only [AV] at h ⊢
    simp only [wfA] at hq
    obtain ⟨vs, h1, h2⟩ := h
    exact ⟨vs, h1, AVs.mono' hR hA cs _ hq h2⟩
  | .fn f cs, v, hq, h => by
    simp only [AV] at h ⊢
    simp only [wfA] at hq
    obtain ⟨vs, h1, h2⟩ := h
    exact ⟨vs, h1, AVs.mono' hR hA cs _ hq h2⟩
theorem AVs.mono' {w w' : World} {R R' Al Al' : Nat → Prop} {H H' : Nat → Value} {Q : Nat → Prop} (hR : ∀ b, R b → R' b ∧ w'.heap[b]? = w.heap[b]?) (hA : ∀ i, Q i → Al i → Al' i ∧ H' i = H i) :
    ∀ (xs : List AVal) (vs : List Value), wfAs Q xs → AVs w R Al H xs vs → AVs w' R' Al' H' xs vs
  | [], vs, _, h => by simpa [AVs] using h
  | c :: cs, vs, hq, h => by
    simp only [AVs] at h ⊢
    simp only [wfAs] at hq
    obtain ⟨v, r, h1, h2, h3⟩ := h
    exact ⟨v, r, h1, AV.mono' hR hA c v hq.1 h2, AVs.mono' hR hA cs r hq.2 h3⟩
end

/-! ### What is owned, under new numbers -/
section
variable {w : World} {S : Upd} {C C' : Col} {R Al Al' : Nat → Prop} {H H' : Nat → Value}

/-- Whoever owned under the number ids[q] owns under nx + q. -/
def Moves (C C' : Col) (H H' : Nat → Value) (ids : List (Option Nat)) (nx : Nat) : Prop :=
  ∀ q o, ids[q]? = some o → match o with
    | some j => (∀ b p, C b = some (j, p) → C' b = some (nx + q, p)) ∧ H' (nx + q) = H j
    | none => H' (nx + q) = Value.slice none 0 0

theorem Moves.left {a b : List (Option Nat)} {nx : Nat} (h : Moves C C' H H' (a ++ b) nx) : Moves C C' H H' a nx := fun q o hq => h q o (by
  rw [List.getElem?_append_left (List.getElem?_eq_some_iff.1 hq).1]; exact hq)
theorem Moves.right {a b : List (Option Nat)} {nx : Nat} (h : Moves C C' H H' (a ++ b) nx) : Moves C C' H H' b (nx + a.length) := fun q o hq => by
  have := h (a.length + q) o (by rw [List.getElem?_append_right (by omega)]; simpa using hq)
  rw [Nat.add_assoc]
  exact this

theorem getS_append_right {u S : Upd} {i : Nat} (h : ∀ p ∈ u, p.1 ≠ i) : getS (u ++ S) i = getS S i := by
  induction u with
  | nil => rfl
  | cons p u ih =>
    obtain ⟨d, e⟩ := p
    rw [List.cons_append, getS_cons_ne _ _ (fun he => h (d, e) (by simp) he.symm)]
    exact ih (fun p hp => h p (by simp [hp]))

theorem getS_append_left {u S : Upd} {i : Nat} (h : ∃ p ∈ u, p.1 = i) : getS (u ++ S) i = getS u i := by
  induction u with
  | nil => obtain ⟨p, hp, _⟩ := h; cases hp
  | cons p u ih =>
    obtain ⟨d, e⟩ := p
    by_cases hd : i = d
    · subst hd
      rw [List.cons_append, getS_cons_self, getS_cons_self]
    · rw [List.cons_append, getS_cons_ne _ _ hd, getS_cons_ne _ _ hd]
      obtain ⟨p, hp, he⟩ := h
      rcases List.mem_cons.1 hp with hp | hp
      · subst hp; exact absurd he.symm hd
      · exact ih ⟨p, hp, he⟩

/-- Cells taken, and told anew under new numbers. -/
theorem takeCells_res (hx : Ctx w C R Al H S) : ∀ (k : Kd) (cs : List AVal) (x : k.ty) (rest : List AVal) (ids : List (Option Nat)), takeCells S k cs = some (x, rest, ids) → ∀ (vs : List Value), AVs w R Al H cs vs →
    ∀ (nx : Nat), Moves C C' H H' ids nx → (∀ q, q < ids.length → Al' (nx + q)) →
    ∃ c r cs' u, resCells k x nx = (cs', u, nx + ids.length) ∧ vs = c ++ r ∧ AVs w R Al' H' cs' c ∧ AVs w R Al H rest r ∧ cs'.length = k.size ∧
      (∀ p ∈ u, nx ≤ p.1 ∧ p.1 < nx + ids.length) ∧ ∀ q, q < ids.length → (∃ p ∈ u, p.1 = nx + q) ∧ EntOK w C' R Al' H' (nx + q) (getS u (nx + q)) := by
  intro k
  induction k with
  | int k =>
    intro cs x rest ids h vs hv nx hm hal
    cases cs with
    | nil => simp [takeCells] at h
    | cons c cs =>
      simp only [AVs] at hv
      obtain ⟨v, r, h1, h2, h3⟩ := hv
      cases c <;> simp only [takeCells] at h <;> first | (cases h; done) | skip
      split at h
      · rename_i hk
        subst hk
        simp only [Option.some.injEq, Prod.mk.injEq] at h
        obtain ⟨rfl, rfl, rfl⟩ := h
        simp only [AV] at h2
        subst h2
        exact ⟨[_], r, _, [], rfl, h1, by simp [AVs, AV], h3, rfl, by simp, by simp⟩
      · cases h
  | bool =>
    intro cs x rest ids h vs hv nx hm hal
    cases cs with
    | nil => simp [takeCells] at h
    | cons c cs =>
      simp only [AVs] at hv
      obtain ⟨v, r, h1, h2, h3⟩ := hv
      cases c <;> simp only [takeCells] at h <;> first | (cases h; done) | skip
      simp only [Option.some.injEq, Prod.mk.injEq] at h
      obtain ⟨rfl, rfl, rfl⟩ := h
      simp only [AV] at h2
      subst h2
      exact ⟨[_], r, _, [], rfl, h1, by simp [AVs, AV], h3, rfl, by simp, by simp⟩
  | str =>
    intro cs x rest ids h vs hv nx hm hal
    cases cs with
    | nil => simp [takeCells] at h
    | cons c cs =>
      simp only [AVs] at hv
      obtain ⟨v, r, h1, h2, h3⟩ := hv
      cases c <;> simp only [takeCells] at h <;> first | (cases h; done) | skip
      simp only [Option.some.injEq, Prod.mk.injEq] at h
      obtain ⟨rfl, rfl, rfl⟩ := h
      simp only [AV] at h2
      subst h2
      exact ⟨[_], r, _, [], rfl, h1, by simp [AVs, AV], h3, rfl, by simp, by simp⟩
  | one a ih => intro cs x rest ids h vs hv nx hm hal; exact ih cs x rest ids h vs hv nx hm hal
  | pair a b iha ihb =>
    intro cs x rest ids h vs hv nx hm hal
    simp only [takeCells] at h
    split at h
    · rename_i x1 r1 i1 h1
      split at h
      · rename_i y r2 i2 h2
        simp only [Option.some.injEq, Prod.mk.injEq] at h
        obtain ⟨rfl, rfl, rfl⟩ := h
        simp only [List.length_append] at hal
        obtain ⟨c1, q1, cs1, u1, a1, a2, a3, a4, a5, a6, a7⟩ := iha _ _ _ _ h1 vs hv nx hm.left (fun q hq => hal q (by omega))
        obtain ⟨c2, q2, cs2, u2, b1, b2, b3, b4, b5, b6, b7⟩ := ihb _ _ _ _ h2 _ a4 (nx + i1.length) hm.right (fun q hq => by rw [Nat.add_assoc]; exact hal _ (by omega))
        refine ⟨c1 ++ c2, q2, cs1 ++ cs2, u2 ++ u1, ?_, by rw [a2, b2, List.append_assoc], AVs.append _ _ _ _ a3 b3, b4, by simp [a5, b5, Kd.size], ?_, ?_⟩
        · simp only [resCells, a1, b1, List.length_append, Nat.add_assoc]
        · intro p hp
          simp only [List.length_append]
          rcases List.mem_append.1 hp with hp | hp
          · have := b6 p hp; omega
          · have := a6 p hp; omega
        · intro q hq
          simp only [List.length_append] at hq
          by_cases hql : q < i1.length
          · obtain ⟨⟨p, hp, hpe⟩, hent⟩ := a7 q hql
            refine ⟨⟨p, List.mem_append_right _ hp, hpe⟩, ?_⟩
            rw [getS_append_right (fun p hp => by have := b6 p hp; omega)]
            exact hent
          · obtain ⟨⟨p, hp, hpe⟩, hent⟩ := b7 (q - i1.length) (by omega)
            rw [show nx + i1.length + (q - i1.length) = nx + q from by omega] at hpe hent
            refine ⟨⟨p, List.mem_append_left _ hp, hpe⟩, ?_⟩
            rw [getS_append_left ⟨p, hp, hpe⟩]
            exact hent
      · cases h
    · cases h
  | sl o e ih =>
    intro cs x rest ids h vs hv nx hm hal
    cases cs with
    | nil => simp [takeCells] at h
    | cons c cs =>
      simp only [AVs] at hv
      obtain ⟨v, r, h1, h2, h3⟩ := hv
      simp only [takeCells] at h
      split at h
      · rename_i ys js hy
        simp only [Option.some.injEq, Prod.mk.injEq] at h
        obtain ⟨rfl, rfl, rfl⟩ := h
        cases o with
        | none =>
          obtain ⟨q1, q2⟩ := takeSl_ok hx h2 hy []
          subst q2
          exact ⟨[v], r, _, [], rfl, h1, by simp only [AVs, AV]; exact ⟨v, [], rfl, q1, rfl⟩, h3, rfl, by simp, by simp⟩
        | some t =>
          unfold takeSl at hy
          simp only at hy
          split at hy
          · simp only [Option.some.injEq, Prod.mk.injEq] at hy
            obtain ⟨rfl, rfl⟩ := hy
            simp only [AV] at h2
            subst h2
            have hm0 := hm 0 none rfl
            simp only [Nat.add_zero] at hm0
            refine ⟨[_], r, _, _, rfl, h1, ?_, h3, rfl, by simp, fun q hq => ?_⟩
            · simp only [AVs, AV]
              exact ⟨_, [], rfl, ⟨by simpa using hal 0 (by simp), hm0.symm⟩, rfl⟩
            · simp only [List.length_cons, List.length_nil] at hq
              have : q = 0 := by omega
              subst this
              refine ⟨⟨_, List.mem_singleton.2 rfl, rfl⟩, ?_⟩
              rw [Nat.add_zero, getS_cons_self]
              simp only [EntOK]
              rw [hm0]
              exact ⟨_, [], rfl, Own.nil _ _ _ none, by simp [ownB], rfl⟩
          · rename_i j
            simp only [AV] at h2
            obtain ⟨h2a, rfl⟩ := h2
            split at hy
            · rename_i t' e' zs hr
              cases ht : Nat.beq t' t
              · rw [ht] at hy; cases hy
              · rw [ht] at hy
                simp only [cond_true] at hy
                have ht := Nat.eq_of_beq_eq_true ht
                split at hy
                · rename_i zs' hz
                  simp only [Option.some.injEq, Prod.mk.injEq] at hy
                  obtain ⟨rfl, rfl⟩ := hy
                  obtain ⟨he, hxs⟩ := castL_some hz
                  subst he
                  simp only at hxs
                  subst hxs ht
                  have hent := hx.ent j
                  rw [hr] at hent
                  simp only [EntOK] at hent
                  obtain ⟨hm1, hm2⟩ := hm 0 (some j) rfl
                  simp only [Nat.add_zero] at hm1 hm2
                  refine ⟨[_], r, _, _, rfl, h1, ?_, h3, rfl, by simp, fun q hq => ?_⟩
                  · simp only [AVs, AV]
                    exact ⟨_, [], rfl, ⟨by simpa using hal 0 (by simp), hm2.symm⟩, rfl⟩
                  · simp only [List.length_cons, List.length_nil] at hq
                    have : q = 0 := by omega
                    subst this
                    refine ⟨⟨_, List.mem_singleton.2 rfl, rfl⟩, ?_⟩
                    rw [Nat.add_zero, getS_cons_self]
                    simp only [EntOK]
                    rw [hm2]
                    exact Rp.mono [] (fun b hb => ⟨hb, rfl⟩) (fun b p hb => ⟨by simpa using hm1 b p hb, rfl⟩) _ _ [] _ hent
                · cases hy
            · cases hy
          · cases hy
      · cases h
end
end Go.Rv
namespace Go.Rv

/-- The machine's frame and world are as the state says. -/
def SOK (w0 : World) (L : List Nat) (R0 : Nat → Prop) (gs : List (AVal × Value)) (st : St) (a : Act) (w : World) : Prop :=
  ∃ C R Al H, Inv w0 L R0 st.sto w C R Al H ∧ (∀ t, AV w R Al H (getE st.env t) (a.tmps.getD t undef)) ∧ (∀ i, Al i → i < st.nxt) ∧ a.tmps.size = st.sz ∧ a.defers = [] ∧ ∀ p ∈ gs, AV w R Al H p.1 p.2

/-- st has come out of st0. -/
def Came (st0 st : St) : Prop := (∃ e, st.env = e ++ st0.env) ∧ (∃ u, st.sto = u ++ st0.sto) ∧ st0.nxt ≤ st.nxt ∧ st.sz = st0.sz

theorem Came.refl (st : St) : Came st st := ⟨⟨[], rfl⟩, ⟨[], rfl⟩, Nat.le_refl _, rfl⟩
theorem Came.trans {a b c : St} (h : Came a b) (h' : Came b c) : Came a c := by
  obtain ⟨⟨e, he⟩, ⟨u, hu⟩, hn, hs⟩ := h
  obtain ⟨⟨e', he'⟩, ⟨u', hu'⟩, hn', hs'⟩ := h'
  exact ⟨⟨e' ++ e, by rw [he', he, List.append_assoc]⟩, ⟨u' ++ u, by rw [hu', hu, List.append_assoc]⟩, Nat.le_trans hn hn', hs'.trans hs⟩

section
variable {w : World} {S : Upd} {C C1 : Col} {R Al Al1 : Nat → Prop} {H H1 : Nat → Value}

theorem valOf_ok {k : Kd} {v : AVal} {c : Value} {cs' : List AVal} (hv : AV w R Al H v c) (hH : ∀ i, Al i → (H i).oneCell' = true) (hag : k.agg = aggV v) (hso : solid v = true) (hcs : AVs w R Al1 H1 cs' c.cells.toList) (hl : cs'.length = k.size) : AV w R Al1 H1 (valOf k cs') c := by
  unfold valOf
  cases hk : k.agg
  · simp only
    have h1 : k.size = 1 := by cases k <;> simp [Kd.agg] at hk <;> rfl
    rw [h1] at hl
    have hone : one1 v = true := by
      rw [hk] at hag
      cases v <;> first | rfl | (simp [solid] at hso; done) | (simp [aggV] at hag; done)
    have hc := (one1_ok hv hone hH).2
    rw [hc] at hcs
    match cs', hl with
    | [u], _ =>
      simp only [AVs] at hcs
      obtain ⟨v', r, e1, e2, _⟩ := hcs
      simp only [List.cons.injEq] at e1
      simp only
      rw [e1.1]
      exact e2
  · simp only
    rw [hk] at hag
    cases v <;> simp [aggV] at hag
    simp only [AV] at hv
    obtain ⟨vs, rfl, _⟩ := hv
    simp only [AV]
    exact ⟨vs, rfl, hcs⟩

structure Good (w : World) (C1 : Col) (R Al1 : Nat → Prop) (H1 : Nat → Value) (a : Act) (cur : St) : Prop where
  env : ∀ t, AV w R Al1 H1 (getE cur.env t) (a.tmps.getD t undef)
  ent : ∀ i, EntOK w C1 R Al1 H1 i (getS cur.sto i)
  al : ∀ i, getS cur.sto i ≠ .dead → Al1 i

theorem getE_cons (e : Slots) (t d : Nat) (v : AVal) : getE ((d, v) :: e) t = if t = d then v else getE e t := by
  show cond (Nat.beq t d) v (getE e t) = _
  by_cases h : t = d
  · rw [if_pos h, show Nat.beq t d = true from by rw [h]; exact Nat.beq_refl d]; rfl
  · rw [if_neg h]
    cases hb : Nat.beq t d
    · rfl
    · exact absurd (Nat.eq_of_beq_eq_true hb) h

theorem inV_ok {st : St} {a : Act} (hx : Ctx w C R Al H st.sto) (he : ∀ t, AV w R Al H (getE st.env t) (a.tmps.getD t undef)) {l : LV} {x : l.kd.ty} {ids : List (Option Nat)} (h : outV st l = some (x, ids)) {cur : St} (hm : Moves C C1 H H1 ids cur.nxt)
    (hal : ∀ q, q < ids.length → Al1 (cur.nxt + q)) (hbx : ∀ i k, l = .box i k → Al1 i ∧ H1 i = H i ∧ i < cur.nxt ∧ ∀ b p, C b = some (i, p) → C1 b = some (i, p)) (hrw : ∀ i t e, l = .row i t e → Al1 i ∧ H1 i = H i ∧ ∀ b p, C b = some (i, p) → C1 b = some (i, p)) (hg : Good w C1 R Al1 H1 a cur) :
    Good w C1 R Al1 H1 a (inV cur l x) ∧ (inV cur l x).nxt = cur.nxt + ids.length ∧ (inV cur l x).sz = cur.sz ∧ Came cur (inV cur l x) := by
  have rows : ∀ (u : Upd), (∀ p ∈ u, cur.nxt ≤ p.1 ∧ p.1 < cur.nxt + ids.length) → (∀ q, q < ids.length → (∃ p ∈ u, p.1 = cur.nxt + q) ∧ EntOK w C1 R Al1 H1 (cur.nxt + q) (getS u (cur.nxt + q))) →
      (∀ i, EntOK w C1 R Al1 H1 i (getS (u ++ cur.sto) i)) ∧ (∀ i, getS (u ++ cur.sto) i ≠ .dead → Al1 i) := by
    intro u hu hq
    constructor
    · intro i
      by_cases hi : ∃ p ∈ u, p.1 = i
      · rw [getS_append_left hi]
        obtain ⟨p, hp, rfl⟩ := hi
        have := hu p hp
        have := (hq (p.1 - cur.nxt) (by omega)).2
        rw [show cur.nxt + (p.1 - cur.nxt) = p.1 from by omega] at this
        exact this
      · rw [getS_append_right (fun p hp he => hi ⟨p, hp, he⟩)]
        exact hg.ent i
    · intro i hd
      by_cases hi : ∃ p ∈ u, p.1 = i
      · obtain ⟨p, hp, rfl⟩ := hi
        have := hu p hp
        have := hal (p.1 - cur.nxt) (by omega)
        rw [show cur.nxt + (p.1 - cur.nxt) = p.1 from by omega] at this
        exact this
      · rw [getS_append_right (fun p hp he => hi ⟨p, hp, he⟩)] at hd
        exact hg.al i hd
  cases l with
  | slot t k =>
    simp only [outV] at h
    obtain ⟨h1, h2, h3⟩ := takeV_some h
    have hsc := solid_cells (he t) h3 (fun i hi => one_cells (hx.one i hi))
    obtain ⟨c, r, cs', u, e1, e2, e3, e4, e5, e6, e7⟩ := takeCells_res (C' := C1) (Al' := Al1) (H' := H1) hx k _ _ _ _ h1 _ hsc cur.nxt hm hal
    simp only [AVs] at e4
    subst e4
    rw [List.append_nil] at e2
    have hv := valOf_ok (k := k) (he t) hx.one h2 h3 (by rw [e2]; exact e3) e5
    obtain ⟨r1, r2⟩ := rows u e6 e7
    have hin : inV cur (.slot t k) x = ⟨(t, valOf k cs') :: cur.env, u ++ cur.sto, cur.nxt + ids.length, cur.sz⟩ := by
      simp only [inV, e1]
    rw [hin]
    refine ⟨⟨fun t' => ?_, r1, r2⟩, rfl, rfl, ⟨⟨[_], rfl⟩, ⟨u, rfl⟩, by simp, rfl⟩⟩
    rw [getE_cons]
    by_cases ht : t' = t
    · rw [if_pos ht, ht]; exact hv
    · rw [if_neg ht]; exact hg.env t'
  | box i k =>
    simp only [outV] at h
    split at h
    · rename_i cs hcs
      split at h
      · rename_i x' is htk
        simp only [Option.some.injEq] at h
        obtain ⟨rfl, rfl⟩ := h
        obtain ⟨hal0, b, cells, T, q1, q2, q3, q4⟩ := box_ok hx hcs
        obtain ⟨c, r, cs', u, e1, e2, e3, e4, e5, e6, e7⟩ := takeCells_res (C' := C1) (Al' := Al1) (H' := H1) hx k _ _ _ _ htk _ q4 cur.nxt hm hal
        simp only [AVs] at e4
        subst e4
        rw [List.append_nil] at e2
        obtain ⟨b1, b2, b3, b4⟩ := hbx i k rfl
        obtain ⟨r1, r2⟩ := rows u e6 e7
        have hin : inV cur (.box i k) x = ⟨cur.env, (i, .box cs') :: (u ++ cur.sto), cur.nxt + ids.length, cur.sz⟩ := by
          simp only [inV, e1]
        rw [hin]
        refine ⟨⟨hg.env, fun j => ?_, fun j hj => ?_⟩, rfl, rfl, ⟨⟨[], rfl⟩, ⟨(i, .box cs') :: u, rfl⟩, by simp, rfl⟩⟩
        · by_cases hji : j = i
          · subst hji
            rw [getS_cons_self]
            exact ⟨b, cells, T, by rw [b2]; exact q1, b4 _ _ q2, q3, by rw [e2]; exact e3⟩
          · rw [getS_cons_ne _ _ hji]; exact r1 j
        · by_cases hji : j = i
          · rw [hji]; exact b1
          · rw [getS_cons_ne _ _ hji] at hj; exact r2 j hj
      · cases h
    · cases h
  | row i t e =>
    simp only [outV] at h
    split at h
    · rename_i t' e' xs' hr
      cases hb : Nat.beq t' t
      · rw [hb] at h; cases h
      · rw [hb] at h
        simp only [cond_true] at h
        split at h
        · rename_i ys hy
          obtain ⟨rfl, rfl⟩ := Prod.mk.inj (Option.some.inj h)
          obtain ⟨he', hys⟩ := castL_some hy
          subst he'
          simp only at hys
          subst hys
          have ht := Nat.eq_of_beq_eq_true hb
          subst ht
          obtain ⟨b1, b2, b3⟩ := hrw i t' e' rfl
          have hent := hx.ent i
          rw [hr] at hent
          refine ⟨⟨hg.env, fun j => ?_, fun j hj => ?_⟩, rfl, rfl, ⟨⟨[], rfl⟩, ⟨[_], rfl⟩, Nat.le_refl _, rfl⟩⟩
          · show EntOK w C1 R Al1 H1 j (getS ((i, Ent.row t' e' xs') :: cur.sto) j)
            by_cases hji : j = i
            · subst hji
              rw [getS_cons_self]
              simp only [EntOK] at hent ⊢
              rw [b2]
              exact Rp.mono [] (fun b hb => ⟨hb, rfl⟩) (fun b p hb => ⟨by simpa using b3 b p hb, rfl⟩) _ _ [] _ hent
            · rw [getS_cons_ne _ _ hji]; exact hg.ent j
          · have hj' : getS ((i, Ent.row t' e' xs') :: cur.sto) j ≠ .dead := hj
            by_cases hji : j = i
            · rw [hji]; exact b1
            · rw [getS_cons_ne _ _ hji] at hj'; exact hg.al j hj'
        · cases h
    · cases h

theorem ins_ok {st : St} {a : Act} (hx : Ctx w C R Al H st.sto) (he : ∀ t, AV w R Al H (getE st.env t) (a.tmps.getD t undef)) : ∀ (vs : List LV) (x : Tup (vs.map LV.kd)) (ids : List (Option Nat)), outs st vs = some (x, ids) →
    ∀ (cur : St), Moves C C1 H H1 ids cur.nxt → (∀ q, q < ids.length → Al1 (cur.nxt + q)) → (∀ i k, .box i k ∈ vs → Al1 i ∧ H1 i = H i ∧ i < cur.nxt ∧ ∀ b p, C b = some (i, p) → C1 b = some (i, p)) → (∀ i t e, .row i t e ∈ vs → Al1 i ∧ H1 i = H i ∧ ∀ b p, C b = some (i, p) → C1 b = some (i, p)) → Good w C1 R Al1 H1 a cur →
    Good w C1 R Al1 H1 a (ins cur vs x) ∧ (ins cur vs x).nxt = cur.nxt + ids.length ∧ (ins cur vs x).sz = cur.sz ∧ Came cur (ins cur vs x)
  | [], x, ids, h, cur, _, _, _, _, hg => by
    simp only [outs, Option.some.injEq, Prod.mk.injEq] at h
    obtain ⟨rfl, rfl⟩ := h
    exact ⟨hg, rfl, rfl, Came.refl _⟩
  | [l], x, ids, h, cur, hm, hal, hbx, hrw, hg => inV_ok (l := l) hx he h hm hal (fun i k hl => hbx i k (by simp [hl])) (fun i t e hl => hrw i t e (by simp [hl])) hg
  | l :: l' :: r, x, ids, h, cur, hm, hal, hbx, hrw, hg => by
    simp only [outs] at h
    split at h
    · rename_i y is h1
      split at h
      · rename_i z js h2
        simp only [Option.some.injEq, Prod.mk.injEq] at h
        obtain ⟨rfl, rfl⟩ := h
        simp only [List.length_append] at hal
        obtain ⟨g1, g2, g3, g4⟩ := inV_ok (l := l) hx he h1 hm.left (fun q hq => hal q (by omega)) (fun i k hl => hbx i k (by simp [hl])) (fun i t e hl => hrw i t e (by simp [hl])) hg
        obtain ⟨k1, k2, k3, k4⟩ := ins_ok hx he (l' :: r) z js h2 (inV cur l y) (by rw [g2]; exact hm.right) (fun q hq => by rw [g2, Nat.add_assoc]; exact hal _ (by omega))
          (fun i k hi => by
            obtain ⟨b1, b2, b3, b4⟩ := hbx i k (by simp only [List.mem_cons] at hi ⊢; exact .inr hi)
            exact ⟨b1, b2, by rw [g2]; omega, b4⟩) (fun i t e hi => hrw i t e (by simp only [List.mem_cons] at hi ⊢; exact .inr hi)) g1
        refine ⟨k1, ?_, k3.trans g3, g4.trans k4⟩
        show (ins (inV cur l y) (l' :: r) z).nxt = _
        rw [k2, g2, List.length_append, Nat.add_assoc]
      · cases h
    · cases h
end
end Go.Rv
namespace Go.Rv

theorem getE_append_right {e S : Slots} {t : Nat} (h : ∀ p ∈ e, p.1 ≠ t) : getE (e ++ S) t = getE S t := by
  induction e with
  | nil => rfl
  | cons p e ih =>
    obtain ⟨d, v⟩ := p
    rw [List.cons_append, getE_cons, if_neg (fun he => h (d, v) (by simp) he.symm)]
    exact ih (fun p hp => h p (by simp [hp]))

theorem getE_forget (l : List Nat) (e : Slots) (t : Nat) : getE (forget l e) t = if t ∈ l then .undef else getE e t := by
  induction l with
  | nil => simp [forget]
  | cons d l ih =>
    simp only [forget, List.foldr_cons] at ih ⊢
    rw [getE_cons, ih]
    by_cases h : t = d
    · simp [h]
    · simp [h]

theorem getS_deads (l : List Nat) (S : Upd) (i : Nat) : getS (deads l S) i = if i ∈ l then .dead else getS S i := by
  induction l with
  | nil => simp [deads]
  | cons d l ih =>
    simp only [deads, List.foldr_cons] at ih ⊢
    by_cases h : i = d
    · rw [h, getS_cons_self]; simp
    · rw [getS_cons_ne _ _ h, ih]; simp [h]

theorem forget_append (l : List Nat) (e : Slots) : ∃ f, forget l e = f ++ e := by
  induction l with
  | nil => exact ⟨[], rfl⟩
  | cons d l ih => obtain ⟨f, hf⟩ := ih; exact ⟨(d, .undef) :: f, by simp only [forget, List.foldr_cons] at hf ⊢; rw [hf]; rfl⟩

theorem deads_append (l : List Nat) (S : Upd) : ∃ f, deads l S = f ++ S := by
  induction l with
  | nil => exact ⟨[], rfl⟩
  | cons d l ih => obtain ⟨f, hf⟩ := ih; exact ⟨(d, .dead) :: f, by simp only [deads, List.foldr_cons] at hf ⊢; rw [hf]; rfl⟩

theorem came_back (fg : List Nat) (vs : List LV) (st0 : St) (x : Tup (vs.map LV.kd)) : Came st0 (back fg vs st0 x) := by
  have hins : ∀ (vs : List LV) (x : Tup (vs.map LV.kd)) (cur : St), Came cur (ins cur vs x) := by
    have hin : ∀ (l : LV) (x : l.kd.ty) (cur : St), Came cur (inV cur l x) := by
      have hres : ∀ (k : Kd) (x : k.ty) (n : Nat), n ≤ (resCells k x n).2.2 := by
        intro k
        induction k with
        | int k => intro x n; exact Nat.le_refl _
        | bool => intro x n; exact Nat.le_refl _
        | str => intro x n; exact Nat.le_refl _
        | one a ih => intro x n; exact ih x n
        | pair a b iha ihb =>
          intro x n
          simp only [resCells]
          exact Nat.le_trans (iha x.1 n) (ihb x.2 _)
        | sl o e ih => intro x n; cases o <;> simp [resCells]
      intro l x cur
      cases l with
      | slot t k => exact ⟨⟨[_], rfl⟩, ⟨(resCells k x cur.nxt).2.1, rfl⟩, hres k x cur.nxt, rfl⟩
      | box i k => exact ⟨⟨[], rfl⟩, ⟨_ :: (resCells k x cur.nxt).2.1, rfl⟩, hres k x cur.nxt, rfl⟩
      | row i t e => exact ⟨⟨[], rfl⟩, ⟨[_], rfl⟩, Nat.le_refl _, rfl⟩
    intro vs
    induction vs with
    | nil => intro x cur; exact Came.refl _
    | cons l r ih =>
      intro x cur
      cases r with
      | nil => exact hin l x cur
      | cons l' r => exact (hin l x.1 cur).trans (ih x.2 _)
  refine Came.trans ?_ (hins vs x _)
  obtain ⟨f1, h1⟩ := forget_append (slotsV vs) st0.env
  obtain ⟨f2, h2⟩ := forget_append fg (forget (slotsV vs) st0.env)
  obtain ⟨g1, k1⟩ := deads_append (boxesV vs) st0.sto
  obtain ⟨g2, k2⟩ := deads_append (gone st0 vs) (deads (boxesV vs) st0.sto)
  exact ⟨⟨f2 ++ f1, by rw [List.append_assoc, ← h1]; exact h2⟩, ⟨g2 ++ g1, by rw [List.append_assoc, ← k1]; exact k2⟩, Nat.le_refl _, rfl⟩

theorem mem_slotsV {vs : List LV} {t : Nat} (h : vs.any (LV.slotB t) = true) : t ∈ slotsV vs := by
  induction vs with
  | nil => simp at h
  | cons l r ih =>
    simp only [List.any_cons, Bool.or_eq_true] at h
    cases l with
    | slot t' k =>
      simp only [slotsV, List.mem_cons]
      rcases h with h | h
      · exact .inl (Nat.eq_of_beq_eq_true h)
      · exact .inr (ih h)
    | box i k =>
      simp only [slotsV]
      rcases h with h | h
      · simp [LV.slotB] at h
      · exact ih h
    | row i k e =>
      simp only [slotsV]
      rcases h with h | h
      · simp [LV.slotB] at h
      · exact ih h

theorem mem_boxesV {vs : List LV} {i : Nat} (h : vs.any (LV.boxB i) = true) : i ∈ boxesV vs := by
  induction vs with
  | nil => simp at h
  | cons l r ih =>
    simp only [List.any_cons, Bool.or_eq_true] at h
    cases l with
    | box i' k =>
      simp only [boxesV, List.mem_cons]
      rcases h with h | h
      · exact .inl (Nat.eq_of_beq_eq_true h)
      · exact .inr (ih h)
    | row i' k e =>
      simp only [boxesV, List.mem_cons]
      rcases h with h | h
      · exact .inl (Nat.eq_of_beq_eq_true h)
      · exact .inr (ih h)
    | slot t k =>
      simp only [boxesV]
      rcases h with h | h
      · simp [LV.boxB] at h
      · exact ih h

/-- A state names entries below its own count. -/
def WF (n : Nat) (gs : List (AVal × Value)) (st : St) : Prop := (∀ t, wfA (· < st.nxt) (getE st.env t)) ∧ (∀ i cs, getS st.sto i = .box cs → wfAs (· < st.nxt) cs) ∧ (∀ i, getS st.sto i ≠ .dead → i < st.nxt) ∧ n ≤ st.nxt ∧ ∀ p ∈ gs, wfA (· < st.nxt) p.1

theorem Inv.pins {w0 w : World} {L : List Nat} {R0 : Nat → Prop} {S : Upd} {C : Col} {R Al : Nat → Prop} {H : Nat → Value} (h : Inv w0 L R0 S w C R Al H) {n : Nat} (hn : ∀ i, Al i → i < n) : L.length ≤ n := by
  cases hl : L.length with
  | zero => omega
  | succ m =>
    have := hn m (h.pin m L[m] (List.getElem?_eq_getElem (by omega))).1
    omega

theorem SOK.wf {w0 w : World} {L : List Nat} {R0 : Nat → Prop} {gs : List (AVal × Value)} {st : St} {a : Act} (h : SOK w0 L R0 gs st a w) : WF L.length gs st := by
  obtain ⟨C, R, Al, H, hi, he, hn, _, _, hgs⟩ := h
  refine ⟨fun t => AV.wf hn _ _ (he t), fun i cs hb => ?_, fun i hd => hn i (hi.al i hd), hi.pins hn, fun p hp => AV.wf hn _ _ (hgs p hp)⟩
  obtain ⟨_, b, cells, T, _, _, _, q4⟩ := box_ok hi.ctx hb
  exact AVs.wf hn _ _ q4

/-- Whoever is told as owned is a row. -/
def IsRow (S : Upd) (j : Nat) : Prop := ∃ t, ∃ (e : Kd) (xs : List e.ty), getS S j = .row t e xs

theorem takeSl_row {S : Upd} {o : Option Nat} {e : Kd} {v : AVal} {xs : List e.ty} {is : List (Option Nat)} (h : takeSl S o e v = some (xs, is)) : ∀ j, some j ∈ is → IsRow S j := by
  intro j hj
  unfold takeSl at h
  split at h
  · split at h
    · simp only [Option.some.injEq, Prod.mk.injEq] at h; rw [← h.2] at hj; cases hj
    · simp only [Option.some.injEq, Prod.mk.injEq] at h; rw [← h.2] at hj; cases hj
    · split at h
      · simp only [Option.some.injEq, Prod.mk.injEq] at h; rw [← h.2] at hj; cases hj
      · cases h
    · split at h
      · split at h
        · simp only [Option.some.injEq, Prod.mk.injEq] at h; rw [← h.2] at hj; cases hj
        · cases h
      · cases h
    · cases h
  · split at h
    · simp only [Option.some.injEq, Prod.mk.injEq] at h; rw [← h.2] at hj; simp at hj
    · split at h
      · rename_i i _ t' e' ys hr
        cases ht : Nat.beq t' _
        · rw [ht] at h; cases h
        · rw [ht] at h
          simp only [cond_true] at h
          split at h
          · simp only [Option.some.injEq, Prod.mk.injEq] at h
            rw [← h.2] at hj
            simp only [List.mem_singleton, Option.some.injEq] at hj
            rw [hj]
            exact ⟨_, _, _, hr⟩
          · cases h
      · cases h
    · cases h

theorem takeCells_row {S : Upd} : ∀ (k : Kd) (cs : List AVal) (x : k.ty) (rest : List AVal) (is : List (Option Nat)), takeCells S k cs = some (x, rest, is) → ∀ j, some j ∈ is → IsRow S j := by
  intro k
  induction k with
  | int k =>
    intro cs x rest is h j hj
    cases cs with
    | nil => simp [takeCells] at h
    | cons c cs =>
      cases c <;> simp only [takeCells] at h <;> first | (cases h; done) | skip
      split at h
      · simp only [Option.some.injEq, Prod.mk.injEq] at h; rw [← h.2.2] at hj; cases hj
      · cases h
  | bool =>
    intro cs x rest is h j hj
    cases cs with
    | nil => simp [takeCells] at h
    | cons c cs =>
      cases c <;> simp only [takeCells] at h <;> first | (cases h; done) | skip
      simp only [Option.some.injEq, Prod.mk.injEq] at h; rw [← h.2.2] at hj; cases hj
  | str =>
    intro cs x rest is h j hj
    cases cs with
    | nil => simp [takeCells] at h
    | cons c cs =>
      cases c <;> simp only [takeCells] at h <;> first | (cases h; done) | skip
      simp only [Option.some.injEq, Prod.mk.injEq] at h; rw [← h.2.2] at hj; cases hj
  | one a ih => intro cs x rest is h; exact ih cs x rest is h
  | pair a b iha ihb =>
    intro cs x rest is h j hj
    simp only [takeCells] at h
    split at h
    · rename_i x1 r1 i1 h1
      split at h
      · rename_i y r2 i2 h2
        simp only [Option.some.injEq, Prod.mk.injEq] at h
        rw [← h.2.2] at hj
        rcases List.mem_append.1 hj with hj | hj
        · exact iha _ _ _ _ h1 j hj
        · exact ihb _ _ _ _ h2 j hj
      · cases h
    · cases h
  | sl o e ih =>
    intro cs x rest is h j hj
    cases cs with
    | nil => simp [takeCells] at h
    | cons c cs =>
      simp only [takeCells] at h
      split at h
      · rename_i ys js hy
        simp only [Option.some.injEq, Prod.mk.injEq] at h
        rw [← h.2.2] at hj
        exact takeSl_row hy j hj
      · cases h

theorem outV_row {st : St} {l : LV} {x : l.kd.ty} {ids : List (Option Nat)} (h : outV st l = some (x, ids)) : (∀ j, some j ∈ ids → IsRow st.sto j) ∧ (∀ i k, l = .box i k → ∃ cs, getS st.sto i = .box cs) ∧ ∀ i t e, l = .row i t e → IsRow st.sto i := by
  cases l with
  | slot t k => exact ⟨takeCells_row _ _ _ _ _ (takeV_some h).1, fun i k hl => (by cases hl), fun i t e hl => (by cases hl)⟩
  | box i k =>
    simp only [outV] at h
    split at h
    · rename_i cs hcs
      split at h
      · rename_i y is htk
        have h := Option.some.inj h
        have h2 := congrArg Prod.snd h
        simp only at h2
        rw [← h2]
        exact ⟨takeCells_row _ _ _ _ _ htk, fun i' k' hl => (by cases hl; exact ⟨cs, hcs⟩), fun i t e hl => (by cases hl)⟩
      · cases h
    · cases h
  | row i t e =>
    simp only [outV] at h
    split at h
    · rename_i t' e' xs' hr
      cases hb : Nat.beq t' t
      · rw [hb] at h; cases h
      · rw [hb] at h
        simp only [cond_true] at h
        split at h
        · obtain ⟨_, rfl⟩ := Prod.mk.inj (Option.some.inj h)
          exact ⟨fun j hj => (by cases hj), fun i k hl => (by cases hl), fun i' t2 e2 hl => (by cases hl; exact ⟨_, _, _, hr⟩)⟩
        · cases h
    · cases h

theorem outs_row {st : St} : ∀ (vs : List LV) (x : Tup (vs.map LV.kd)) (ids : List (Option Nat)), outs st vs = some (x, ids) → (∀ j, some j ∈ ids → IsRow st.sto j) ∧ (∀ i k, .box i k ∈ vs → ∃ cs, getS st.sto i = .box cs) ∧ ∀ i t e, .row i t e ∈ vs → IsRow st.sto i
  | [], x, ids, h => by
    simp only [outs, Option.some.injEq, Prod.mk.injEq] at h
    rw [← h.2]
    exact ⟨fun j hj => by (cases hj), fun i k hl => by (cases hl), fun i t e hl => by (cases hl)⟩
  | [l], x, ids, h => by
    obtain ⟨h1, h2, h3⟩ := outV_row (l := l) h
    exact ⟨h1, fun i k hl => h2 i k (List.mem_singleton.1 hl).symm, fun i t e hl => h3 i t e (List.mem_singleton.1 hl).symm⟩
  | l :: l' :: r, x, ids, h => by
    simp only [outs] at h
    split at h
    · rename_i y is h1
      split at h
      · rename_i z js h2
        simp only [Option.some.injEq, Prod.mk.injEq] at h
        rw [← h.2]
        obtain ⟨a1, a2, a3⟩ := outV_row (l := l) h1
        obtain ⟨b1, b2, b3⟩ := outs_row (l' :: r) z js h2
        refine ⟨fun j hj => ?_, fun i k hl => ?_, fun i t e hl => ?_⟩
        · rcases List.mem_append.1 hj with hj | hj
          · exact a1 j hj
          · exact b1 j hj
        · rcases List.mem_cons.1 hl with hl | hl
          · exact a2 i k hl.symm
          · exact b2 i k hl
        · rcases List.mem_cons.1 hl with hl | hl
          · exact a3 i t e hl.symm
          · exact b3 i t e hl
      · cases h
    · cases h

theorem take_sub {α : Type} {e r : List α} : (e ++ r).take ((e ++ r).length - r.length) = e := by
  rw [List.length_append, Nat.add_sub_cancel, List.take_left]

theorem back_ok {w0 w : World} {L : List Nat} {R0 : Nat → Prop} {gs : List (AVal × Value)} {st0 st : St} {a : Act} (hwf : WF L.length gs st0) (h : SOK w0 L R0 gs st a w) (hcame : Came st0 st) {fg : List Nat} {vs : List LV} {x : Tup (vs.map LV.kd)} {ids : List (Option Nat)}
    (ho : outs st vs = some (x, ids)) (hb : okBack fg vs st0 st ids = true) : SOK w0 L R0 gs (back fg vs st0 x) a w := by
  obtain ⟨C, R, Al, H, hi, he, hn, hsz, hdf, hgs⟩ := h
  obtain ⟨⟨e, hee⟩, ⟨u, huu⟩, hnx, hss⟩ := hcame
  unfold okBack at hb
  simp only [Bool.and_eq_true] at hb
  obtain ⟨⟨⟨⟨b1, b2⟩, b3⟩, b4⟩, b5⟩ := hb
  rw [hee, take_sub] at b1
  rw [huu, take_sub] at b2
  simp only [List.all_eq_true, Bool.or_eq_true] at b1 b2 b3 b4
  have honce : (ids.filterMap id).Nodup := of_decide_eq_true b5
  -- the new owners, paths and heads
  let N := st0.nxt
  let C1 : Col := fun b => match C b with
    | some (j, p) => match ids.idxOf? (some j) with
      | some q => some (N + q, p)
      | none => if j < N then some (j, p) else none
    | none => none
  let Al1 : Nat → Prop := fun i => (i < N ∧ Al i) ∨ (N ≤ i ∧ i < N + ids.length)
  let H1 : Nat → Value := fun i => if i < N then H i else match ids[i - N]? with
    | some (some j) => H j
    | _ => .slice none 0 0
  have idx : ∀ q j, ids[q]? = some (some j) → ids.idxOf? (some j) = some q := by
    have gen : ∀ (l : List (Option Nat)), (l.filterMap id).Nodup → ∀ q j, l[q]? = some (some j) → l.idxOf? (some j) = some q := by
      intro l
      induction l with
      | nil => intro _ q j h; simp at h
      | cons o r ih =>
        intro hnd q j h
        cases q with
        | zero =>
          simp only [List.getElem?_cons_zero, Option.some.injEq] at h
          subst h
          simp [List.idxOf?_cons]
        | succ q =>
          simp only [List.getElem?_cons_succ] at h
          have hmem : j ∈ r.filterMap id := List.mem_filterMap.2 ⟨some j, List.mem_of_getElem? h, rfl⟩
          have hne : o ≠ some j := by
            intro ho
            subst ho
            simp only [List.filterMap_cons, id, List.nodup_cons] at hnd
            exact hnd.1 hmem
          have hnd' : (r.filterMap id).Nodup := by
            cases o with
            | none => simpa using hnd
            | some o => simp only [List.filterMap_cons, id, List.nodup_cons] at hnd; exact hnd.2
          rw [List.idxOf?_cons, if_neg (by simpa using hne), ih hnd' q j h]
          rfl
    exact gen ids honce
  have idx' : ∀ j q, ids.idxOf? (some j) = some q → ids[q]? = some (some j) := by
    have gen : ∀ (l : List (Option Nat)) j q, l.idxOf? (some j) = some q → l[q]? = some (some j) := by
      intro l
      induction l with
      | nil => intro j q h; simp at h
      | cons o r ih =>
        intro j q h
        rw [List.idxOf?_cons] at h
        by_cases ho : o = some j
        · rw [if_pos (by simpa using ho)] at h
          simp only [Option.some.injEq] at h
          subst h ho
          rfl
        · rw [if_neg (by simpa using ho)] at h
          cases hr : r.idxOf? (some j) with
          | none => rw [hr] at h; simp at h
          | some q' =>
            rw [hr] at h
            simp only [Option.map_some, Option.some.injEq] at h
            subst h
            simpa using ih j q' hr
    exact gen ids
  have hmv : Moves C C1 H H1 ids N := by
    intro q o hq
    have hlt := (List.getElem?_eq_some_iff.1 hq).1
    cases o with
    | none =>
      simp only [H1]
      rw [if_neg (by omega), show N + q - N = q from by omega, hq]
    | some j =>
      refine ⟨fun b p hb => ?_, ?_⟩
      · simp only [C1, hb, idx q j hq]
      · simp only [H1]
        rw [if_neg (by omega), show N + q - N = q from by omega, hq]
  have hR : ∀ b, R b → R b ∧ w.heap[b]? = w.heap[b]? := fun b hb => ⟨hb, rfl⟩
  have hA : ∀ i, i < N → Al i → Al1 i ∧ H1 i = H i := fun i hi hal => ⟨.inl ⟨hi, hal⟩, by simp only [H1]; rw [if_pos hi]⟩
  have hgl : ∀ i, i < N → (∀ j, some j ∈ ids → j = i → i ∈ gone st0 vs) := by
    intro i hi j hj hji
    have := b4 _ hj
    simp only [Bool.or_eq_true] at this
    rcases this with h | h
    · have := Nat.le_of_ble_eq_true h; omega
    · rw [← hji]; simpa using h
  have hgood : Good w C1 R Al1 H1 a ⟨forget fg (forget (slotsV vs) st0.env), deads (gone st0 vs) (deads (boxesV vs) st0.sto), st0.nxt, st0.sz⟩ := by
    refine ⟨fun t => ?_, fun i => ?_, fun i hi' => ?_⟩
    · simp only
      rw [getE_forget, getE_forget]
      by_cases h1 : t ∈ fg
      · rw [if_pos h1]; simp [AV]
      · rw [if_neg h1]
        by_cases h2 : t ∈ slotsV vs
        · rw [if_pos h2]; simp [AV]
        · rw [if_neg h2]
          have hsame : getE st.env t = getE st0.env t := by
            rw [hee]
            refine getE_append_right (fun p hp hpt => ?_)
            rcases b1 p hp with h | h
            · exact h1 (by rw [← hpt]; simpa using h)
            · exact h2 (by rw [← hpt]; exact mem_slotsV h)
          have := he t
          rw [hsame] at this
          exact AV.mono' hR hA _ _ (hwf.1 t) this
    · simp only
      rw [getS_deads, getS_deads]
      by_cases h1 : i ∈ gone st0 vs
      · rw [if_pos h1]; trivial
      · rw [if_neg h1]
        by_cases h2 : i ∈ boxesV vs
        · rw [if_pos h2]; trivial
        · rw [if_neg h2]
          by_cases hdead : getS st0.sto i = .dead
          · rw [hdead]; trivial
          · by_cases hin : i < N
            · have hsame : getS st.sto i = getS st0.sto i := by
                rw [huu]
                refine getS_append_right (fun p hp hpi => ?_)
                rcases b2 p hp with (h | h) | h
                · have := Nat.le_of_ble_eq_true h; rw [hpi] at this; omega
                · exact h2 (by rw [← hpi]; exact mem_boxesV h)
                · exact h1 (by rw [← hpi]; simpa using h)
              have hent := hi.ent i
              rw [hsame] at hent
              have hali : Al i := hi.al i (by rw [hsame]; exact hdead)
              have hCi : ∀ b p, C b = some (i, p) → C1 b = some (i, p) := by
                intro b p hb
                simp only [C1, hb]
                cases hq : ids.idxOf? (some i) with
                | none => simp only; rw [if_pos hin]
                | some q => exact absurd (hgl i hin i (List.mem_of_getElem? (idx' i q hq)) rfl) h1
              have hHi : H1 i = H i := (hA i hin hali).2
              cases hent0 : getS st0.sto i with
              | dead => trivial
              | box cs =>
                rw [hent0] at hent
                obtain ⟨b, cells, T, q1, q2, q3, q4⟩ := hent
                exact ⟨b, cells, T, by rw [hHi]; exact q1, hCi _ _ q2, q3, AVs.mono' hR hA _ _ (hwf.2.1 i cs hent0) q4⟩
              | row t e xs =>
                rw [hent0] at hent
                simp only [EntOK] at hent ⊢
                rw [hHi]
                exact Rp.mono [] hR (fun b p hb => ⟨by simpa using hCi b p hb, rfl⟩) _ _ [] _ hent
              | fro e xs =>
                rw [hent0] at hent
                simp only [EntOK] at hent ⊢
                rw [hHi]
                exact hent
            · exact absurd (hwf.2.2.1 i hdead) hin
    · simp only at hi'
      rw [getS_deads, getS_deads] at hi'
      by_cases h1 : i ∈ gone st0 vs
      · rw [if_pos h1] at hi'; exact absurd rfl hi'
      · rw [if_neg h1] at hi'
        by_cases h2 : i ∈ boxesV vs
        · rw [if_pos h2] at hi'; exact absurd rfl hi'
        · rw [if_neg h2] at hi'
          have hin : i < N := hwf.2.2.1 i hi'
          have hsame : getS st.sto i = getS st0.sto i := by
            rw [huu]
            refine getS_append_right (fun p hp hpi => ?_)
            rcases b2 p hp with (h | h) | h
            · have := Nat.le_of_ble_eq_true h; rw [hpi] at this; omega
            · exact h2 (by rw [← hpi]; exact mem_boxesV h)
            · exact h1 (by rw [← hpi]; simpa using h)
          exact .inl ⟨hin, hi.al i (by rw [hsame]; exact hi')⟩
  obtain ⟨g1, g2, g3, g4⟩ := ins_ok (Al1 := Al1) hi.ctx he vs x ids ho ⟨forget fg (forget (slotsV vs) st0.env), deads (gone st0 vs) (deads (boxesV vs) st0.sto), st0.nxt, st0.sz⟩ hmv (fun q hq => Or.inr ⟨by simp only [N]; omega, by simp only [N]; omega⟩) (fun i k hl => by
    have hlt : i < N := by
      have := b3 _ hl
      simpa [Nat.blt_eq] using this
    obtain ⟨cs, hcs⟩ := (outs_row vs x ids ho).2.1 i k hl
    have hali : Al i := hi.al i (by rw [hcs]; simp)
    refine ⟨.inl ⟨hlt, hali⟩, (hA i hlt hali).2, hlt, fun b p hb => ?_⟩
    simp only [C1, hb]
    cases hq : ids.idxOf? (some i) with
    | none => simp only; rw [if_pos hlt]
    | some q =>
      obtain ⟨t, e, xs, hr⟩ := (outs_row vs x ids ho).1 i (List.mem_of_getElem? (idx' i q hq))
      rw [hcs] at hr
      cases hr) (fun i t e hl => by
    have hb3 := b3 _ hl
    simp only [Bool.and_eq_true, Bool.not_eq_true'] at hb3
    have hlt : i < N := by simpa [Nat.blt_eq] using hb3.1
    obtain ⟨t', e', xs', hrow⟩ := (outs_row vs x ids ho).2.2 i t e hl
    have hali : Al i := hi.al i (by rw [hrow]; simp)
    refine ⟨.inl ⟨hlt, hali⟩, (hA i hlt hali).2, fun b p hb => ?_⟩
    simp only [C1, hb]
    cases hq : ids.idxOf? (some i) with
    | none => simp only; rw [if_pos hlt]
    | some q =>
      have hmem : some i ∈ ids := List.mem_of_getElem? (idx' i q hq)
      have := hb3.2
      simp only [List.contains_eq_mem, decide_eq_false_iff_not] at this
      exact absurd hmem this) hgood
  refine ⟨C1, R, Al1, H1, ⟨hi.os, hi.tape, hi.output, hi.size, hi.frame, ?_, ?_, hi.rd0, g1.ent, g1.al, ?_, fun q b hq => ?_⟩, g1.env, ?_, ?_, hdf, fun p hp => AV.mono' hR hA _ _ (hwf.2.2.2.2 p hp) (hgs p hp)⟩
  · intro b i p hb
    simp only [C1] at hb
    cases hc : C b with
    | none => rw [hc] at hb; cases hb
    | some jp =>
      obtain ⟨j, p'⟩ := jp
      rw [hc] at hb
      simp only at hb
      have hcol := hi.col b j p' hc
      cases hq : ids.idxOf? (some j) with
      | some q =>
        rw [hq] at hb
        simp only [Option.some.injEq, Prod.mk.injEq] at hb
        have hlt := (List.getElem?_eq_some_iff.1 (idx' j q hq)).1
        exact ⟨.inr ⟨by omega, by omega⟩, hcol.2⟩
      | none =>
        rw [hq] at hb
        simp only at hb
        by_cases hj : j < N
        · rw [if_pos hj] at hb
          simp only [Option.some.injEq, Prod.mk.injEq] at hb
          rw [← hb.1]
          exact ⟨.inl ⟨hj, hcol.1⟩, hcol.2⟩
        · rw [if_neg hj] at hb; cases hb
  · intro b hb
    have := hi.rd b hb
    refine ⟨this.1, ?_, this.2.2⟩
    simp only [C1, this.2.1]
  · intro i hal
    rcases hal with ⟨h1, h2⟩ | ⟨h1, h2⟩
    · simp only [H1]; rw [if_pos h1]; exact hi.one i h2
    · simp only [H1]
      rw [if_neg (by omega)]
      cases hq : ids[i - N]? with
      | none => rfl
      | some o =>
        cases o with
        | none => rfl
        | some j =>
          simp only
          obtain ⟨t, e, xs, hr⟩ := (outs_row vs x ids ho).1 j (List.mem_of_getElem? hq)
          exact hi.one j (hi.al j (by rw [hr]; simp))
  · have hqN : q < N := Nat.lt_of_lt_of_le (List.getElem?_eq_some_iff.1 hq).1 hwf.2.2.2.1
    obtain ⟨p1, p2⟩ := hi.pin q b hq
    obtain ⟨p3, p4⟩ := hA q hqN p1
    exact ⟨p3, p4.trans p2⟩
  · intro i hal
    show i < (ins _ vs x).nxt
    rw [g2]
    simp only
    rcases hal with ⟨h1, _⟩ | ⟨_, h2⟩
    · simp only [N] at h1; omega
    · simp only [N] at h2; omega
  · show a.tmps.size = (ins _ vs x).sz
    rw [g3]
    exact hsz.trans hss
end Go.Rv
namespace Go.Rv
section
variable {w : World} {S : Upd} {C : Col} {R Al : Nat → Prop} {H : Nat → Value}

/-- What a value of a kind looks like. -/
def Shaped (k : Kd) (v : Value) : Prop := match k.agg with
  | true => ∃ cs, v = .agg cs
  | false => v.oneCell' = true

def ArgOK (w : World) (R : Nat → Prop) : (p : PK) → p.kd.ty → Value → List Nat → Prop
  | .val k, x, v, bs => bs = [] ∧ k.ro = true ∧ Shaped k v ∧ Rp w noC R 0 k x [] v.cells.toList
  | .box k, x, v, bs => k.ro = true ∧ ∃ b cells T, bs = [b] ∧ v = .pointer (some ⟨b, 0, none⟩) ∧ w.heap[b]? = some (.cells cells T (0, 0)) ∧ Rp w noC R 0 k x [] cells.toList

def ArgsOK (w : World) (R : Nat → Prop) : (ps : List PK) → Tup (ps.map PK.kd) → List Value → List Nat → Prop
  | [], _, vs, bs => vs = [] ∧ bs = []
  | [p], x, vs, bs => ∃ v, vs = [v] ∧ ArgOK w R p x v bs
  | p :: p' :: ps, x, vs, bs => ∃ v vs' b1 b2, vs = v :: vs' ∧ bs = b1 ++ b2 ∧ ArgOK w R p x.1 v b1 ∧ ArgsOK w R (p' :: ps) x.2 vs' b2

/-- What a call leaves, whatever numbers its caller gives. -/
structure ResAt (w w' : World) (R : Nat → Prop) (bs : List Nat) (F : FSpec) (r : Tup (F.rs ++ boxes F.ps)) (v : Value) (nx : Nat) (is : List Nat) (C : Col) (H : Nat → Value) (R' : Nat → Prop) : Prop where
  nxt : nx ≤ (results F.rs (boxes F.ps) is r nx).2.2
  col : ∀ b i p, C b = some (i, p) → (nx ≤ i ∧ i < (results F.rs (boxes F.ps) is r nx).2.2 ∧ w.heap.size ≤ b ∧ b < w'.heap.size) ∨ ∃ q : Nat, is[q]? = some i ∧ bs[q]? = some b ∧ p = []
  box : ∀ (q i b : Nat), is[q]? = some i → bs[q]? = some b → C b = some (i, []) ∧ H i = .pointer (some ⟨b, 0, none⟩)
  rd : ∀ b, R' b → ((shareF F = true ∧ R b) ∨ (w.heap.size ≤ b ∧ b < w'.heap.size)) ∧ C b = none
  ent : ∀ i, (nx ≤ i ∧ i < (results F.rs (boxes F.ps) is r nx).2.2) ∨ i ∈ is → EntOK w' C R' (fun i => (nx ≤ i ∧ i < (results F.rs (boxes F.ps) is r nx).2.2) ∨ i ∈ is) H i (getS (results F.rs (boxes F.ps) is r nx).2.1 i)
  keys : ∀ p ∈ (results F.rs (boxes F.ps) is r nx).2.1, (nx ≤ p.1 ∧ p.1 < (results F.rs (boxes F.ps) is r nx).2.2) ∨ p.1 ∈ is
  full : ∀ i, (nx ≤ i ∧ i < (results F.rs (boxes F.ps) is r nx).2.2) ∨ i ∈ is → ∃ p ∈ (results F.rs (boxes F.ps) is r nx).2.1, p.1 = i
  one : ∀ i, nx ≤ i → i < (results F.rs (boxes F.ps) is r nx).2.2 → (H i).oneCell' = true
  val : AV w' R' (fun i => (nx ≤ i ∧ i < (results F.rs (boxes F.ps) is r nx).2.2) ∨ i ∈ is) H (packV (results F.rs (boxes F.ps) is r nx).1) v

def ResOK (w w' : World) (R : Nat → Prop) (bs : List Nat) (F : FSpec) (r : Tup (F.rs ++ boxes F.ps)) (v : Value) : Prop :=
  w'.os = w.os ∧ w'.tape = w.tape ∧ w'.output = w.output ∧ w.heap.size ≤ w'.heap.size ∧ (∀ b, b < w.heap.size → b ∉ bs → w'.heap[b]? = w.heap[b]?) ∧
  ∀ (nx : Nat) (is : List Nat), is.length = bs.length → is.Nodup → (∀ i ∈ is, i < nx) → ∃ C H R', ResAt w w' R bs F r v nx is C H R'

/-- THE CONTRACT: what the Go function number f does is what F.run says. -/
def Sound (P : Program) (f : Nat) (F : FSpec) : Prop :=
  ∀ (w : World) (R : Nat → Prop) (vs : List Value) (x : Tup (F.ps.map PK.kd)) (bs : List Nat), ArgsOK w R F.ps x vs bs → (∀ b, R b → b < w.heap.size ∧ b ∉ bs) → bs.Nodup → (∀ b ∈ bs, b < w.heap.size) →
    ∀ r, F.run x = some r → Calls P f vs.toArray w fun e w' => ∃ v, e = .returned v ∧ ResOK w w' R bs F r v

/-- What a call may read of ours. -/
def Rows (S : Upd) (C : Col) (R : Nat → Prop) (b : Nat) : Prop := R b ∨ ∃ i, C b = some (i, []) ∧ IsRow S i

theorem readSl_rp (hx : Ctx w C R Al H S) {e : Kd} (hro : e.ro = true) {v : AVal} {cv : Value} (ha : AV w R Al H v cv) {xs : List e.ty} (h : readSl S e v = some xs) (p : List Nat) : Rp w noC (Rows S C R) 0 (.sl none e) xs p [cv] := by
  obtain ⟨A, n, c, fl, h1, h2, h3, h4, h5⟩ := readSl_cells hx hro ha h
  have hl : Lst (fun j x c => Rp w noC (Rows S C R) 0 e x (j :: p) c) 0 xs fl := Lst.imp (fun j x c hx => Rp.ro (fun b hb => ⟨.inl hb, rfl⟩) e hro x _ _ c hx) _ _ _ h4
  refine ⟨A, n, c, fl, by rw [h1], h2, h3, hl, ?_⟩
  rcases h5 with ⟨_, h5⟩ | h5 | ⟨a, q1, q2, q3, q4⟩
  · exact .inl h5
  · exact .inl h5
  · refine .inr ⟨a, q1, q2, ?_, q4⟩
    rcases q3 with q3 | ⟨i, t, es, q3, q5⟩
    · exact .inl q3
    · exact .inr ⟨i, q3, t, _, es, q5⟩

theorem ofCells_ok (hx : Ctx w C R Al H S) : ∀ (k : Kd) (_ : k.ro = true) (cs : List AVal) (x : k.ty) (rest : List AVal), ofCells S k cs = some (x, rest) → ∀ (vs : List Value), AVs w R Al H cs vs →
    ∃ c r, vs = c ++ r ∧ (∀ p, Rp w noC (Rows S C R) 0 k x p c) ∧ AVs w R Al H rest r := by
  intro k
  induction k with
  | int k =>
    intro _ cs x rest h vs hv
    cases cs with
    | nil => simp [ofCells] at h
    | cons c cs =>
      simp only [AVs] at hv
      obtain ⟨v, r, h1, h2, h3⟩ := hv
      cases c <;> simp only [ofCells] at h <;> first | (cases h; done) | skip
      split at h
      · rename_i hk
        subst hk
        simp only [Option.some.injEq, Prod.mk.injEq] at h
        obtain ⟨rfl, rfl⟩ := h
        simp only [AV] at h2
        exact ⟨[v], r, h1, fun _ => by rw [h2]; rfl, h3⟩
      · cases h
  | bool =>
    intro _ cs x rest h vs hv
    cases cs with
    | nil => simp [ofCells] at h
    | cons c cs =>
      simp only [AVs] at hv
      obtain ⟨v, r, h1, h2, h3⟩ := hv
      cases c <;> simp only [ofCells] at h <;> first | (cases h; done) | skip
      simp only [Option.some.injEq, Prod.mk.injEq] at h
      obtain ⟨rfl, rfl⟩ := h
      simp only [AV] at h2
      exact ⟨[v], r, h1, fun _ => by rw [h2]; rfl, h3⟩
  | str =>
    intro _ cs x rest h vs hv
    cases cs with
    | nil => simp [ofCells] at h
    | cons c cs =>
      simp only [AVs] at hv
      obtain ⟨v, r, h1, h2, h3⟩ := hv
      cases c <;> simp only [ofCells] at h <;> first | (cases h; done) | skip
      simp only [Option.some.injEq, Prod.mk.injEq] at h
      obtain ⟨rfl, rfl⟩ := h
      simp only [AV] at h2
      exact ⟨[v], r, h1, fun _ => by rw [h2]; rfl, h3⟩
  | one a ih => intro hr cs x rest h vs hv; exact ih hr cs x rest h vs hv
  | pair a b iha ihb =>
    intro hr cs x rest h vs hv
    have hr' : a.ro = true ∧ b.ro = true := by
      simp only [Kd.ro] at hr
      cases ha : a.ro <;> simp_all
    simp only [ofCells] at h
    split at h
    · rename_i x1 r1 h1
      split at h
      · rename_i y r2 h2
        simp only [Option.some.injEq, Prod.mk.injEq] at h
        obtain ⟨rfl, rfl⟩ := h
        obtain ⟨c1, q1, e1, f1, g1⟩ := iha hr'.1 _ _ _ h1 vs hv
        obtain ⟨c2, q2, e2, f2, g2⟩ := ihb hr'.2 _ _ _ h2 _ g1
        refine ⟨c1 ++ c2, q2, by rw [e1, e2, List.append_assoc], fun p => ⟨c1, c2, rfl, f1 _, f2 _⟩, g2⟩
      · cases h
    · cases h
  | sl o e ih =>
    intro hr cs x rest h vs hv
    cases o with
    | some t => simp [Kd.ro] at hr
    | none =>
      cases cs with
      | nil => simp [ofCells] at h
      | cons c cs =>
        simp only [AVs] at hv
        obtain ⟨v, r, h1, h2, h3⟩ := hv
        simp only [ofCells] at h
        split at h
        · rename_i ys hy
          simp only [Option.some.injEq, Prod.mk.injEq] at h
          obtain ⟨rfl, rfl⟩ := h
          exact ⟨[v], r, h1, fun p => readSl_rp (e := e) hx (show e.ro = true from hr) h2 hy p, h3⟩
        · cases h

theorem shaped_of {k : Kd} {v : AVal} {c : Value} (hx : Ctx w C R Al H S) (hv : AV w R Al H v c) (hag : k.agg = aggV v) (hso : solid v = true) : Shaped k c := by
  unfold Shaped
  cases hk : k.agg
  · simp only
    rw [hk] at hag
    have hone : one1 v = true := by cases v <;> first | rfl | (simp [solid] at hso; done) | (simp [aggV] at hag; done)
    exact (one1_ok hv hone hx.one).1
  · simp only
    rw [hk] at hag
    cases v <;> simp [aggV] at hag
    simp only [AV] at hv
    obtain ⟨vs, rfl, _⟩ := hv
    exact ⟨vs, rfl⟩

/-- The reading of one argument. -/
theorem arg_ok (hx : Ctx w C R Al H S) {any : Bool} {p : PK} {v : AVal} {c : Value} (hv : AV w R Al H v c) {x : p.kd.ty} {is : List Nat} (h : arg any S p v = some (x, is)) :
    ∃ bs, ArgOK w (match any with | true => Rows S C R | false => R) p x c bs ∧ is.length = bs.length ∧ ∀ (q i b : Nat), is[q]? = some i → bs[q]? = some b → H i = .pointer (some ⟨b, 0, none⟩) ∧ C b = some (i, []) ∧ Al i ∧ ∃ cs, getS S i = .box cs := by
  cases p with
  | val k =>
    simp only [arg] at h
    split at h
    · rename_i hro
      split at h
      · split at h
        · rename_i y hy
          obtain ⟨rfl, rfl⟩ := Prod.mk.inj (Option.some.inj h)
          unfold datum at hy
          split at hy
          · rename_i z hz
            cases hb : (k.agg == aggV v && solid v)
            · rw [hb] at hy; cases hy
            · rw [hb] at hy
              simp only [cond_true, Option.some.injEq] at hy
              subst hy
              simp only [Bool.and_eq_true, beq_iff_eq] at hb
              obtain ⟨cc, r, e1, e2, e3⟩ := ofCells_ok hx k hro _ _ _ hz _ (solid_cells hv hb.2 (fun i hi => one_cells (hx.one i hi)))
              simp only [AVs] at e3
              subst e3
              rw [List.append_nil] at e1
              refine ⟨[], ⟨rfl, hro, shaped_of hx hv hb.1 hb.2, by rw [e1]; exact e2 []⟩, rfl, fun q i b hq => by (simp at hq)⟩
          · cases hy
        · cases h
      · split at h
        · rename_i y js hy
          obtain ⟨rfl, rfl⟩ := Prod.mk.inj (Option.some.inj h)
          obtain ⟨h1, h2, h3⟩ := takeV_some hy
          exact ⟨[], ⟨rfl, hro, shaped_of hx hv h2 h3, takeV_ro hx hro hy hv []⟩, rfl, fun q i b hq => by (simp at hq)⟩
        · cases h
    · cases h
  | box k =>
    simp only [arg] at h
    split at h
    · rename_i hro
      split at h
      · rename_i i
        split at h
        · rename_i cs hcs
          split at h
          · rename_i y js hy
            obtain ⟨rfl, rfl⟩ := Prod.mk.inj (Option.some.inj h)
            obtain ⟨hal, b, cells, T, q1, q2, q3, q4⟩ := box_ok hx hcs
            simp only [AV] at hv
            obtain ⟨_, b', e1, e2⟩ := hv
            rw [q1] at e1
            simp only [Value.pointer.injEq, Option.some.injEq, Addr.mk.injEq, and_true] at e1
            subst e1
            obtain ⟨cc, r, f1, f2, f3⟩ := takeCells_ro hx k hro _ _ _ _ hy _ q4
            simp only [AVs] at f3
            subst f3
            rw [List.append_nil] at f1
            refine ⟨[b], ⟨hro, b, cells, T, rfl, e2, q3, ?_⟩, rfl, fun q j b' hq hb => ?_⟩
            · rw [f1]
              cases any
              · exact f2 []
              · exact Rp.ro (fun b hb => ⟨.inl hb, rfl⟩) k hro y _ _ _ (f2 [])
            · cases q with
              | zero =>
                simp only [List.getElem?_cons_zero, Option.some.injEq] at hq hb
                subst hq hb
                exact ⟨q1, q2, hal, cs, hcs⟩
              | succ q => simp at hq
          · cases h
        · cases h
      · cases h
    · cases h

theorem args_ok (hx : Ctx w C R Al H S) {any : Bool} : ∀ (ps : List PK) (vs : List AVal) (cs : List Value) (x : Tup (ps.map PK.kd)) (is : List Nat), AVs w R Al H vs cs → args any S ps vs = some (x, is) →
    ∃ bs, ArgsOK w (match any with | true => Rows S C R | false => R) ps x cs bs ∧ is.length = bs.length ∧ ∀ (q i b : Nat), is[q]? = some i → bs[q]? = some b → H i = .pointer (some ⟨b, 0, none⟩) ∧ C b = some (i, []) ∧ Al i ∧ ∃ cs, getS S i = .box cs
  | [], vs, cs, x, is, hv, h => by
    cases vs with
    | nil =>
      simp only [args, Option.some.injEq, Prod.mk.injEq] at h
      obtain ⟨_, rfl⟩ := h
      simp only [AVs] at hv
      exact ⟨[], ⟨hv, rfl⟩, rfl, fun q i b hq => by (simp at hq)⟩
    | cons v vs => simp [args] at h
  | [p], vs, cs, x, is, hv, h => by
    cases vs with
    | nil => simp [args] at h
    | cons v vs =>
      cases vs with
      | cons v' vs => simp [args] at h
      | nil =>
        simp only [AVs] at hv
        obtain ⟨c, r, e1, e2, e3⟩ := hv
        subst e3
        obtain ⟨bs, h1, h2, h3⟩ := arg_ok (p := p) hx e2 h
        exact ⟨bs, ⟨c, e1, h1⟩, h2, h3⟩
  | p :: p' :: ps, vs, cs, x, is, hv, h => by
    cases vs with
    | nil => simp [args] at h
    | cons v vs =>
      simp only [AVs] at hv
      obtain ⟨c, r, e1, e2, e3⟩ := hv
      simp only [args] at h
      split at h
      · rename_i y b h1
        split at h
        · rename_i z b' h2
          simp only [Option.some.injEq, Prod.mk.injEq] at h
          obtain ⟨rfl, rfl⟩ := h
          obtain ⟨bs1, a1, a2, a3⟩ := arg_ok (p := p) hx e2 h1
          obtain ⟨bs2, b1, b2, b3⟩ := args_ok hx (p' :: ps) vs r z b' e3 h2
          refine ⟨bs1 ++ bs2, ⟨c, r, bs1, bs2, e1, rfl, a1, b1⟩, by simp [a2, b2], fun q i b'' hq hb => ?_⟩
          by_cases hql : q < b.length
          · rw [List.getElem?_append_left hql] at hq
            rw [List.getElem?_append_left (by omega)] at hb
            exact a3 q i b'' hq hb
          · rw [List.getElem?_append_right (by omega)] at hq
            rw [List.getElem?_append_right (by omega)] at hb
            rw [a2] at hq
            exact b3 _ i b'' hq hb
        · cases h
      · cases h
end
end Go.Rv
namespace Go.Rv
section
variable {w0 w : World} {L : List Nat} {R0 : Nat → Prop} {S : Upd} {C : Col} {R Al : Nat → Prop} {H : Nat → Value} {P : Program}

/-- As 'Left'; what can be read may grow. -/
def Left2 (w0 : World) (L : List Nat) (R0 : Nat → Prop) (S : Upd) (R Al : Nat → Prop) (H : Nat → Value) (w : World) (n : Nat) (v : AVal) (cv : Value) (w' : World) : Prop :=
  ∃ C' R' Al' H', Inv w0 L R0 S w' C' R' Al' H' ∧ (∀ i, Al' i → i < n) ∧ AV w' R' Al' H' v cv ∧ ∀ y c, AV w R Al H y c → AV w' R' Al' H' y c

theorem Left.two {n : Nat} {v : AVal} {cv : Value} {w' : World} (h : Left w0 L R0 S R Al H w n v cv w') : Left2 w0 L R0 S R Al H w n v cv w' := by
  obtain ⟨C', Al', H', h1, h2, h3, h4⟩ := h
  exact ⟨C', R, Al', H', h1, h2, h3, h4⟩

/-- The world behind a call. -/
theorem Inv.called (hi : Inv w0 L R0 S w C R Al H) {nx : Nat} (hn : ∀ i, Al i → i < nx) {F : FSpec} {r : Tup (F.rs ++ boxes F.ps)} {v : Value} {bs is : List Nat} {w' : World} {Rr : Nat → Prop}
    (hRr : shareF F = true → ∀ b, Rr b → R b)
    (hlen : is.length = bs.length) (hnd : is.Nodup) (hb : ∀ (q i b : Nat), is[q]? = some i → bs[q]? = some b → H i = .pointer (some ⟨b, 0, none⟩) ∧ C b = some (i, []) ∧ Al i ∧ ∃ cs, getS S i = .box cs)
    (hres : ResOK w w' Rr bs F r v) :
    Left2 w0 L R0 ((results F.rs (boxes F.ps) is r nx).2.1 ++ S) R Al H w (results F.rs (boxes F.ps) is r nx).2.2 (packV (results F.rs (boxes F.ps) is r nx).1) v w' := by
  obtain ⟨os, tape, output, size, same, hat⟩ := hres
  have isq : ∀ i ∈ is, ∃ (q b : Nat), is[q]? = some i ∧ bs[q]? = some b := by
    intro i hi
    obtain ⟨q, hq⟩ := List.getElem?_of_mem hi
    have hlt := (List.getElem?_eq_some_iff.1 hq).1
    exact ⟨q, bs[q]'(by omega), hq, List.getElem?_eq_getElem (by omega)⟩
  have bsq : ∀ b ∈ bs, ∃ (q i : Nat), is[q]? = some i ∧ bs[q]? = some b := by
    intro b hb
    obtain ⟨q, hq⟩ := List.getElem?_of_mem hb
    have hlt := (List.getElem?_eq_some_iff.1 hq).1
    exact ⟨q, is[q]'(by omega), List.getElem?_eq_getElem (by omega), hq⟩
  have isal : ∀ i ∈ is, Al i := by
    intro i hi
    obtain ⟨q, b, h1, h2⟩ := isq i hi
    exact (hb q i b h1 h2).2.2.1
  obtain ⟨C1, H1, R1, hr⟩ := hat nx is hlen hnd (fun i hi => hn i (isal i hi))
  obtain ⟨hr1, hr2, hr3, hr4, hr5, hr6, hr7, hr8, hr9⟩ := hr
  generalize results F.rs (boxes F.ps) is r nx = res at hr1 hr2 hr3 hr4 hr5 hr6 hr7 hr8 hr9 ⊢
  obtain ⟨vals, u, m⟩ := res
  dsimp only at hr1 hr2 hr3 hr4 hr5 hr6 hr7 hr8 hr9 ⊢
  let C2 : Col := fun b => match C1 b with
    | some q => some q
    | none => C b
  let H2 : Nat → Value := fun i => if nx ≤ i ∧ i < m then H1 i else H i
  let R2 : Nat → Prop := fun b => R b ∨ (R1 b ∧ w.heap.size ≤ b)
  let Al2 : Nat → Prop := fun i => Al i ∨ (nx ≤ i ∧ i < m)
  have H2is : ∀ i, ((nx ≤ i ∧ i < m) ∨ i ∈ is) → Al2 i ∧ H2 i = H1 i := by
    intro i hi'
    rcases hi' with hi' | hi'
    · exact ⟨.inr hi', by simp only [H2]; rw [if_pos hi']⟩
    · refine ⟨.inl (isal i hi'), ?_⟩
      obtain ⟨q, b, h1, h2⟩ := isq i hi'
      have := hn i (isal i hi')
      simp only [H2]
      rw [if_neg (by omega), (hb q i b h1 h2).1, (hr3 q i b h1 h2).2]
  have H2al : ∀ i, Al i → Al2 i ∧ H2 i = H i := by
    intro i hi'
    have := hn i hi'
    exact ⟨.inl hi', by simp only [H2]; rw [if_neg (by omega)]⟩
  have C1new : ∀ b q, C1 b = some q → C2 b = some q := by intro b q h; simp only [C2, h]
  have C1old : ∀ b, C1 b = none → C2 b = C b := by intro b h; simp only [C2, h]
  have bsal : ∀ b ∈ bs, ∃ i ∈ is, C b = some (i, []) := by
    intro b hb'
    obtain ⟨q, i, h1, h2⟩ := bsq b hb'
    exact ⟨i, List.mem_of_getElem? h1, (hb q i b h1 h2).2.1⟩
  have bsw0 : ∀ b ∈ bs, w0.heap.size ≤ b ∨ b ∈ L := by
    intro b hb'
    obtain ⟨i, _, h2⟩ := bsal b hb'
    exact (hi.col b i [] h2).2.2
  have Rold : ∀ b, R b → R2 b ∧ w'.heap[b]? = w.heap[b]? := by
    intro b h
    refine ⟨.inl h, same b (hi.rd b h).1 fun hb' => ?_⟩
    obtain ⟨i, _, h2⟩ := bsal b hb'
    rw [(hi.rd b h).2.1] at h2
    cases h2
  have Rnew : ∀ b, R1 b → R2 b ∧ w'.heap[b]? = w'.heap[b]? := by
    intro b h
    refine ⟨?_, rfl⟩
    rcases (hr4 b h).1 with ⟨h1, h2⟩ | h1
    · exact .inl (hRr h1 b h2)
    · exact .inr ⟨h, h1.1⟩
  refine ⟨C2, R2, Al2, H2, ⟨os.trans hi.os, tape.trans hi.tape, output.trans hi.output, Nat.le_trans hi.size size, ?_, ?_, ?_, fun b h => .inl (hi.rd0 b h), ?_, ?_, ?_, fun q b hq => ⟨(H2al q (hi.pin q b hq).1).1, by rw [(H2al q (hi.pin q b hq).1).2]; exact (hi.pin q b hq).2⟩⟩, ?_, AV.mono Rnew H2is _ _ hr9, AV.mono Rold H2al⟩
  · intro b hb1 hb2
    rw [same b (Nat.lt_of_lt_of_le hb1 hi.size) fun hb' => ?_]
    · exact hi.frame b hb1 hb2
    · rcases bsw0 b hb' with h | h
      · omega
      · exact hb2 h
  · intro b i p h
    cases hc : C1 b with
    | some q =>
      rw [C1new b q hc] at h
      simp only [Option.some.injEq] at h
      subst h
      rcases hr2 b i p hc with ⟨h1, h2, h3, h4⟩ | ⟨q, h1, h2, h3⟩
      · exact ⟨.inr ⟨h1, h2⟩, h4, .inl (Nat.le_trans hi.size h3)⟩
      · have h5 := (hb q i b h1 h2).2.1
        have h6 := hi.col b i [] h5
        exact ⟨.inl h6.1, Nat.lt_of_lt_of_le h6.2.1 size, h6.2.2⟩
    | none =>
      rw [C1old b hc] at h
      have h6 := hi.col b i p h
      exact ⟨.inl h6.1, Nat.lt_of_lt_of_le h6.2.1 size, h6.2.2⟩
  · intro b h
    have key : (R b → b < w.heap.size ∧ C b = none ∧ C1 b = none) := by
      intro h
      have h1 := hi.rd b h
      refine ⟨h1.1, h1.2.1, ?_⟩
      cases hc : C1 b with
      | none => rfl
      | some q =>
        obtain ⟨i, p⟩ := q
        rcases hr2 b i p hc with ⟨_, _, h3, _⟩ | ⟨q, h4, h2, h3⟩
        · omega
        · have h5 := (hb q i b h4 h2).2.1
          rw [h1.2.1] at h5
          cases h5
    rcases h with h | ⟨h, h'⟩
    · obtain ⟨k1, k2, k3⟩ := key h
      exact ⟨Nat.lt_of_lt_of_le k1 size, by rw [C1old b k3]; exact k2, (hi.rd b h).2.2⟩
    · have h4 := hr4 b h
      have hlt : b < w'.heap.size := by
        rcases h4.1 with ⟨h1, h2⟩ | h1
        · have := (hi.rd b (hRr h1 b h2)).1
          omega
        · exact h1.2
      refine ⟨hlt, ?_, .inl (Nat.le_trans hi.size h')⟩
      rw [C1old b h4.2]
      cases hc : C b with
      | none => rfl
      | some q =>
        obtain ⟨i, p⟩ := q
        have := (hi.col b i p hc).2.1
        omega
  · intro i
    by_cases hin : (nx ≤ i ∧ i < m) ∨ i ∈ is
    · rw [getS_append_left (hr7 i hin)]
      exact EntOK.mono Rnew H2is (H2is i hin).2 (fun b p h => ⟨C1new b _ h, rfl⟩) _ (hr5 i hin)
    · have hne : ∀ p ∈ u, p.1 ≠ i := by
        intro p hp he
        subst he
        exact hin (hr6 p hp)
      rw [getS_append_right hne]
      have hni : ¬ (nx ≤ i ∧ i < m) := fun h => hin (.inl h)
      refine EntOK.mono Rold H2al (by simp only [H2]; rw [if_neg hni]) (fun b p h => ?_) _ (hi.ent i)
      have h6 := hi.col b i p h
      have hnb : b ∉ bs := by
        intro hb'
        obtain ⟨j, hj, h2⟩ := bsal b hb'
        rw [h] at h2
        simp only [Option.some.injEq, Prod.mk.injEq] at h2
        exact hin (.inr (h2.1 ▸ hj))
      refine ⟨?_, same b h6.2.1 hnb⟩
      have : C1 b = none := by
        cases hc : C1 b with
        | none => rfl
        | some q =>
          obtain ⟨j, p'⟩ := q
          rcases hr2 b j p' hc with ⟨_, _, h3, _⟩ | ⟨q, h4, h2, h3⟩
          · omega
          · exact absurd (List.mem_of_getElem? h2) hnb
      rw [C1old b this]
      exact h
  · intro i h
    by_cases hin : (nx ≤ i ∧ i < m) ∨ i ∈ is
    · exact (H2is i hin).1
    · have hne : ∀ p ∈ u, p.1 ≠ i := by
        intro p hp he
        subst he
        exact hin (hr6 p hp)
      rw [getS_append_right hne] at h
      exact .inl (hi.al i h)
  · intro i h
    rcases h with h | h
    · rw [(H2al i h).2]; exact hi.one i h
    · rw [(H2is i (.inl h)).2]; exact hr8 i h.1 h.2
  · intro i h
    rcases h with h | h
    · have := hn i h; omega
    · exact h.2

theorem callA_some {G : Env} {n f : Nat} {vs : List AVal} {α : Type} {k : AVal → Upd → Nat → Option α} {r : α} (h : callA G S n f vs k = some r) :
    ∃ F x is q, G.get f = some F ∧ args (!shareF F) S F.ps vs = some (x, is) ∧ is.Nodup ∧ F.run x = some q ∧ k (packV (results F.rs (boxes F.ps) is q n).1) (results F.rs (boxes F.ps) is q n).2.1 (results F.rs (boxes F.ps) is q n).2.2 = some r := by
  unfold callA at h
  split at h
  · cases h
  · rename_i F hF
    split at h
    · cases h
    · rename_i x is hx
      obtain ⟨h1, h2⟩ := chk_some h
      cases hq : F.run x with
      | none => rw [hq] at h2; cases h2
      | some q =>
        rw [hq] at h2
        exact ⟨F, x, is, q, hF, hx, of_decide_eq_true h1, hq, h2⟩

theorem call_ok (hi : Inv w0 L R0 S w C R Al H) {nx : Nat} (hn : ∀ i, Al i → i < nx) {f : Nat} {F : FSpec} (hF : Sound P f F) {vs : List AVal} {cvs : List Value} (hv : AVs w R Al H vs cvs) {x : Tup (F.ps.map PK.kd)} {is : List Nat}
    (ha : args (!shareF F) S F.ps vs = some (x, is)) (hnd : is.Nodup) {q : Tup (F.rs ++ boxes F.ps)} (hq : F.run x = some q) :
    Calls P f cvs.toArray w fun e w' => ∃ cv, e = .returned cv ∧ Left2 w0 L R0 ((results F.rs (boxes F.ps) is q nx).2.1 ++ S) R Al H w (results F.rs (boxes F.ps) is q nx).2.2 (packV (results F.rs (boxes F.ps) is q nx).1) cv w' ∧
      (is = [] → w'.os = w.os ∧ w'.tape = w.tape ∧ w'.output = w.output ∧ w.heap.size ≤ w'.heap.size ∧ ∀ b, b < w.heap.size → w'.heap[b]? = w.heap[b]?) := by
  obtain ⟨bs, h1, h2, h3⟩ := args_ok hi.ctx F.ps vs cvs x is hv ha
  have hat : ∀ (q : Nat) b, bs[q]? = some b → ∃ i, is[q]? = some i := fun q b hb => by
    have hlt := (List.getElem?_eq_some_iff.1 hb).1
    exact ⟨is[q]'(by omega), List.getElem?_eq_getElem (by omega)⟩
  have hbox : ∀ b ∈ bs, ∃ i, C b = some (i, []) ∧ ∃ cs, getS S i = .box cs := by
    intro b hb
    obtain ⟨q, hq⟩ := List.getElem?_of_mem hb
    obtain ⟨i, hi'⟩ := hat q b hq
    exact ⟨i, (h3 q i b hi' hq).2.1, (h3 q i b hi' hq).2.2.2⟩
  refine (hF w _ cvs x bs h1 ?_ ?_ ?_ q hq).mono ?_
  · have hRb : ∀ b, R b → b < w.heap.size ∧ b ∉ bs := by
      intro b hb
      have := hi.rd b hb
      refine ⟨this.1, fun hm => ?_⟩
      obtain ⟨i, h4, _⟩ := hbox b hm
      rw [this.2.1] at h4
      cases h4
    cases hs : !shareF F
    · exact hRb
    · intro b hb
      rcases hb with hb | ⟨i, hb, t, e, xs, hrow⟩
      · exact hRb b hb
      · refine ⟨(hi.col b i _ hb).2.1, fun hm => ?_⟩
        obtain ⟨j, h4, cs, h5⟩ := hbox b hm
        rw [hb] at h4
        simp only [Option.some.injEq, Prod.mk.injEq, and_true] at h4
        subst h4
        rw [hrow] at h5
        cases h5
  · refine List.pairwise_iff_getElem.2 fun a b ha hb hab he => ?_
    obtain ⟨i, hia⟩ := hat a _ (List.getElem?_eq_getElem ha)
    have hb' : bs[b]? = some bs[a] := by rw [he]; exact List.getElem?_eq_getElem hb
    obtain ⟨j, hjb⟩ := hat b _ hb'
    have c1 := (h3 a i _ hia (List.getElem?_eq_getElem ha)).2.1
    have c2 := (h3 b j _ hjb hb').2.1
    rw [c1] at c2
    simp only [Option.some.injEq, Prod.mk.injEq, and_true] at c2
    subst c2
    obtain ⟨l1, e1⟩ := List.getElem?_eq_some_iff.1 hia
    obtain ⟨l2, e2⟩ := List.getElem?_eq_some_iff.1 hjb
    exact List.pairwise_iff_getElem.1 hnd a b l1 l2 hab (e1.trans e2.symm)
  · intro b hb
    obtain ⟨i, h4, _⟩ := hbox b hb
    exact (hi.col b i _ h4).2.1
  · rintro e w' ⟨v, he, hres⟩
    refine ⟨v, he, hi.called hn (fun hs b hb => ?_) h2 hnd h3 hres, fun his => ?_⟩
    · rw [hs] at hb
      exact hb
    · have hbs : bs = [] := by
        rw [his] at h2
        exact List.eq_nil_of_length_eq_zero h2.symm
      subst hbs
      exact ⟨hres.1, hres.2.1, hres.2.2.1, hres.2.2.2.1, fun b hb => hres.2.2.2.2.1 b hb (by simp)⟩
end
end Go.Rv
