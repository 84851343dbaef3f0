/- Operations that write or make memory are sound. No condition. -/
import Derived.Test.YtekndmbpphncmaaRvB
import Derived.Great.BuildSlice
namespace Go.Rv

theorem EntOK.mono {w w' : World} {C C' : Col} {R R' Al Al' : Nat → Prop} {H H' : Nat → Value} {i : Nat} (hR : ∀ b, R b → R' b ∧ w'.heap[b]? = w.heap[b]?) (hA : ∀ j, Al j → Al' j ∧ H' j = H j) (hi : H' i = H i)
    (hC : ∀ b p, C b = some (i, p) → C' b = some (i, p) ∧ w'.heap[b]? = w.heap[b]?) : ∀ e : Ent, EntOK w C R Al H i e → EntOK w' C' R' Al' H' i e
  | .dead, _ => trivial
  | .box cs, h => by
    obtain ⟨b, cells, T, h1, h2, h3, h4⟩ := h
    exact ⟨b, cells, T, by rw [hi]; exact h1, (hC b _ h2).1, by rw [(hC b _ h2).2]; exact h3, AVs.mono hR hA _ _ h4⟩
  | .row t e xs, h => by
    simp only [EntOK] at h ⊢
    rw [hi]
    exact Rp.mono [] hR (fun b p hb => by simpa using hC b p hb) _ _ [] _ h
  | .fro e xs, h => by
    simp only [EntOK] at h ⊢
    rw [hi]
    exact Rp.mono [] hR (fun b p hb => by simp [noC] at hb) _ _ [] _ h

section
variable {w0 w : World} {L : List Nat} {R0 : Nat → Prop} {S : Upd} {C : Col} {R Al : Nat → Prop} {H : Nat → Value}

theorem Inv.ctx (h : Inv w0 L R0 S w C R Al H) : Ctx w C R Al H S :=
  ⟨h.ent, fun b i p hb => (h.col b i p hb).2.1, fun b hb => (h.rd b hb).1, h.al, h.one⟩

/-- The entries K are made anew; old blocks D alone (of such entries) are turned. -/
theorem Inv.upd (h : Inv w0 L R0 S w C R Al H) {w' : World} {S' : Upd} {C' : Col} {Al' : Nat → Prop} {H' : Nat → Value} (K D : Nat → Prop)
    (os : w'.os = w.os) (tape : w'.tape = w.tape) (output : w'.output = w.output) (size : w.heap.size ≤ w'.heap.size)
    (same : ∀ b, b < w.heap.size → ¬ D b → w'.heap[b]? = w.heap[b]?) (hD : ∀ b, D b → ∃ i p, C b = some (i, p) ∧ K i)
    (hC : ∀ b i p, ¬ K i → (C' b = some (i, p) ↔ C b = some (i, p)))
    (hK : ∀ b i p, K i → C' b = some (i, p) → Al' i ∧ b < w'.heap.size ∧ (w0.heap.size ≤ b ∨ b ∈ L) ∧ ¬ R b)
    (hA : ∀ i, Al i → Al' i ∧ H' i = H i) (hA' : ∀ i, Al' i → ¬ Al i → (H' i).oneCell' = true)
    (hS : ∀ i, ¬ K i → getS S' i = getS S i) (hE : ∀ i, K i → EntOK w' C' R Al' H' i (getS S' i)) (hKA : ∀ i, K i → Al' i) :
    Inv w0 L R0 S' w' C' R Al' H' ∧ ∀ x c, AV w R Al H x c → AV w' R Al' H' x c := by
  have hRs : ∀ b, R b → R b ∧ w'.heap[b]? = w.heap[b]? := fun b hb => ⟨hb, same b (h.rd b hb).1 (fun hd => by
    obtain ⟨i, p, h1, _⟩ := hD b hd
    rw [(h.rd b hb).2.1] at h1
    cases h1)⟩
  have hCs : ∀ b i p, ¬ K i → C b = some (i, p) → C' b = some (i, p) ∧ w'.heap[b]? = w.heap[b]? := fun b i p hk hb => ⟨(hC b i p hk).2 hb, same b (h.col b i p hb).2.1 (fun hd => by
    obtain ⟨j, q, h1, h2⟩ := hD b hd
    rw [hb] at h1
    simp only [Option.some.injEq, Prod.mk.injEq] at h1
    exact hk (h1.1 ▸ h2))⟩
  refine ⟨⟨os.trans h.os, tape.trans h.tape, output.trans h.output, Nat.le_trans h.size size, ?_, ?_, ?_, h.rd0, ?_, ?_, ?_, fun q b hq => ⟨(hA q (h.pin q b hq).1).1, by rw [(hA q (h.pin q b hq).1).2]; exact (h.pin q b hq).2⟩⟩, fun x c => AV.mono hRs hA x c⟩
  · intro b hb hl
    rw [same b (Nat.lt_of_lt_of_le hb h.size) (fun hd => by
      obtain ⟨i, p, h1, _⟩ := hD b hd
      rcases (h.col b i p h1).2.2 with h2 | h2
      · omega
      · exact hl h2)]
    exact h.frame b hb hl
  · intro b i p hb
    by_cases hk : K i
    · exact ⟨(hK b i p hk hb).1, (hK b i p hk hb).2.1, (hK b i p hk hb).2.2.1⟩
    · have := h.col b i p ((hC b i p hk).1 hb)
      exact ⟨(hA i this.1).1, Nat.lt_of_lt_of_le this.2.1 size, this.2.2⟩
  · intro b hb
    have := h.rd b hb
    refine ⟨Nat.lt_of_lt_of_le this.1 size, ?_, this.2.2⟩
    cases hc : C' b with
    | none => rfl
    | some q =>
      obtain ⟨i, p⟩ := q
      by_cases hk : K i
      · exact absurd hb (hK b i p hk hc).2.2.2
      · have := (hC b i p hk).1 hc
        rw [(h.rd b hb).2.1] at this
        cases this
  · intro i
    by_cases hk : K i
    · exact hE i hk
    · rw [hS i hk]
      by_cases hal : Al i
      · exact EntOK.mono hRs hA (hA i hal).2 (fun b p hb => hCs b i p hk hb) _ (h.ent i)
      · have : getS S i = .dead := Classical.byContradiction fun hn => hal (h.al i hn)
        rw [this]
        trivial
  · intro i hi
    by_cases hk : K i
    · exact hKA i hk
    · rw [hS i hk] at hi
      exact (hA i (h.al i hi)).1
  · intro i hi
    by_cases hal : Al i
    · rw [(hA i hal).2]; exact h.one i hal
    · exact hA' i hi hal

theorem getS_cons_self (S : Upd) (i : Nat) (e : Ent) : getS ((i, e) :: S) i = e := by simp [getS]
theorem getS_cons_ne (S : Upd) {i j : Nat} (e : Ent) (h : j ≠ i) : getS ((i, e) :: S) j = getS S j := by
  have : Nat.beq j i = false := by
    cases hb : Nat.beq j i
    · rfl
    · exact absurd (Nat.eq_of_beq_eq_true hb) h
  show cond (Nat.beq j i) e (getS S j) = _
  rw [this]
  rfl

theorem cellVal_ptr (b : Nat) : (Value.pointer (some ⟨b, 0, none⟩)).cells = #[Value.pointer (some ⟨b, 0, none⟩)] := rfl

/-- A new variable. -/
theorem Inv.newBox (h : Inv w0 L R0 S w C R Al H) {n : Nat} (hn : ∀ i, Al i → i < n) {cs : List AVal} {cells : Array Value} (T : TypeId) (hcs : AVs w R Al H cs cells.toList) :
    ∃ C' Al' H', Inv w0 L R0 ((n, .box cs) :: S) (w.alloc (.cells cells T)) C' R Al' H' ∧ (∀ i, Al' i → i < n + 1) ∧ AV (w.alloc (.cells cells T)) R Al' H' (.ptr n 0) (.pointer (some ⟨w.heap.size, 0, none⟩)) ∧
      ∀ x c, AV w R Al H x c → AV (w.alloc (.cells cells T)) R Al' H' x c := by
  let C' : Col := fun b => if b = w.heap.size then some (n, []) else C b
  let Al' : Nat → Prop := fun i => Al i ∨ i = n
  let H' : Nat → Value := fun i => if i = n then .pointer (some ⟨w.heap.size, 0, none⟩) else H i
  have hA : ∀ i, Al i → Al' i ∧ H' i = H i := fun i hi => ⟨.inl hi, by have := hn i hi; simp only [H']; rw [if_neg (by omega)]⟩
  have hR : ∀ b, R b → R b ∧ (w.alloc (.cells cells T)).heap[b]? = w.heap[b]? := fun b hb => ⟨hb, heap_alloc_old w _ b (h.rd b hb).1⟩
  have key := h.upd (w' := w.alloc (.cells cells T)) (S' := (n, .box cs) :: S) (C' := C') (Al' := Al') (H' := H') (fun i => i = n) (fun _ => False) rfl rfl rfl (by simp) (fun b hb _ => heap_alloc_old w _ b hb) (fun b hd => hd.elim)
    (fun b i p hi => by
      simp only [C']
      by_cases hb : b = w.heap.size
      · rw [if_pos hb]
        constructor
        · intro he; simp only [Option.some.injEq, Prod.mk.injEq] at he; exact absurd he.1.symm hi
        · intro he; have := (h.col b i p he).2.1; omega
      · rw [if_neg hb])
    (fun b i p hi hb => by
      simp only [C'] at hb
      by_cases hbs : b = w.heap.size
      · subst hbs
        exact ⟨.inr hi, by simp, .inl h.size, fun hr => by have := (h.rd _ hr).1; omega⟩
      · rw [if_neg hbs] at hb
        have := (h.col b i p hb).1
        have := hn i this
        omega)
    hA (fun i hi hal => by
      rcases hi with hi | hi
      · exact absurd hi hal
      · simp only [H']; rw [if_pos hi]; rfl)
    (fun i hi => getS_cons_ne _ _ hi)
    (fun i hi => by
      subst hi
      rw [getS_cons_self]
      exact ⟨w.heap.size, cells, T, by simp [H'], by simp [C'], heap_alloc_new w _, AVs.mono hR hA _ _ hcs⟩)
    (fun i hi => .inr hi)
  refine ⟨C', Al', H', key.1, fun i hi => ?_, ?_, key.2⟩
  · rcases hi with hi | hi
    · have := hn i hi; omega
    · omega
  · simp only [AV]
    exact ⟨.inr rfl, w.heap.size, by simp [H'], rfl⟩

/-- An entry falls away. -/
def kill (o : Option Nat) (S : Upd) : Upd :=
  match o with
  | some i => (i, .dead) :: S
  | none => S

/-- A row of our own that takes the number n; an elder row i falls away. -/
theorem Inv.newRow (h : Inv w0 L R0 S w C R Al H) {n : Nat} (hn : ∀ i, Al i → i < n) {w' : World} {t : Nat} {e : Kd} {xs : List e.ty} {v : Value} {fl : List Value} (old : Option Nat) (oldB : Option Nat)
    (hold : ∀ i, old = some i → Al i ∧ ∀ g, oldB = some g → C g = some (i, [])) (hnone : old = none → oldB = none)
    (hg : w.grownBy w' oldB) (how : Own w' t e.size v xs.length fl) (hv : ∀ g, ownB v = some g → w.heap.size ≤ g ∨ oldB = some g) (hl : Lst (fun j x c => Rp w' noC R 0 e x [j] c) 0 xs fl) (hro : e.ro = true) :
    ∃ C' Al' H', Inv w0 L R0 ((n, .row t e xs) :: (kill old S)) w' C' R Al' H' ∧ (∀ i, Al' i → i < n + 1) ∧ AV w' R Al' H' (.ref n) v ∧
      ∀ x c, AV w R Al H x c → AV w' R Al' H' x c := by
  let C' : Col := fun b => if ownB v = some b then some (n, []) else match C b with
    | some (i, p) => if old = some i then none else some (i, p)
    | none => none
  let Al' : Nat → Prop := fun i => Al i ∨ i = n
  let H' : Nat → Value := fun i => if i = n then v else H i
  have hA : ∀ i, Al i → Al' i ∧ H' i = H i := fun i hi => ⟨.inl hi, by have := hn i hi; simp only [H']; rw [if_neg (by omega)]⟩
  have hlt := how.lt
  have h1 : v.oneCell' = true := by
    rcases how.2 with ⟨A, hv, _⟩ | ⟨g, cap, cur, hv, _⟩ <;> rw [hv] <;> rfl
  have key := h.upd (w' := w') (S' := (n, .row t e xs) :: (kill old S)) (C' := C') (Al' := Al') (H' := H') (fun i => i = n ∨ old = some i) (fun b => oldB = some b) hg.os hg.tape hg.output hg.size
    (fun b hb hd => hg.block b hb (fun he => hd he.symm))
    (fun b hd => by
      cases ho : old with
      | none => rw [hnone ho] at hd; cases hd
      | some i => exact ⟨i, [], (hold i ho).2 b hd, .inr rfl⟩)
    (fun b i p hi => by
      simp only [C']
      by_cases hb : ownB v = some b
      · rw [if_pos hb]
        constructor
        · intro he; simp only [Option.some.injEq, Prod.mk.injEq] at he; exact absurd (.inl he.1.symm) hi
        · intro he
          rcases hv b hb with hb' | hb'
          · have := (h.col b i p he).2.1; omega
          · cases ho : old with
            | none => rw [hnone ho] at hb'; cases hb'
            | some j =>
              have := (hold j ho).2 b hb'
              rw [he] at this
              simp only [Option.some.injEq, Prod.mk.injEq] at this
              exact absurd (.inr (by rw [ho, this.1])) hi
      · rw [if_neg hb]
        cases hc : C b with
        | none => simp
        | some q =>
          obtain ⟨j, q⟩ := q
          simp only
          by_cases hj : old = some j
          · rw [if_pos hj]
            constructor
            · intro he; cases he
            · intro he; simp only [Option.some.injEq, Prod.mk.injEq] at he; exact absurd (.inr (he.1 ▸ hj)) hi
          · rw [if_neg hj])
    (fun b i p hi hb => by
      simp only [C'] at hb
      by_cases hbs : ownB v = some b
      · rw [if_pos hbs] at hb
        simp only [Option.some.injEq, Prod.mk.injEq] at hb
        have hlb := (hlt b hbs)
        refine ⟨.inr hb.1.symm, hlb, ?_, ?_⟩
        · rcases hv b hbs with hb' | hb'
          · exact .inl (Nat.le_trans h.size hb')
          · cases ho : old with
            | none => rw [hnone ho] at hb'; cases hb'
            | some j => exact (h.col b j [] ((hold j ho).2 b hb')).2.2
        · intro hr
          rcases hv b hbs with hb' | hb'
          · have := (h.rd b hr).1; omega
          · cases ho : old with
            | none => rw [hnone ho] at hb'; cases hb'
            | some j => have := (hold j ho).2 b hb'; rw [(h.rd b hr).2.1] at this; cases this
      · rw [if_neg hbs] at hb
        cases hc : C b with
        | none => rw [hc] at hb; cases hb
        | some q =>
          obtain ⟨j, q⟩ := q
          rw [hc] at hb
          simp only at hb
          by_cases hj : old = some j
          · rw [if_pos hj] at hb; cases hb
          · rw [if_neg hj] at hb
            simp only [Option.some.injEq, Prod.mk.injEq] at hb
            rcases hi with hi | hi
            · have := (h.col b j q hc).1
              have := hn j this
              omega
            · exact absurd (hb.1 ▸ hi) hj)
    hA (fun i hi hal => by
      rcases hi with hi | hi
      · exact absurd hi hal
      · simp only [H']; rw [if_pos hi]; exact h1)
    (fun i hi => by
      rw [getS_cons_ne _ _ (fun e => hi (.inl e))]
      cases ho : old with
      | none => rfl
      | some j => exact getS_cons_ne _ _ (fun e => hi (.inr (by rw [ho, e]))))
    (fun i hi => by
      by_cases hin : i = n
      · subst hin
        rw [getS_cons_self]
        simp only [EntOK]
        refine ⟨v, fl, by simp [H'], how, fun g hg' => by simp only [C']; rw [if_pos hg'], ?_⟩
        exact Lst.imp (fun j x c hx => Rp.ro (fun b hb => ⟨hb, rfl⟩) e hro x _ _ c hx) _ _ _ hl
      · rcases hi with hi | hi
        · exact absurd hi hin
        · rw [getS_cons_ne _ _ hin, hi, show getS (kill (some i) S) i = .dead from getS_cons_self _ _ _]
          trivial)
    (fun i hi => by
      rcases hi with hi | hi
      · exact .inr hi
      · exact .inl (hold i hi).1)
  refine ⟨C', Al', H', key.1, fun i hi => ?_, ?_, key.2⟩
  · rcases hi with hi | hi
    · have := hn i hi; omega
    · omega
  · simp only [AV]
    exact ⟨.inr rfl, by simp [H']⟩

end
end Go.Rv
namespace Go.Rv
section
variable {w0 w : World} {L : List Nat} {R0 : Nat → Prop} {S : Upd} {C : Col} {R Al : Nat → Prop} {H : Nat → Value}

/-- An entry's own block is written, its owner stays. -/
theorem Inv.touch (h : Inv w0 L R0 S w C R Al H) {i : Nat} (hi : Al i) {g : Nat} (hg : C g = some (i, [])) (cells : Array Value) {ent : Ent}
    (hent : (∀ b, R b → R b ∧ (w.setRow g cells).heap[b]? = w.heap[b]?) → EntOK (w.setRow g cells) C R Al H i ent) :
    Inv w0 L R0 ((i, ent) :: S) (w.setRow g cells) C R Al H ∧ ∀ x c, AV w R Al H x c → AV (w.setRow g cells) R Al H x c := by
  have hR : ∀ b, R b → R b ∧ (w.setRow g cells).heap[b]? = w.heap[b]? := fun b hb => ⟨hb, setRow_other w g b _ (fun e => by
    have := (h.rd b hb).2.1
    rw [e, hg] at this
    cases this)⟩
  refine h.upd (w' := w.setRow g cells) (S' := (i, ent) :: S) (C' := C) (Al' := Al) (H' := H) (fun j => j = i) (fun b => b = g) rfl rfl rfl (by simp) (fun b _ hd => setRow_other w g b _ hd) (fun b hd => ⟨i, [], by rw [hd]; exact hg, rfl⟩)
    (fun b j p _ => Iff.rfl) (fun b j p hj hb => ?_) (fun j hj => ⟨hj, rfl⟩) (fun j hj hn => absurd hj hn) (fun j hj => getS_cons_ne _ _ hj) (fun j hj => ?_) (fun j hj => hj ▸ hi)
  · have := h.col b j p hb
    refine ⟨this.1, by simpa using this.2.1, this.2.2, fun hr => ?_⟩
    have := (h.rd b hr).2.1
    rw [hb] at this
    cases this
  · subst hj
    rw [getS_cons_self]
    exact hent hR

theorem Inv.setBox (h : Inv w0 L R0 S w C R Al H) {i : Nat} {b : Nat} {T : TypeId} {cells : Array Value} (hi : Al i) (hp : H i = .pointer (some ⟨b, 0, none⟩)) (hb : C b = some (i, [])) (hc : w.heap[b]? = some (.cells cells T (0, 0))) {cs' : List AVal} {cells' : Array Value} (hcs : AVs w R Al H cs' cells'.toList) :
    Inv w0 L R0 ((i, .box cs') :: S) (w.setRow b cells') C R Al H ∧ ∀ x c, AV w R Al H x c → AV (w.setRow b cells') R Al H x c :=
  h.touch hi hb cells' fun hR => ⟨b, cells', T, hp, hb, setRow_heap w b _ _ _ _ hc, AVs.mono hR (fun _ hj => ⟨hj, rfl⟩) _ _ hcs⟩

theorem one1_ok {v : AVal} {c : Value} (h : AV w R Al H v c) (hv : one1 v = true) (hH : ∀ i, Al i → (H i).oneCell' = true) : c.oneCell' = true ∧ c.cells = #[c] := by
  cases v with
  | undef => simp [one1] at hv
  | tup _ => simp [one1] at hv
  | agg _ => simp [one1] at hv
  | int k n => simp only [AV] at h; subst h; exact ⟨rfl, rfl⟩
  | bool k => simp only [AV] at h; subst h; exact ⟨rfl, rfl⟩
  | str k => simp only [AV] at h; subst h; exact ⟨rfl, rfl⟩
  | nil => simp only [AV] at h; subst h; exact ⟨rfl, rfl⟩
  | sl e xs =>
    simp only [AV] at h
    obtain ⟨A, n, c', fl, he, _⟩ := h
    simp only [List.cons.injEq, and_true] at he
    subst he
    exact ⟨rfl, rfl⟩
  | ref i =>
    simp only [AV] at h
    obtain ⟨h1, rfl⟩ := h
    exact ⟨hH i h1, one_cells (hH i h1)⟩
  | ptr i o =>
    simp only [AV] at h
    obtain ⟨h1, b, e1, rfl⟩ := h
    exact ⟨rfl, rfl⟩
  | eptr i s j o =>
    simp only [AV] at h
    obtain ⟨h1, b, n, c', e1, rfl⟩ := h
    exact ⟨rfl, rfl⟩
  | pel e x o =>
    simp only [AV] at h
    obtain ⟨a, fl, rfl, _⟩ := h
    exact ⟨rfl, rfl⟩
  | vw i s lo n =>
    simp only [AV] at h
    obtain ⟨_, h⟩ := h
    rcases h with ⟨_, _, _, _, rfl⟩ | ⟨g, N, c', A, _, _, _, _, rfl, _⟩ <;> exact ⟨rfl, rfl⟩
  | emp =>
    simp only [AV] at h
    obtain ⟨a, rfl⟩ := h
    exact ⟨rfl, rfl⟩
  | fn f cs =>
    simp only [AV] at h
    obtain ⟨vs, rfl, _⟩ := h
    exact ⟨rfl, rfl⟩
end
end Go.Rv
namespace Go.Rv
section
variable {w0 w : World} {L : List Nat} {R0 : Nat → Prop} {S : Upd} {C : Col} {R Al : Nat → Prop} {H : Nat → Value} {P : Program}

theorem castL_some {e e' : Kd} {xs : List e'.ty} {ys : List e.ty} (h : castL e e' xs = some ys) : ∃ he : e' = e, he ▸ xs = ys := by
  unfold castL at h
  split at h
  · rename_i he; exact ⟨he, by simpa using h⟩
  · cases h

theorem Lst.mem {α : Type} {f : Nat → α → List Value → Prop} {Q : Value → Prop} (h : ∀ j x c, f j x c → ∀ u ∈ c, Q u) : ∀ (xs : List α) (j : Nat) (fl : List Value), Lst f j xs fl → ∀ u ∈ fl, Q u
  | [], _, _, hl, u, hu => by rw [show _ = [] from hl] at hu; cases hu
  | x :: xs, j, _, ⟨c, r, he, hf, hr⟩, u, hu => by
    rw [he] at hu
    rcases List.mem_append.1 hu with hu | hu
    · exact h _ _ _ hf u hu
    · exact Lst.mem h xs (j + 1) r hr u hu

theorem Rp.one {w : World} {C : Col} {R : Nat → Prop} {i : Nat} : ∀ (k : Kd) (x : k.ty) (p : List Nat) (cs : List Value), Rp w C R i k x p cs → ∀ u ∈ cs, u.oneCell' = true := by
  intro k
  induction k with
  | int k => intro x p cs h u hu; rw [show cs = _ from h] at hu; simp only [List.mem_singleton] at hu; subst hu; rfl
  | bool => intro x p cs h u hu; rw [show cs = _ from h] at hu; simp only [List.mem_singleton] at hu; subst hu; rfl
  | str => intro x p cs h u hu; rw [show cs = _ from h] at hu; simp only [List.mem_singleton] at hu; subst hu; rfl
  | one a ih => intro x p cs h; exact ih x p cs h
  | pair a b iha ihb =>
    intro x p cs h u hu
    obtain ⟨c1, c2, he, h1, h2⟩ := h
    rw [he] at hu
    rcases List.mem_append.1 hu with hu | hu
    · exact iha _ _ _ h1 u hu
    · exact ihb _ _ _ h2 u hu
  | sl o e ih =>
    intro xs p cs h u hu
    cases o with
    | none =>
      obtain ⟨A, n, c, fl, he, _⟩ := h
      rw [he] at hu; simp only [List.mem_singleton] at hu; subst hu; rfl
    | some t =>
      obtain ⟨v, fl, he, ho, _⟩ := h
      rw [he] at hu; simp only [List.mem_singleton] at hu; subst hu
      rcases ho.2 with ⟨A, hv, _⟩ | ⟨g, cap, cur, hv, _⟩ <;> rw [hv] <;> rfl

/-- A slice that is read: its cells, and where they lie. -/
theorem readSl_cells (hx : Ctx w C R Al H S) {e : Kd} (hro : e.ro = true) {v : AVal} {cv : Value} (ha : AV w R Al H v cv) {xs : List e.ty} (h : readSl S e v = some xs) :
    ∃ A n c fl, cv = .slice A n c ∧ n = xs.length ∧ n ≤ c ∧ Lst (fun j x c => Rp w noC R 0 e x [j] c) 0 xs fl ∧
      ((A = none ∧ xs = []) ∨ (xs = []) ∨ ∃ a, A = some a ∧ a.spot = none ∧ (R a.block ∨ ∃ i t es, C a.block = some (i, []) ∧ getS S i = .row t e es) ∧ ∀ (j : Nat) (u : Value), fl[j]? = some u → w.cell? (a.add j) = some u) := by
  unfold readSl at h
  split at h
  · simp only [Option.some.injEq] at h
    subst h
    simp only [AV] at ha
    exact ⟨none, 0, 0, [], ha, rfl, Nat.le_refl _, rfl, .inl ⟨rfl, rfl⟩⟩
  · simp only [Option.some.injEq] at h
    subst h
    simp only [AV] at ha
    obtain ⟨a, ha⟩ := ha
    exact ⟨a, 0, 0, [], ha, rfl, Nat.le_refl _, rfl, .inr (.inl rfl)⟩
  · rename_i i s lo n
    split at h
    · rename_i t e' ys hr
      cases hs : Nat.beq s e'.size
      · rw [hs] at h; cases h
      rw [hs] at h
      have hs := Nat.eq_of_beq_eq_true hs
      obtain ⟨he, hxs⟩ := castL_some h
      subst he
      simp only at hxs
      subst hxs
      obtain ⟨_, fl, ho, hcg, hl⟩ := row_ok hx hr
      have hl' : Lst (fun j x c => Rp w noC R 0 e' x [j] c) 0 ys fl := Lst.imp (fun j x c hx => Rp.ro (fun b hb => ⟨hb, rfl⟩) e' hro x _ _ c hx) _ _ _ hl
      have hl2 := Lst.some (w := w) (R := R) _ 0 (fun j => [j]) _ (Lst.cut (fun x c hx => Rp.length _ _ _ _ hx) lo n ys 0 0 fl (Lst.any _ _ _ _ hl'))
      rcases vw_row hx ha hr with ⟨A, v1, v2, v3, v4, _⟩ | ⟨g, c, A, v1, v0, v2, v3, v4, v5, _⟩
      · subst v1 v2 v3
        exact ⟨A, 0, 0, _, v4, by simp, Nat.le_refl _, hl2, .inr (.inl (by simp))⟩
      · have hlen : ((ys.drop lo).take n).length = n := by rw [List.length_take, List.length_drop]; omega
        refine ⟨some A, n, c - lo, _, v4, hlen.symm, by omega, hl2, .inr ?_⟩
        by_cases h0 : c - lo = 0
        · left
          rw [show n = 0 from by omega]; simp
        · right
          have hA := v5 h0
          subst hA
          refine ⟨_, rfl, rfl, .inr ⟨i, t, ys, hcg g (by rw [v1]; exact ownB_of v0), hr⟩, fun j u hj => ?_⟩
          have ho := ho.row (g := g) (by rw [v1]; exact ownB_of v0)
          rw [v1] at ho
          rw [List.getElem?_take] at hj
          split at hj
          · rw [List.getElem?_drop] at hj
            have := ho.cells (g := g) rfl _ u hj
            simp only [Addr.add_lit, Nat.zero_add] at this ⊢
            rw [hs]; exact this
          · cases hj
    · rename_i e' ys hr
      cases hs : Nat.beq s e'.size
      · rw [hs] at h; cases h
      rw [hs] at h
      obtain ⟨he, hxs⟩ := castL_some h
      subst he
      simp only at hxs
      subst hxs
      have hv := (vw_fro hx ha hr (Nat.eq_of_beq_eq_true hs)).2
      simp only [AV] at hv
      obtain ⟨A, n, c, fl, he, hn, hc, hl, hat⟩ := hv
      simp only [List.cons.injEq, and_true] at he
      refine ⟨A, n, c, fl, he, hn, hc, hl, ?_⟩
      rcases hat with hat | ⟨a, h1, h2, h3, h4⟩
      · exact .inr (.inl hat)
      · exact .inr (.inr ⟨a, h1, h2, .inl h3, h4⟩)
    · cases h
  · obtain ⟨he, hxs⟩ := castL_some h
    subst he
    simp only at hxs
    subst hxs
    simp only [AV] at ha
    obtain ⟨A, n, c, fl, he, hn, hc, hl, hat⟩ := ha
    simp only [List.cons.injEq, and_true] at he
    refine ⟨A, n, c, fl, he, hn, hc, hl, ?_⟩
    rcases hat with hat | ⟨a, h1, h2, h3, h4⟩
    · exact .inr (.inl hat)
    · exact .inr (.inr ⟨a, h1, h2, .inl h3, h4⟩)
  · rename_i i
    simp only [AV] at ha
    obtain ⟨_, rfl⟩ := ha
    split at h
    · rename_i t e' ys hr
      obtain ⟨he, hxs⟩ := castL_some h
      subst he
      simp only at hxs
      subst hxs
      obtain ⟨_, fl, ho, hcg, hl⟩ := row_ok hx hr
      have hl' : Lst (fun j x c => Rp w noC R 0 e' x [j] c) 0 ys fl := Lst.imp (fun j x c hx => Rp.ro (fun b hb => ⟨hb, rfl⟩) e' hro x _ _ c hx) _ _ _ hl
      rcases ho.2 with ⟨A, hv, hn⟩ | ⟨g, cap, cur, hv, hb, hg, hnc, hcm, hcs, htk⟩
      · exact ⟨A, 0, 0, fl, hv, hn.symm, Nat.le_refl _, hl', .inr (.inl (List.eq_nil_of_length_eq_zero hn))⟩
      · refine ⟨some ⟨g, 0, none⟩, ys.length, cap, fl, hv, rfl, hnc, hl', .inr (.inr ⟨⟨g, 0, none⟩, rfl, rfl, .inr ⟨i, t, ys, hcg g (by rw [hv]; exact ownB_of hb), hr⟩, fun j u hj => ?_⟩)⟩
        have ho := ho.row (g := g) (by rw [hv]; exact ownB_of hb)
        rw [hv] at ho
        exact ho.cells (g := g) rfl j u hj
    · rename_i e' ys hr
      obtain ⟨he, hxs⟩ := castL_some h
      subst he
      simp only at hxs
      subst hxs
      have hent := hx.ent i
      rw [hr] at hent
      simp only [EntOK] at hent
      obtain ⟨A, n, c, fl, he, hn, hc, hl, hat⟩ := hent
      simp only [List.cons.injEq, and_true] at he
      refine ⟨A, n, c, fl, he, hn, hc, hl, ?_⟩
      rcases hat with hat | ⟨a, h1, h2, h3, h4⟩
      · exact .inr (.inl hat)
      · exact .inr (.inr ⟨a, h1, h2, .inl h3, h4⟩)
    · cases h
  · cases h

theorem takeSl_ok (hx : Ctx w C R Al H S) {e : Kd} {v : AVal} {cv : Value} (ha : AV w R Al H v cv) {xs : List e.ty} {is : List (Option Nat)} (h : takeSl S none e v = some (xs, is)) (p : List Nat) : Rp w noC R 0 (.sl none e) xs p [cv] ∧ is = [] := by
  unfold takeSl at h
  simp only at h
  split at h
  · simp only [Option.some.injEq, Prod.mk.injEq] at h
    obtain ⟨rfl, rfl⟩ := h
    simp only [AV] at ha
    subst ha
    exact ⟨⟨none, 0, 0, [], rfl, rfl, Nat.le_refl _, rfl, .inl rfl⟩, rfl⟩
  · simp only [Option.some.injEq, Prod.mk.injEq] at h
    obtain ⟨rfl, rfl⟩ := h
    simp only [AV] at ha
    obtain ⟨a, ha⟩ := ha
    subst ha
    exact ⟨⟨a, 0, 0, [], rfl, rfl, Nat.le_refl _, rfl, .inl rfl⟩, rfl⟩
  · split at h
    · rename_i ys hy
      simp only [Option.some.injEq, Prod.mk.injEq] at h
      obtain ⟨rfl, rfl⟩ := h
      obtain ⟨he, hxs⟩ := castL_some hy
      subst he
      simp only at hxs
      subst hxs
      simp only [AV] at ha
      exact ⟨noC_path _ _ _ _ _ ha, rfl⟩
    · cases h
  · rename_i i
    simp only [AV] at ha
    obtain ⟨_, rfl⟩ := ha
    split at h
    · rename_i e' ys hr
      split at h
      · rename_i zs hz
        simp only [Option.some.injEq, Prod.mk.injEq] at h
        obtain ⟨rfl, rfl⟩ := h
        obtain ⟨he, hxs⟩ := castL_some hz
        subst he
        simp only at hxs
        subst hxs
        have hent := hx.ent i
        rw [hr] at hent
        simp only [EntOK] at hent
        exact ⟨noC_path _ _ _ _ _ hent, rfl⟩
      · cases h
    · cases h
  · cases h

/-- Cells taken as a datum that owns nothing. -/
theorem takeCells_ro (hx : Ctx w C R Al H S) : ∀ (k : Kd) (_ : k.ro = true) (cs : List AVal) (x : k.ty) (rest : List AVal) (is : List (Option Nat)), takeCells S k cs = some (x, rest, is) → ∀ (vs : List Value), AVs w R Al H cs vs →
    ∃ c r, vs = c ++ r ∧ (∀ p, Rp w noC R 0 k x p c) ∧ AVs w R Al H rest r := by
  intro k
  induction k with
  | int k =>
    intro _ cs x rest is h vs hv
    cases cs with
    | nil => simp [takeCells] at h
    | cons c cs =>
      simp only [AVs] at hv
      obtain ⟨v, r, h1, h2, h3⟩ := hv
      cases c <;> simp only [takeCells] at h <;> first | (cases h; done) | skip
      split at h
      · rename_i hk
        subst hk
        simp only [Option.some.injEq, Prod.mk.injEq] at h
        obtain ⟨rfl, rfl, rfl⟩ := h
        simp only [AV] at h2
        exact ⟨[v], r, h1, fun _ => by rw [h2]; rfl, h3⟩
      · cases h
  | bool =>
    intro _ cs x rest is h vs hv
    cases cs with
    | nil => simp [takeCells] at h
    | cons c cs =>
      simp only [AVs] at hv
      obtain ⟨v, r, h1, h2, h3⟩ := hv
      cases c <;> simp only [takeCells] at h <;> first | (cases h; done) | skip
      simp only [Option.some.injEq, Prod.mk.injEq] at h
      obtain ⟨rfl, rfl, rfl⟩ := h
      simp only [AV] at h2
      exact ⟨[v], r, h1, fun _ => by rw [h2]; rfl, h3⟩
  | str =>
    intro _ cs x rest is h vs hv
    cases cs with
    | nil => simp [takeCells] at h
    | cons c cs =>
      simp only [AVs] at hv
      obtain ⟨v, r, h1, h2, h3⟩ := hv
      cases c <;> simp only [takeCells] at h <;> first | (cases h; done) | skip
      simp only [Option.some.injEq, Prod.mk.injEq] at h
      obtain ⟨rfl, rfl, rfl⟩ := h
      simp only [AV] at h2
      exact ⟨[v], r, h1, fun _ => by rw [h2]; rfl, h3⟩
  | one a ih => intro hr cs x rest is h vs hv; exact ih hr cs x rest is h vs hv
  | pair a b iha ihb =>
    intro hr cs x rest is h vs hv
    have hr' : a.ro = true ∧ b.ro = true := by
      simp only [Kd.ro] at hr
      cases ha : a.ro <;> simp_all
    simp only [takeCells] at h
    split at h
    · rename_i x1 r1 i1 h1
      split at h
      · rename_i y r2 i2 h2
        simp only [Option.some.injEq, Prod.mk.injEq] at h
        obtain ⟨rfl, rfl, rfl⟩ := h
        obtain ⟨c1, q1, e1, f1, g1⟩ := iha hr'.1 _ _ _ _ h1 vs hv
        obtain ⟨c2, q2, e2, f2, g2⟩ := ihb hr'.2 _ _ _ _ h2 _ g1
        refine ⟨c1 ++ c2, q2, by rw [e1, e2, List.append_assoc], fun p => ⟨c1, c2, rfl, f1 _, f2 _⟩, g2⟩
      · cases h
    · cases h
  | sl o e ih =>
    intro hr cs x rest is h vs hv
    cases o with
    | some t => simp [Kd.ro] at hr
    | none =>
      cases cs with
      | nil => simp [takeCells] at h
      | cons c cs =>
        simp only [AVs] at hv
        obtain ⟨v, r, h1, h2, h3⟩ := hv
        simp only [takeCells] at h
        split at h
        · rename_i ys js hy
          simp only [Option.some.injEq, Prod.mk.injEq] at h
          obtain ⟨rfl, rfl, rfl⟩ := h
          exact ⟨[v], r, h1, fun p => (takeSl_ok hx h2 hy p).1, h3⟩
        · cases h

/-- An operation's outcome that the rest goes on from. -/
def Goes (w0 : World) (L : List Nat) (R0 : Nat → Prop) (S : Upd) (w : World) (R Al : Nat → Prop) (H : Nat → Value) (n : Nat) (v : AVal) (cv : Value) (w' : World) (_ : (AVal → Value → Prop)) : Prop :=
  ∃ C' Al' H', Inv w0 L R0 S w' C' R Al' H' ∧ (∀ i, Al' i → i < n) ∧ AV w' R Al' H' v cv ∧ (∀ x c, AV w R Al H x c → AV w' R Al' H' x c)

theorem seg_eq (fl : List Value) (a s o : Nat) (vs : List Value) (h1 : o + vs.length ≤ s) (_ : a + s ≤ fl.length) :
    fl.take a ++ (((fl.drop a).take s).take o ++ vs ++ ((fl.drop a).take s).drop (o + vs.length)) ++ fl.drop (a + s) = fl.take (a + o) ++ vs ++ fl.drop (a + o + vs.length) := by
  rw [List.take_take, Nat.min_eq_left (by omega)]
  have e1 : fl.take (a + o) = fl.take a ++ (fl.drop a).take o := by rw [List.take_add]
  have e2 : ((fl.drop a).take s).drop (o + vs.length) ++ fl.drop (a + s) = fl.drop (a + o + vs.length) := by
    rw [List.drop_take, List.drop_drop]
    have : fl.drop (a + s) = (fl.drop (a + (o + vs.length))).drop (s - (o + vs.length)) := by
      rw [List.drop_drop]; congr 1; omega
    rw [this, List.take_append_drop]
    congr 1; omega
  rw [e1, ← e2]
  simp

end
end Go.Rv
namespace Go.Rv
section
variable {w0 w : World} {L : List Nat} {R0 : Nat → Prop} {S : Upd} {C : Col} {R Al : Nat → Prop} {H : Nat → Value} {P : Program}

theorem one1s_solid {v : AVal} (h : (cellsV v).all one1 = true) : solid v = true := by
  cases v <;> first | rfl | (simp [cellsV, one1] at h)

theorem one1s_ok (hH : ∀ i, Al i → (H i).oneCell' = true) : ∀ (cs : List AVal) (vs : List Value), AVs w R Al H cs vs → cs.all one1 = true → ∀ u ∈ vs, u.oneCell' = true
  | [], vs, h, _, u, hu => by simp only [AVs] at h; rw [h] at hu; cases hu
  | c :: cs, vs, h, ho, u, hu => by
    simp only [AVs] at h
    obtain ⟨v, r, h1, h2, h3⟩ := h
    simp only [List.all_cons, Bool.and_eq_true] at ho
    rw [h1] at hu
    rcases List.mem_cons.1 hu with hu | hu
    · rw [hu]; exact (one1_ok h2 ho.1 hH).1
    · exact one1s_ok hH cs r h3 ho.2 u hu

theorem run_storeVar {t : TypeId} {ti : TI} {i : TypeInfo} {d : TypeDesc} {z : Value} (ht : TIok P t ti i d z) (g o : Nat) (T : TypeId) (cur : Array Value) (v : Value) (hg : w.heap[g]? = some (.cells cur T (0, 0))) (hs : v.cells.toList.length = ti.size)
    (hf : o + v.cells.toList.length ≤ cur.size) (h1 : ∀ u ∈ v.cells.toList, u.oneCell' = true) :
    (Instr.storeAt t (.pointer (some ⟨g, o, none⟩)) v).run P w = .ok () (w.setRow g (cur.toList.take o ++ v.cells.toList ++ cur.toList.drop (o + v.cells.toList.length)).toArray) := by
  have h := run_storeCells_at P g o T v.cells.toList 0 cur w hg (by simpa using hf) h1
  simp only [Nat.add_zero] at h
  simp only [Array.length_toList] at hs
  simp [Instr.storeAt, Instr.sureAddr, storeVar, ht.run_size, hs, h]

theorem take_seg (cur vs : List Value) (a n : Nat) (h : a + vs.length ≤ n) (hn : n ≤ cur.length) : (cur.take a ++ vs ++ cur.drop (a + vs.length)).take n = (cur.take n).take a ++ vs ++ (cur.take n).drop (a + vs.length) := by
  have l1 : (cur.take a).length = a := by simp; omega
  rw [List.append_assoc, List.take_append, l1, List.take_append, List.take_take, List.take_take, Nat.min_eq_right (by omega), Nat.min_eq_left (by omega), List.take_of_length_le (l := vs) (by omega), List.append_assoc]
  congr 2
  rw [List.drop_take]
  congr 1
  omega

theorem storeA_ok (hi : Inv w0 L R0 S w C R Al H) {T : Tab} (hT : TabOK P T) {t : TypeId} {ti : TI} (ht : T.get t = some ti) {x v : AVal} {cx cv : Value} (ha : AV w R Al H x cx) (hv : AV w R Al H v cv) {α : Type} {k : Upd → Option α} {r : α}
    (h : storeA S ti x v k = some r) : ∃ u w', k u = some r ∧ (Instr.storeAt t cx cv).run P w = .ok () w' ∧ Inv w0 L R0 (u ++ S) w' C R Al H ∧ ∀ y c, AV w R Al H y c → AV w' R Al H y c := by
  have hx := hi.ctx
  obtain ⟨inf, d, z, hr⟩ := hT.row ht
  unfold storeA at h
  obtain ⟨hc, h'⟩ := chk_some h
  clear h
  simp only [Bool.and_eq_true] at hc
  have hsz := Nat.eq_of_beq_eq_true hc.1
  have hcs := solid_cells hv (one1s_solid hc.2) (fun i h => one_cells (hi.one i h))
  have hl := AVs.length _ _ hcs
  have h1 := one1s_ok hi.one _ _ hcs hc.2
  split at h'
  · rename_i i o
    simp only [AV] at ha
    split at h'
    · rename_i cs hb
      obtain ⟨hcc, h'⟩ := chk_some h'
      have hle := Nat.le_of_ble_eq_true hcc
      obtain ⟨hal, b, cells, T', q1, q2, q3, q4⟩ := box_ok hx hb
      obtain ⟨_, b', e5, e6⟩ := ha
      rw [q1] at e5
      simp only [Value.pointer.injEq, Option.some.injEq, Addr.mk.injEq, and_true] at e5
      subst e5 e6
      have hlen := AVs.length _ _ q4
      simp only [Array.length_toList] at hlen
      have hrun := run_storeVar hr b o T' cells cv q3 (by omega) (by omega) h1
      obtain ⟨k1, k2⟩ := hi.setBox hal q1 q2 q3 (cells' := (cells.toList.take o ++ cv.cells.toList ++ cells.toList.drop (o + cv.cells.toList.length)).toArray) (by simpa using AVs.setSeg q4 hcs o)
      exact ⟨_, _, h', hrun, k1, k2⟩
    · cases h'
  · rename_i i s j o
    simp only [AV] at ha
    split at h'
    · rename_i t' e xs hb
      obtain ⟨hcc, h3⟩ := chk_some h'
      clear h'
      have h' := h3
      clear h3
      simp only [Bool.and_eq_true] at hcc
      obtain ⟨⟨c1, c2⟩, c3⟩ := hcc
      have c1 := Nat.eq_of_beq_eq_true c1
      have c2 := Nat.le_of_ble_eq_true c2
      subst c1
      cases hj : xs[j]? with
      | none => rw [hj] at h'; cases h'
      | some y =>
        rw [hj] at h'
        simp only [Option.bind_some] at h'
        split at h'
        · rename_i y' is hy'
          obtain ⟨hal, fl, ho, hcg, hlst⟩ := row_ok hx hb
          obtain ⟨_, g', n', c', e5, e6⟩ := ha
          have hjl : j < xs.length := (List.getElem?_eq_some_iff.1 hj).1
          rcases ho.2 with ⟨A, hv', hn⟩ | ⟨g, cap, cur, hv', hb', hg, hnc, hcm, hcsz, htk⟩
          · omega
          · rw [hv'] at e5
            simp only [Value.slice.injEq, Option.some.injEq, Addr.mk.injEq, and_true] at e5
            obtain ⟨e5, _, _⟩ := e5
            subst e5 e6
            have hgc := hcg g (by rw [hv']; exact ownB_of hb')
            have hfl : fl.length = xs.length * e.size := ho.1
            have hbnd : j * e.size + e.size ≤ fl.length := by
              rw [hfl]
              have : (j + 1) * e.size ≤ xs.length * e.size := Nat.mul_le_mul_right _ hjl
              rw [Nat.add_mul, Nat.one_mul] at this
              exact this
            have hcur : fl.length ≤ cur.size := by rw [hfl, hcsz]; exact Nat.mul_le_mul_right _ hnc
            have hel := Lst.get (s := e.size) (fun j x c hx => Rp.length _ _ _ _ hx) xs 0 fl hlst j y hj
            rw [Nat.zero_add] at hel
            have hel0 : Rp w noC R 0 e y [] ((fl.drop (j * e.size)).take e.size) := Rp.ro (fun b hb => ⟨hb, rfl⟩) e c3 y _ _ _ hel
            have hset := AVs.setSeg (cellsOf_ok (Al := Al) (H := H) e y [] _ hel0) hcs o
            obtain ⟨cc, rr, f1, f2, f3⟩ := takeCells_ro hx e c3 _ _ _ _ hy' _ hset
            simp only [AVs] at f3
            subst f3
            rw [List.append_nil] at f1
            have hvl : cv.cells.toList.length = (cellsV v).length := hl
            have hrun := run_storeVar hr g (j * e.size + o) t' cur cv hg (by omega) (by omega) h1
            have key : (cur.toList.take (j * e.size + o) ++ cv.cells.toList ++ cur.toList.drop (j * e.size + o + cv.cells.toList.length)).take (xs.length * e.size) = fl.take (j * e.size) ++ cc ++ fl.drop (j * e.size + e.size) := by
              rw [← f1]
              rw [seg_eq fl (j * e.size) e.size o cv.cells.toList (by omega) (by omega)]
              rw [← htk]
              rw [hfl] at hbnd
              exact take_seg _ _ _ _ (by omega) (by simp only [Array.length_toList]; omega)
            obtain ⟨k1, k2⟩ := hi.touch hal hgc (cur.toList.take (j * e.size + o) ++ cv.cells.toList ++ cur.toList.drop (j * e.size + o + cv.cells.toList.length)).toArray (ent := .row t' e (xs.set j y')) (fun hR => by
              simp only [EntOK]
              refine ⟨H i, fl.take (j * e.size) ++ cc ++ fl.drop (j * e.size + e.size), rfl, ⟨?_, .inr ⟨g, cap, _, by rw [hv']; simp, hb', setRow_heap w g _ _ _ _ hg, by simpa using hnc, hcm, ?_, ?_⟩⟩, hcg, ?_⟩
              · have := Rp.length _ _ _ _ (f2 [])
                simp only [List.length_append, List.length_take, List.length_drop, List.length_set]
                omega
              · have hh1 : cur.toList.length = cur.size := by simp
                simp only [List.size_toArray, List.length_append, List.length_take, List.length_drop]
                omega
              · simp only [List.length_set]
                exact key
              · have hm : Lst (fun j x c => Rp (w.setRow g (cur.toList.take (j * e.size + o) ++ cv.cells.toList ++ cur.toList.drop (j * e.size + o + cv.cells.toList.length)).toArray) C R i e x [j] c) 0 xs fl → True := fun _ => trivial
                have hl2 := Lst.set (s := e.size) (f := fun j x c => Rp w C R i e x [j] c) (fun j x c hx => Rp.length _ _ _ _ hx) xs 0 fl hlst j y' cc hjl (by
                  exact Rp.ro (fun b hb => ⟨hb, rfl⟩) e c3 y' _ _ _ (f2 []))
                exact Lst.imp (fun j x c hx => Rp.ro hR e c3 x _ _ c hx) _ _ _ hl2)
            exact ⟨_, _, h', hrun, k1, k2⟩
        · cases h'
    · cases h'
  · cases h'

end
end Go.Rv
namespace Go.Rv
section
variable {w0 w : World} {L : List Nat} {R0 : Nat → Prop} {S : Upd} {C : Col} {R Al : Nat → Prop} {H : Nat → Value} {P : Program}

/-- What an operation that makes memory or writes leaves. -/
def Left (w0 : World) (L : List Nat) (R0 : Nat → Prop) (S : Upd) (R Al : Nat → Prop) (H : Nat → Value) (w : World) (n : Nat) (v : AVal) (cv : Value) (w' : World) : Prop :=
  ∃ C' Al' H', Inv w0 L R0 S w' C' R Al' H' ∧ (∀ i, Al' i → i < n) ∧ AV w' R Al' H' v cv ∧ ∀ y c, AV w R Al H y c → AV w' R Al' H' y c

theorem Lst.keep {w w' : World} {R : Nat → Prop} (hR : ∀ b, R b → R b ∧ w'.heap[b]? = w.heap[b]?) {e : Kd} (hro : e.ro = true) {xs : List e.ty} {fl : List Value} {b : Nat}
    (h : Lst (fun j x c => Rp w noC R 0 e x [j] c) b xs fl) : Lst (fun j x c => Rp w' noC R 0 e x [j] c) b xs fl := Lst.imp (fun _ x c hx => Rp.ro hR e hro x _ _ c hx) _ _ _ h

theorem Lst.shift {w : World} {R : Nat → Prop} {e : Kd} : ∀ (xs : List e.ty) (fl : List Value) (b b' : Nat), Lst (fun j x c => Rp w noC R 0 e x [j] c) b xs fl → Lst (fun j x c => Rp w noC R 0 e x [j] c) b' xs fl
  | [], _, _, _, h => h
  | _ :: xs, _, b, b', ⟨c, r, he, hf, hr⟩ => ⟨c, r, he, noC_path _ _ _ _ _ hf, Lst.shift xs r (b + 1) (b' + 1) hr⟩

theorem grown_R (hi : Inv w0 L R0 S w C R Al H) {w' : World} {ob : Option Nat} (hg : w.grownBy w' ob) (hob : ∀ g, ob = some g → ∃ i, C g = some (i, [])) : ∀ b, R b → R b ∧ w'.heap[b]? = w.heap[b]? := by
  intro b hb
  refine ⟨hb, hg.block b (hi.rd b hb).1 (fun he => ?_)⟩
  obtain ⟨i, hc⟩ := hob b he.symm
  rw [(hi.rd b hb).2.1] at hc
  cases hc

/-- What an append leaves: a row of our own. -/
theorem run_append_Own {t ty e : TypeId} {i : TypeInfo} {z : Value} {size bytes : Nat} (hu : P.underlying t = some (.slice e)) (hin : P.info? e = some i) (hz : i.zero = some z)
    (hsize : i.size = size) (hby : i.bytes = bytes) (hzs : z.cells.size = size) (hsz : 0 < size) {v : Value} {n : Nat} {xs : List Value} (how : Own w e size v n xs)
    (a : Addr) (m c : Nat) (news : List Value) (hl : news.length = m * size) (hnews : ∀ (j : Nat) (u : Value), news[j]? = some u → w.cell? (a.add j) = some u) (h1 : ∀ u ∈ news, u.oneCell' = true)
    (h63 : n + m ≤ maxLen) (hbytes : (n + m) * bytes ≤ 140737488355328) :
    ∃ v' w', (Builtin.append_ #[t, t] ty #[v, .slice (some a) m c]).run P w = .ok v' w' ∧ Own w' e size v' (n + m) (xs ++ news) ∧ w.grownBy w' (ownB v) ∧ ∀ g, ownB v' = some g → w.heap.size ≤ g ∨ ownB v = some g := by
  have hmx : maxLen = 9223372036854775807 := rfl
  rcases how.2 with ⟨A, rfl, rfl⟩ | ⟨b, cap, cur, rfl, hb, hcb, hnc, hcm, hcs, htk⟩
  · have hxs : xs = [] := by have := how.1; simpa using this
    subst hxs
    cases A with
    | none =>
      obtain ⟨v2, w2, e1, e2, e3, _⟩ := run_append_own (P := P) w w.heap.size t ty e i z size bytes hu hin hz hsize hby hzs hsz (.slice none 0 0) 0 [] ⟨by simp, .inl ⟨rfl, rfl⟩⟩ a m c news hl hnews h1 h63 hbytes (Nat.le_refl _)
      refine ⟨v2, w2, e1, Own.of ⟨e2.1, ?_⟩, e3, fun g hg => .inl (e2.lt g (ownB_block hg)).1⟩
      exact e2.2.imp id fun ⟨g, cap, cur, q1, q2, r⟩ => ⟨g, cap, cur, q1, Nat.zero_le _, r⟩
    | some a0 =>
      cases m with
      | zero =>
        have hn0 : news = [] := by simpa using hl
        subst hn0
        refine ⟨_, w, ?_, Own.nil _ _ _ (some a0), ⟨rfl, rfl, rfl, Nat.le_refl _, fun _ _ _ => rfl⟩, fun g hg => .inr hg⟩
        simp [Builtin.append_, run_underlying hu, sizeOf, typeInfo, hin, Builtin.lenOf, Builtin.firstCells, loadCells, loadCellsFrom, storeCells]
      | succ m =>
        have e1 := run_append_grow (P := P) w t ty e i z hu hin hz a0 0 0 [] (by simp) (by simp) a (m + 1) c news (by rw [hsize]; exact hl) hnews (by omega) (by omega) (by rw [hby]; exact growslice_fits (by omega) hbytes)
        have hge := grownCap_ge w (0 + (m + 1)) 0 e
        have hcm : grownCap w (0 + (m + 1)) 0 e ≤ maxLen := grownCap_le_maxLen w (0 + (m + 1)) 0 e h63
        have hlen : ([] ++ news : List Value).length = (0 + (m + 1)) * size := by simpa using hl
        refine ⟨_, _, e1, ⟨hlen, .inr ⟨w.heap.size, _, _, rfl, by omega, heap_alloc_new w.drew _, hge, hcm, ?_, ?_⟩⟩, ⟨rfl, rfl, rfl, by simp, fun k hk _ => heap_alloc_old w.drew _ k hk⟩, fun g hg => .inl ?_⟩
        · simp only [Nat.zero_add] at hge ⊢
          simp only [Array.size_append, List.size_toArray, size_zeroCells, hzs, hl, List.length_nil, Nat.zero_add, ← Nat.add_mul]
          congr 1
          omega
        · simp only [Array.toList_append, List.append_assoc]
          rw [← List.append_assoc, ← hlen]
          exact List.take_left
        · have hg := ownB_block hg
          simp only [Value.ownBlock, Option.some.injEq] at hg
          omega
  · have hob : ownB (.slice (some ⟨b, 0, none⟩) n cap) = some b := ownB_of hb
    have how' := how.row hob
    obtain ⟨v2, w2, e1, e2, e3, _⟩ := run_append_own (P := P) w 0 t ty e i z size bytes hu hin hz hsize hby hzs hsz _ n xs how' a m c news hl hnews h1 h63 hbytes (Nat.zero_le _)
    refine ⟨v2, w2, e1, Own.of e2, by rw [hob]; exact e3, fun g hg => ?_⟩
    have hg := ownB_block hg
    by_cases hroom : n + m ≤ cap
    · obtain ⟨w3, q1, q2, q3⟩ := run_append_fits (P := P) w 0 t ty e i size hu hin hsize b n cap xs how' a m c news hl hnews h1 hroom
      rw [e1] at q1
      simp only [Result.ok.injEq] at q1
      obtain ⟨rfl, rfl⟩ := q1
      exact .inr (by rw [hob]; simpa [Value.ownBlock] using hg)
    · have holds : ∀ (j : Nat) (u : Value), xs[j]? = some u → w.cell? ((⟨b, 0, none⟩ : Addr).add j) = some u := how'.cells (g := b) rfl
      have q1 := run_append_grow (P := P) w t ty e i z hu hin hz ⟨b, 0, none⟩ n cap xs (by rw [hsize]; exact how.1) holds a m c news (by rw [hsize]; exact hl) hnews (by omega) (by omega) (by rw [hby]; exact growslice_fits (by omega) hbytes)
      rw [e1] at q1
      simp only [Result.ok.injEq] at q1
      obtain ⟨rfl, rfl⟩ := q1
      simp only [Value.ownBlock, Option.some.injEq] at hg
      exact .inl (by omega)

theorem appA_ok (hi : Inv w0 L R0 S w C R Al H) {n : Nat} (hn : ∀ i, Al i → i < n) {t e' : TypeId} {i : TypeInfo} {z : Value} {size bytes : Nat} {e : Kd} (hu : P.underlying t = some (.slice e')) (hin : P.info? e' = some i) (hz : i.zero = some z)
    (hsize : i.size = size) (hby : i.bytes = bytes) (hzs : z.cells.size = size) (hes : e.size = size) (hbp : 0 < bytes) {x y : AVal} {cx cy : Value} (hx : AV w R Al H x cx) (hy : AV w R Al H y cy) {ty : TypeId} {α : Type} {k : AVal → Upd → Nat → Option α} {r : α}
    (h : appA S n e' e bytes x y k = some r) :
    ∃ v u m cv w', k v u m = some r ∧ (Builtin.append_ #[t, t] ty #[cx, cy]).run P w = .ok cv w' ∧ Left w0 L R0 (u ++ S) R Al H w m v cv w' := by
  have hctx := hi.ctx
  unfold appA at h
  split at h
  · cases h
  · rename_i ys hys
    have spos : 0 < size := by rw [← hes]; exact e.size_pos
    have maxe : maxLen = 9223372036854775807 := rfl
    have core : ∀ (old : Option Nat) (xs : List e.ty) (fl : List Value) (hro : e.ro = true), Own w e' size cx xs.length fl → Lst (fun j x c => Rp w noC R 0 e x [j] c) 0 xs fl →
        (∀ j, old = some j → Al j ∧ ∀ g, ownB cx = some g → C g = some (j, [])) → (old = none → ownB cx = none) → (xs.length + ys.length) * bytes ≤ maxBytes →
        ∃ cv w', (Builtin.append_ #[t, t] ty #[cx, cy]).run P w = .ok cv w' ∧ Left w0 L R0 ((n, .row e' e (xs ++ ys)) :: kill old S) R Al H w (n + 1) (.ref n) cv w' := by
      intro old xs fl hro how hl hold hnone hbytes
      obtain ⟨A, m, c, gl, hcy, hm, hmc, hgl, hplace⟩ := readSl_cells hctx hro hy hys
      have hlen : gl.length = ys.length * size := by rw [← hes]; exact Lst.length (fun j x c hx => Rp.length _ _ _ _ hx) _ _ _ hgl
      have hone : ∀ u ∈ gl, u.oneCell' = true := Lst.mem (Q := fun u => u.oneCell' = true) (fun j x c hx => Rp.one _ _ _ _ hx) _ _ _ hgl
      have hlapp : Lst (fun j x c => Rp w noC R 0 e x [j] c) 0 (xs ++ ys) (fl ++ gl) := Lst.append xs 0 fl ys gl hl (Lst.shift _ _ _ _ hgl)
      have hob : ∀ g, ownB cx = some g → ∃ i, C g = some (i, []) := by
        intro g hg
        cases ho : old with
        | none => rw [hnone ho] at hg; cases hg
        | some j => exact ⟨j, (hold j ho).2 g hg⟩
      have h63 : xs.length + ys.length ≤ maxLen := by
        have : (xs.length + ys.length) * 1 ≤ (xs.length + ys.length) * bytes := Nat.mul_le_mul_left _ hbp
        simp only [maxBytes] at hbytes
        omega
      have fin : ∀ cv w', (Builtin.append_ #[t, t] ty #[cx, cy]).run P w = .ok cv w' → Own w' e' size cv (xs.length + ys.length) (fl ++ gl) → w.grownBy w' (ownB cx) → (∀ g, ownB cv = some g → w.heap.size ≤ g ∨ ownB cx = some g) →
          ∃ cv w', (Builtin.append_ #[t, t] ty #[cx, cy]).run P w = .ok cv w' ∧ Left w0 L R0 ((n, .row e' e (xs ++ ys)) :: kill old S) R Al H w (n + 1) (.ref n) cv w' := by
        intro cv w' h1 h2 h3 h4
        have hR := grown_R hi h3 hob
        obtain ⟨C', Al', H', g1, g2, g3, g4⟩ := hi.newRow hn (w' := w') (t := e') (e := e) (xs := xs ++ ys) (v := cv) (fl := fl ++ gl) old (ownB cx) hold hnone h3 (by rw [hes]; simpa using h2) h4 (Lst.keep hR hro hlapp) hro
        exact ⟨cv, w', h1, C', Al', H', g1, g2, g3, g4⟩
      subst hm
      rcases hplace with ⟨rfl, hys0⟩ | hys0 | ⟨a, rfl, ha1, ha2, ha3⟩
      · subst hys0
        have hgl0 : gl = [] := hgl
        subst hgl0 hcy
        simp only [List.length_nil] at hmc ⊢
        refine fin cx w ?_ (by simpa using how) ⟨rfl, rfl, rfl, Nat.le_refl _, fun _ _ _ => rfl⟩ (fun g hg => .inr hg)
        rcases how.2 with ⟨A, rfl, hxl⟩ | ⟨g, cap, cur, rfl, _, _, hnc, _⟩
        · cases A <;> simp [storeCells, Builtin.append_, run_underlying hu, sizeOf, typeInfo, hin, Builtin.lenOf, Builtin.firstCells]
        · simp [Builtin.append_, run_underlying hu, sizeOf, typeInfo, hin, Builtin.lenOf, Builtin.firstCells, hnc, storeCells]
      · subst hys0
        have hgl0 : gl = [] := hgl
        subst hgl0 hcy
        simp only [List.length_nil]
        cases A with
        | none =>
          refine fin cx w ?_ (by simpa using how) ⟨rfl, rfl, rfl, Nat.le_refl _, fun _ _ _ => rfl⟩ (fun g hg => .inr hg)
          rcases how.2 with ⟨A, rfl, hxl⟩ | ⟨g, cap, cur, rfl, _, _, hnc, _⟩
          · cases A <;> simp [storeCells, Builtin.append_, run_underlying hu, sizeOf, typeInfo, hin, Builtin.lenOf, Builtin.firstCells]
          · simp [Builtin.append_, run_underlying hu, sizeOf, typeInfo, hin, Builtin.lenOf, Builtin.firstCells, hnc, storeCells]
        | some a =>
          obtain ⟨v', w', h1, h2, h3, h4⟩ := run_append_Own (P := P) (ty := ty) hu hin hz hsize hby hzs spos how a 0 c [] (by simp) (by simp) (by simp) (by simpa using h63) (by simpa [maxBytes] using hbytes)
          exact fin v' w' h1 (by simpa using h2) h3 h4
      · subst hcy
        obtain ⟨v', w', h1, h2, h3, h4⟩ := run_append_Own (P := P) (ty := ty) hu hin hz hsize hby hzs spos how a ys.length c gl hlen ha3 hone h63 (by simpa [maxBytes] using hbytes)
        exact fin v' w' h1 h2 h3 h4
    split at h
    · obtain ⟨hc, h'⟩ := chk_some h
      simp only [Bool.and_eq_true] at hc
      simp only [AV] at hx
      subst hx
      obtain ⟨cv, w', h1, h2⟩ := core none [] [] hc.1 (Own.nil _ _ _ none) rfl (by intro j hj; cases hj) (fun _ => rfl) (by simpa using Nat.le_of_ble_eq_true hc.2)
      exact ⟨_, _, _, cv, w', h', h1, h2⟩
    · obtain ⟨hc, h'⟩ := chk_some h
      simp only [Bool.and_eq_true] at hc
      simp only [AV] at hx
      obtain ⟨A, hx⟩ := hx
      subst hx
      obtain ⟨cv, w', h1, h2⟩ := core none [] [] hc.1 (Own.nil _ _ _ A) rfl (by intro j hj; cases hj) (fun _ => ownB_zero A 0) (by simpa using Nat.le_of_ble_eq_true hc.2)
      exact ⟨_, _, _, cv, w', h', h1, h2⟩
    · rename_i j
      split at h
      · rename_i t' e2 xs' hrow
        obtain ⟨hc, h'⟩ := chk_some h
        clear h
        simp only [Bool.and_eq_true] at hc
        have ht' := Nat.eq_of_beq_eq_true hc.2
        split at h'
        · rename_i xs hxs
          obtain ⟨hc2, h2⟩ := chk_some h'
          obtain ⟨he, hxs⟩ := castL_some hxs
          subst he
          simp only at hxs
          subst hxs ht'
          simp only [AV] at hx
          obtain ⟨hal, rfl⟩ := hx
          obtain ⟨_, fl, ho, hcg, hlst⟩ := row_ok hctx hrow
          obtain ⟨cv, w', h3, h4⟩ := core (some j) xs' fl hc.1 (by rw [← hes]; exact ho) (Lst.imp (fun j x c hx => Rp.ro (fun b hb => ⟨hb, rfl⟩) e2 hc.1 x _ _ c hx) _ _ _ hlst) (by
            intro i hi'
            simp only [Option.some.injEq] at hi'
            subst hi'
            exact ⟨hal, hcg⟩) (by intro h; cases h) (Nat.le_of_ble_eq_true hc2)
          exact ⟨_, _, _, cv, w', h2, h3, h4⟩
        · cases h'
      · cases h
    · cases h

end
end Go.Rv
namespace Go.Rv
section
variable {w0 w : World} {L : List Nat} {R0 : Nat → Prop} {S : Upd} {C : Col} {R Al : Nat → Prop} {H : Nat → Value} {P : Program}

theorem takeV_some {k : Kd} {v : AVal} {x : k.ty} {is : List (Option Nat)} (h : takeV S k v = some (x, is)) : takeCells S k (cellsV v) = some (x, [], is) ∧ k.agg = aggV v ∧ solid v = true := by
  unfold takeV at h
  split at h
  · rename_i y js hy
    cases hb : (k.agg == aggV v && solid v)
    · rw [hb] at h; cases h
    · rw [hb] at h
      simp only [cond_true, Option.some.injEq, Prod.mk.injEq] at h
      obtain ⟨rfl, rfl⟩ := h
      simp only [Bool.and_eq_true, beq_iff_eq] at hb
      exact ⟨hy, hb⟩
  · cases h

theorem takeV_ro (hx : Ctx w C R Al H S) {k : Kd} (hro : k.ro = true) {v : AVal} {x : k.ty} {is : List (Option Nat)} (h : takeV S k v = some (x, is)) {c : Value} (hv : AV w R Al H v c) : ∀ p, Rp w noC R 0 k x p c.cells.toList := by
  obtain ⟨h1, h2, h3⟩ := takeV_some h
  obtain ⟨cc, r, e1, e2, e3⟩ := takeCells_ro hx k hro _ _ _ _ h1 _ (solid_cells hv h3 (fun i hi => one_cells (hx.one i hi)))
  simp only [AVs] at e3
  subst e3
  rw [List.append_nil] at e1
  rw [e1]
  exact e2

/-- A slice literal's cells. -/
theorem buildL_ok {st : St} (hx : Ctx w C R Al H st.sto) {a : Act} (he : ∀ t, AV w R Al H (getE st.env t) (a.tmps.getD t undef)) {e : Kd} (hro : e.ro = true) (place : Nat → Option (Nat × Nat)) (hp : ∀ i, place i = some (i * e.size, e.size)) :
    ∀ (ps : List (Nat × Operand)) (b : Nat) (xs : List e.ty), buildL st e ps b = some xs → ∀ (cells : Array Value), (b + ps.length) * e.size ≤ cells.size →
      ∃ cells' fl, Instr.fill place cells (ps.map fun p => (p.1, a.eval p.2)) = some cells' ∧ Lst (fun j x c => Rp w noC R 0 e x [j] c) b xs fl ∧ xs.length = ps.length ∧
        cells'.toList = cells.toList.take (b * e.size) ++ fl ++ cells.toList.drop ((b + ps.length) * e.size)
  | [], b, xs, h, cells, hl => by
    simp only [buildL, Option.some.injEq] at h
    subst h
    exact ⟨cells, [], rfl, rfl, rfl, by simp⟩
  | p :: r, b, xs, h, cells, hl => by
    unfold buildL at h
    split at h
    · rename_i x is hb hv
      have hb := Nat.eq_of_beq_eq_true hb
      split at h
      · rename_i ys hys
        simp only [Option.some.injEq] at h
        subst h
        have hrp := takeV_ro hx hro hv (oper_ok he p.2)
        have hlen := Rp.length _ _ _ _ (hrp [])
        simp only [Array.length_toList] at hlen
        simp only [List.length_cons] at hl
        have hl1 : (b + 1) * e.size ≤ cells.size := Nat.le_trans (Nat.mul_le_mul_right _ (by omega)) hl
        have hfit : b * e.size + (a.eval p.2).cells.size ≤ cells.size := by rw [hlen]; rw [Nat.add_mul, Nat.one_mul] at hl1; exact hl1
        have harr := fold_set_arr (a.eval p.2).cells (b * e.size) cells hfit
        have hsz : ((a.eval p.2).cells.zipIdx.foldl (fun cs (p : Value × Nat) => cs.setIfInBounds (b * e.size + p.2) p.1) cells).size = cells.size := by
          have := congrArg List.length harr
          simp only [Array.length_toList, List.length_append, List.length_take, List.length_drop] at this
          omega
        obtain ⟨cells', fl, e1, e2, e3, e4⟩ := buildL_ok hx he hro place hp r (b + 1) ys hys _ (by rw [hsz]; rw [show b + 1 + r.length = b + (r.length + 1) from by omega]; exact hl)
        refine ⟨cells', (a.eval p.2).cells.toList ++ fl, ?_, ⟨_, fl, rfl, hrp _, e2⟩, by simp [e3], ?_⟩
        · simp only [List.map_cons, Instr.fill, hb, hp]
          rw [if_neg (by simp [hlen]; omega)]
          exact e1
        · rw [e4, harr]
          have hn1 : (b + 1) * e.size = b * e.size + (a.eval p.2).cells.size := by rw [hlen, Nat.add_mul, Nat.one_mul]
          have ll : (cells.toList.take (b * e.size) ++ (a.eval p.2).cells.toList).length = (b + 1) * e.size := by
            rw [hn1]; simp only [List.length_append, List.length_take, Array.length_toList]; omega
          rw [List.take_append_of_le_length (by omega), List.take_of_length_le (by omega)]
          rw [show (b + 1 + r.length) * e.size = (cells.toList.take (b * e.size) ++ (a.eval p.2).cells.toList).length + r.length * e.size from by rw [ll, ← Nat.add_mul]]
          rw [← List.drop_drop, List.drop_left, List.drop_drop]
          simp only [List.append_assoc]
          congr 3
          rw [← hn1, ← Nat.add_mul]
          simp only [List.length_cons]
          congr 2
          omega
      · cases h
    · cases h

/-- A slice literal: its cells, in new memory. -/
theorem buildSlice_run {st : St} (hx : Ctx w C R Al H st.sto) {a : Act} (he : ∀ t, AV w R Al H (getE st.env t) (a.tmps.getD t undef)) {t e' : TypeId} {inf : TypeInfo} {z : Value} {e : Kd}
    (hu : P.underlying t = some (.slice e')) (hin : P.info? e' = some inf) (hz : inf.zero = some z) (hes : e.size = inf.size) (hro : e.ro = true) {ps : Array (Nat × Operand)} {xs : List e.ty} {n : Nat} (hb : buildL st e ps.toList 0 = some xs) (hl : xs.length = n) (hsm : n * inf.size ≤ 16777216) :
    ∃ cells fl, (Instr.buildSlice t n (ps.map fun (i, x) => (i, a.eval x))).run P w = .ok (.slice (some ⟨w.heap.size, 0, none⟩) n n) (w.alloc (.cells cells e')) ∧ cells.toList = fl ∧ Lst (fun j x c => Rp w noC R 0 e x [j] c) 0 xs fl := by
  have hpl : (ps.map fun (x : Nat × Operand) => match x with | (i, x) => (i, a.eval x)).toList = ps.toList.map fun p => (p.1, a.eval p.2) := by simp
  by_cases h0 : n = 0
  · subst h0
    have hxs : xs = [] := List.eq_nil_of_length_eq_zero hl
    subst hxs
    have hps : ps.toList = [] := by
      cases hq : ps.toList with
      | nil => rfl
      | cons p r =>
        exfalso
        rw [hq] at hb
        unfold buildL at hb
        split at hb
        · split at hb
          · simp at hb
          · cases hb
        · cases hb
    have hps' : ps = #[] := by apply Array.ext'; simpa using hps
    subst hps'
    refine ⟨#[], [], ?_, rfl, rfl⟩
    simp [Instr.buildSlice, run_underlying hu, sizeOf, typeInfo, hin, Instr.fill, newRow]
    congr 2
    first | rfl | (apply Array.ext'; simp)
  · have hpos : 0 < inf.size := by rw [← hes]; exact e.size_pos
    have hnn : 0 < n * inf.size := Nat.mul_pos (by omega) hpos
    have hlp : ps.toList.length = n := by
      have : ∀ (l : List (Nat × Operand)) (b : Nat) (ys : List e.ty), buildL st e l b = some ys → ys.length = l.length := by
        intro l
        induction l with
        | nil => intro b ys h; simp only [buildL, Option.some.injEq] at h; subst h; rfl
        | cons p r ih =>
          intro b ys h
          unfold buildL at h
          split at h
          · split at h
            · rename_i zs hz
              simp only [Option.some.injEq] at h
              subst h
              simp [ih _ _ hz]
            · cases h
          · cases h
      rw [← this _ _ _ hb, hl]
    obtain ⟨cells', fl, e1, e2, e3, e4⟩ := buildL_ok hx he hro (fun i => some (i * inf.size, inf.size)) (fun i => by rw [hes]) ps.toList 0 xs hb ((Array.range (n * inf.size)).map (z.cells[· % z.cells.size]!)) (by rw [hes, Nat.zero_add, hlp]; simp)
    refine ⟨cells', fl, run_buildSlice w t e' n _ cells' inf z hu hin hz (by omega) (by omega) (by rw [hpl]; exact e1), ?_, e2⟩
    rw [e4, hes, Nat.zero_mul, Nat.zero_add, hlp]
    rw [List.drop_eq_nil_of_le (by simp)]
    simp

theorem buildSlice_ok {st : St} (hi : Inv w0 L R0 st.sto w C R Al H) {n0 : Nat} (hn : ∀ i, Al i → i < n0) {a : Act} (he : ∀ t, AV w R Al H (getE st.env t) (a.tmps.getD t undef)) {t e' : TypeId} {inf : TypeInfo} {z : Value} {e : Kd}
    (hu : P.underlying t = some (.slice e')) (hin : P.info? e' = some inf) (hz : inf.zero = some z) (hes : e.size = inf.size) (hro : e.ro = true) {ps : Array (Nat × Operand)} {xs : List e.ty} {n : Nat} (hb : buildL st e ps.toList 0 = some xs) (hl : xs.length = n) (hsm : n * inf.size ≤ 16777216) :
    ∃ cv w', (Instr.buildSlice t n (ps.map fun (i, x) => (i, a.eval x))).run P w = .ok cv w' ∧ Left w0 L R0 ((n0, .row e' e xs) :: st.sto) R Al H w (n0 + 1) (.ref n0) cv w' ∧ Later w w' := by
  have hx := hi.ctx
  have hlat : ∀ o, Later w (w.alloc o) := fun o => ⟨rfl, rfl, rfl, by simp, fun b hb => heap_alloc_old w _ b hb⟩
  have fin : ∀ (cells : Array Value) (fl : List Value), cells.toList = fl → Lst (fun j x c => Rp w noC R 0 e x [j] c) 0 xs fl →
      Left w0 L R0 ((n0, .row e' e xs) :: st.sto) R Al H w (n0 + 1) (.ref n0) (.slice (some ⟨w.heap.size, 0, none⟩) n n) (w.alloc (.cells cells e')) := by
    intro cells fl hc hlst
    have hfl : fl.length = n * e.size := by rw [← hl]; exact Lst.length (fun j x c hx => Rp.length _ _ _ _ hx) _ _ _ hlst
    have hcs : cells.size = n * e.size := by rw [← hfl, ← hc]; simp
    have hm : n ≤ maxLen := by
      have : n * 1 ≤ n * inf.size := Nat.mul_le_mul_left _ (by rw [← hes]; exact e.size_pos)
      have hmx : maxLen = 9223372036854775807 := rfl
      omega
    have how := World.ownsRow_lit (base := 0) (e := e') (size := e.size) w cells n (Nat.zero_le _) hm hcs
    rw [hc] at how
    have hR : ∀ b, R b → R b ∧ (w.alloc (.cells cells e')).heap[b]? = w.heap[b]? := fun b hb => ⟨hb, heap_alloc_old w _ b (hi.rd b hb).1⟩
    obtain ⟨C', Al', H', g1, g2, g3, g4⟩ := hi.newRow hn (w' := w.alloc (.cells cells e')) (t := e') (e := e) (xs := xs) (v := .slice (some ⟨w.heap.size, 0, none⟩) n n) (fl := fl) none none (by intro i h; cases h) (fun _ => rfl) (World.grownBy_alloc w _ none)
      (by rw [hl]; exact Own.of how) (fun g hg => by have hg := ownB_block hg; simp only [Value.ownBlock, Option.some.injEq] at hg; exact .inl (by omega)) (Lst.keep hR hro hlst) hro
    exact ⟨C', Al', H', g1, g2, g3, g4⟩
  obtain ⟨cells, fl, h1, h2, h3⟩ := buildSlice_run (P := P) hx he hu hin hz hes hro hb hl hsm
  exact ⟨_, _, h1, fin cells fl h2 h3, hlat _⟩

theorem madeCells_flat (z : List Value) (n : Nat) (hz : 0 < z.length) : (madeCells z.toArray (n * z.length)).toList = (List.replicate n z).flatten := by
  apply List.ext_getElem?
  intro j
  have hfl : ∀ n j, (List.replicate n z).flatten[j]? = if j < n * z.length then z[j % z.length]? else none := by
    intro n
    induction n with
    | zero => intro j; simp
    | succ n ih =>
      intro j
      rw [List.replicate_succ, List.flatten_cons]
      by_cases hj : j < z.length
      · rw [List.getElem?_append_left hj, Nat.mod_eq_of_lt hj, if_pos (by rw [Nat.add_mul]; omega)]
      · rw [List.getElem?_append_right (by omega), ih]
        have : (j - z.length) % z.length = j % z.length := by rw [← Nat.mod_eq_sub_mod (by omega)]
        rw [this]
        by_cases hk : j - z.length < n * z.length
        · rw [if_pos hk, if_pos (by rw [Nat.add_mul]; omega)]
        · rw [if_neg hk, if_neg (by rw [Nat.add_mul]; omega)]
  rw [hfl]
  by_cases hj : j < n * z.length
  · have hm : j % z.length < z.length := Nat.mod_lt _ hz
    simp [madeCells, hj, hm]
  · simp [madeCells, hj]

theorem Lst.replicate {e : Kd} {x : e.ty} {c : List Value} (h : ∀ p, Rp w noC R 0 e x p c) : ∀ (n b : Nat), Lst (fun j x c => Rp w noC R 0 e x [j] c) b (List.replicate n x) (List.replicate n c).flatten
  | 0, _ => rfl
  | n + 1, b => ⟨c, (List.replicate n c).flatten, by simp [List.replicate_succ], h _, Lst.replicate h n (b + 1)⟩

theorem makeSlice_ok (hi : Inv w0 L R0 S w C R Al H) {n0 : Nat} (hn : ∀ i, Al i → i < n0) {t e' : TypeId} {inf : TypeInfo} {z : Value} {e : Kd} (hu : P.underlying t = some (.slice e')) (hin : P.info? e' = some inf) (hz : inf.zero = some z) (hes : e.size = inf.size) (hro : e.ro = true)
    {x : e.ty} {zs : List AVal} {is : List (Option Nat)} (hzs : AVs w R Al H zs z.cells.toList) (htk : takeCells [] e zs = some (x, [], is)) (hbp : 0 < inf.bytes) (kl kc : IntKind) (n : Nat) (hbytes : inf.bytes * n ≤ maxBytes) :
    ∃ cv w', (Instr.makeSlice t (.int kl (n : Int)) (.int kc (n : Int))).run P w = .ok cv w' ∧ Left w0 L R0 ((n0, .row e' e (List.replicate n x)) :: S) R Al H w (n0 + 1) (.ref n0) cv w' ∧ Later w w' := by
  have hx0 : Ctx w C R Al H ([] : Upd) := ⟨fun i => trivial, hi.ctx.colt, hi.ctx.rdt, fun i h => absurd rfl h, hi.one⟩
  obtain ⟨c, r, e1, e2, e3⟩ := takeCells_ro hx0 e hro _ _ _ _ htk _ hzs
  simp only [AVs] at e3
  subst e3
  rw [List.append_nil] at e1
  have hmx : maxLen = 9223372036854775807 := rfl
  have h63 : n ≤ maxLen := by
    have : 1 * n ≤ inf.bytes * n := Nat.mul_le_mul_right _ hbp
    simp only [maxBytes] at hbytes
    omega
  obtain ⟨w', h1, h2, h3⟩ := run_make_full (P := P) w 0 t e' inf z inf.size hu hin hz rfl kl kc n (by simp only [maxBytes] at hbytes; omega) h63 (Nat.zero_le _)
  have hcl : c.length = e.size := Rp.length _ _ _ _ (e2 [])
  have hzl : z.cells.toList.length = inf.size := by rw [e1, hcl, hes]
  have hmade : (madeCells z.cells (n * inf.size)).toList = (List.replicate n c).flatten := by
    have := madeCells_flat z.cells.toList n (by rw [hzl, ← hes]; exact e.size_pos)
    rw [hzl] at this
    rw [e1] at this
    have hza : z.cells = c.toArray := by apply Array.ext'; simpa using e1
    rw [hza]
    exact this
  rw [hmade] at h2
  have hR : ∀ b, R b → R b ∧ w'.heap[b]? = w.heap[b]? := fun b hb => ⟨hb, h3.block b (hi.rd b hb).1 (by simp)⟩
  obtain ⟨C', Al', H', g1, g2, g3, g4⟩ := hi.newRow hn (w' := w') (t := e') (e := e) (xs := List.replicate n x) (v := .slice (some ⟨w.heap.size, 0, none⟩) n n) (fl := (List.replicate n c).flatten) none none (by intro i h; cases h) (fun _ => rfl) h3
    (by rw [List.length_replicate, hes]; exact Own.of h2) (fun g hg => by have hg := ownB_block hg; simp only [Value.ownBlock, Option.some.injEq] at hg; exact .inl (by omega)) (Lst.keep hR hro (Lst.replicate e2 n 0)) hro
  exact ⟨_, w', h1, ⟨C', Al', H', g1, g2, g3, g4⟩, h3.os, h3.tape, h3.output, h3.size, fun b hb => h3.block b hb (by simp)⟩
end
end Go.Rv
