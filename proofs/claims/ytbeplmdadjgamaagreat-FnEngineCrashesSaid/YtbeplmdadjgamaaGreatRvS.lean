/- Sorting a row that is lent. No condition. -/
import Derived.Test.YtbeplmdadjgamaaGreatRvL
namespace Go.Rv
def SRow (t : Nat) (e : Kd) (g : Nat) (run : List e.ty → Option (List e.ty)) : FSpec := ⟨[.row t e, .fn g], [], fun x => run x.1⟩

def TurnsRow (w : World) (b t s n : Nat) (cap : Nat) (fl : List Value) (w' : World) : Prop :=
  w'.os = w.os ∧ w'.tape = w.tape ∧ w'.output = w.output ∧ w.heap.size ≤ w'.heap.size ∧ (∀ b', b' < w.heap.size → b' ≠ b → w'.heap[b']? = w.heap[b']?) ∧
  ∃ cur, w'.heap[b]? = some (.cells cur t (0, 0)) ∧ cur.size = cap * s ∧ cur.toList.take (n * s) = fl

theorem lst_enc {e : Kd} {enc : e.ty → List Value} {f : Nat → e.ty → List Value → Prop} (h : ∀ j x c, f j x c ↔ c = enc x) : ∀ (xs : List e.ty) (j : Nat) (fl : List Value), Lst f j xs fl ↔ fl = (xs.map enc).flatten
  | [], j, fl => by simp [Lst]
  | x :: xs, j, fl => by
    simp only [Lst, List.map_cons, List.flatten_cons]
    constructor
    · rintro ⟨c, r, rfl, h1, h2⟩
      rw [(h _ _ _).1 h1, (lst_enc h xs (j + 1) r).1 h2]
    · rintro rfl
      exact ⟨_, _, rfl, (h _ _ _).2 rfl, (lst_enc h xs (j + 1) _).2 rfl⟩

theorem sound_row {P : Program} {f g t : Nat} {e : Kd} {run : List e.ty → Option (List e.ty)} (hro : e.ro = true) {enc : e.ty → List Value} (henc : ∀ (w : World) (C : Col) (R : Nat → Prop) (i : Nat) (x : e.ty) (p : List Nat) (c : List Value), Rp w C R i e x p c ↔ c = enc x)
    (h0 : ∀ (A : Option Addr) (w : World) (ys : List e.ty), run [] = some ys → ys = [] ∧ Calls P f #[.slice A 0 0, .func (.func g) #[] #[]] w fun en w' => en = .returned (.tuple #[]) ∧ w' = w)
    (h1 : ∀ (w : World) (b cap : Nat) (cur : Array Value) (xs ys : List e.ty), 0 < cap → xs.length ≤ cap → cap ≤ maxLen → w.heap[b]? = some (.cells cur t (0, 0)) → cur.size = cap * e.size → cur.toList.take (xs.length * e.size) = (xs.map enc).flatten → run xs = some ys →
      ys.length = xs.length ∧ Calls P f #[.slice (some ⟨b, 0, none⟩) xs.length cap, .func (.func g) #[] #[]] w fun en w' => en = .returned (.tuple #[]) ∧ TurnsRow w b t e.size xs.length cap (ys.map enc).flatten w') : Sound P f (SRow t e g run) := by
  intro w R vs x D hs hargs hR hD r hr
  obtain ⟨xs, bb⟩ := x
  obtain ⟨v, vs', hs1, hs2, rfl, rfl, ⟨rfl, hrp⟩, v2, rfl, rfl, _, rfl⟩ := hargs
  have hrp : Rp w D R 0 (.sl (some t) e) xs [] [v] := hrp
  have hr : run xs = some r := hr
  obtain ⟨v', fl, hv, ho, hcg, hlst⟩ := hrp
  simp only [List.cons.injEq, and_true] at hv
  subst hv
  have hfl := (lst_enc (fun j x c => henc w D R 0 x [j] c) xs 0 fl).1 hlst
  have hone : v.oneCell' = true := by
    rcases ho.2 with ⟨A, rfl, _⟩ | ⟨b, cap, cur, rfl, _⟩ <;> rfl
  have hD0 : ∀ b q p, D b = some (q, p) → q = 0 := fun b q p h => by have := (hD b q p h).2; simp at this; omega
  have hi : Inv w ⟨D, [v]⟩ R [(0, .row t e xs)] w D R (fun i => i = 0) (fun _ => v) := by
    refine ⟨rfl, rfl, rfl, Nat.le_refl _, fun _ _ _ => rfl, fun b i p hb => ⟨hD0 b i p hb, (hD b i p hb).1, .inr ⟨i, p, hb⟩⟩, fun b hb => ⟨(hR b hb).1, (hR b hb).2, .inr (.inl hb)⟩, fun _ h => h, fun i => ?_, fun i hi => ?_, fun i _ => hone, fun q u hq => ?_⟩
    · by_cases h : i = 0
      · subst h
        rw [getS_cons_self]
        exact ⟨v, fl, rfl, ho, hcg, hlst⟩
      · rw [getS_cons_ne _ _ h]; trivial
    · by_cases h : i = 0
      · exact h
      · rw [getS_cons_ne _ _ h] at hi; exact absurd rfl hi
    · cases q with
      | zero => simp at hq; exact ⟨rfl, hq⟩
      | succ q => simp at hq
  have fin : ∀ w', Inv w ⟨D, [v]⟩ R [(0, .row t e r)] w' D R (fun i => i = 0) (fun _ => v) → ResOK w w' R D [v] (SRow t e g run) r (.tuple #[]) := by
    intro w' hi'
    have hend : endVs (⟨[], [(0, .row t e r)], 1, 0⟩ : St) (SRow t e g run).rs (hands (SRow t e g run).ps) [] = some (r, []) := by
      show endBoxes _ [.row t e] 0 = some (r, [])
      simp [endBoxes, endBox, getS, castL, hro]
      rfl
    exact endOK (F := SRow t e g run) hi' (vs := []) (cvs := []) (by simp [AVs]) hend rfl (fun i _ => by simp) rfl
  rcases ho.2 with ⟨A, rfl, hn⟩ | ⟨b, cap, cur, rfl, hb, hg, hnc, hcm, hcs, htk⟩
  · have hxs : xs = [] := List.length_eq_zero_iff.1 hn
    subst hxs
    obtain ⟨hys, hc⟩ := h0 A w r hr
    subst hys
    refine hc.mono ?_
    rintro en w' ⟨rfl, rfl⟩
    exact ⟨_, rfl, fin _ hi⟩
  · obtain ⟨hl, hc⟩ := h1 w b cap cur xs r hb hnc hcm hg hcs (by rw [htk, hfl]) hr
    refine hc.mono ?_
    rintro en w' ⟨rfl, q1, q2, q3, q4, q5, cur', q6, q7, q8⟩
    refine ⟨_, rfl, fin _ ?_⟩
    have hDb : D b = some (0, []) := hcg b (ownB_of hb)
    refine (hi.upd (w' := w') (S' := [(0, .row t e r)]) (C' := D) (Al' := fun i => i = 0) (H' := fun _ => .slice (some ⟨b, 0, none⟩) xs.length cap) (fun i => i = 0) (fun b' => b' = b) q1 q2 q3 q4 (fun b' hb' hn => q5 b' hb' hn) (fun b' hb' => ⟨0, [], by rw [hb']; exact hDb, rfl⟩) (fun _ _ _ _ => Iff.rfl)
      (fun b' i p hk hb' => ⟨hk, Nat.lt_of_lt_of_le (hD b' i p hb').1 q4, .inr ⟨i, p, hb'⟩, fun hr' => by have := (hR b' hr').2; rw [hb'] at this; cases this⟩) (fun i hi => ⟨hi, rfl⟩) (fun i hi hn => absurd hi hn) (fun i hi => by rw [getS_cons_ne _ _ hi, getS_cons_ne _ _ hi]) (fun i hi => ?_) (fun i hi => hi)).1
    subst hi
    rw [getS_cons_self]
    refine ⟨_, (r.map enc).flatten, rfl, ⟨?_, .inr ⟨b, cap, cur', by rw [hl], hb, q6, by rw [hl]; exact hnc, hcm, q7, by rw [hl]; exact q8⟩⟩, fun b' hb' => ?_, (lst_enc (fun j x c => henc w' D R 0 x [j] c) r 0 _).2 rfl⟩
    · have := Lst.length (s := e.size) (fun j x c h => Rp.length _ _ _ _ h) r 0 _ ((lst_enc (fun j x c => henc w' D R 0 x [j] c) r 0 _).2 rfl)
      exact this
    · rw [ownB_of hb] at hb'
      cases hb'
      exact hDb
def SRow1 (t : Nat) (e : Kd) (run : List e.ty → Option (List e.ty)) : FSpec := ⟨[.row t e], [], fun x => run x⟩
theorem sound_row1 {P : Program} {f t : Nat} {e : Kd} {run : List e.ty → Option (List e.ty)} (hro : e.ro = true) {enc : e.ty → List Value} (henc : ∀ (w : World) (C : Col) (R : Nat → Prop) (i : Nat) (x : e.ty) (p : List Nat) (c : List Value), Rp w C R i e x p c ↔ c = enc x)
    (h0 : ∀ (A : Option Addr) (w : World) (ys : List e.ty), run [] = some ys → ys = [] ∧ Calls P f #[.slice A 0 0] w fun en w' => en = .returned (.tuple #[]) ∧ w' = w)
    (h1 : ∀ (w : World) (b cap : Nat) (cur : Array Value) (xs ys : List e.ty), 0 < cap → xs.length ≤ cap → cap ≤ maxLen → w.heap[b]? = some (.cells cur t (0, 0)) → cur.size = cap * e.size → cur.toList.take (xs.length * e.size) = (xs.map enc).flatten → run xs = some ys →
      ys.length = xs.length ∧ Calls P f #[.slice (some ⟨b, 0, none⟩) xs.length cap] w fun en w' => en = .returned (.tuple #[]) ∧ TurnsRow w b t e.size xs.length cap (ys.map enc).flatten w') : Sound P f (SRow1 t e run) := by
  intro w R vs xs D hs hargs hR hD r hr
  obtain ⟨v, rfl, rfl, hrp⟩ := hargs
  have hrp : Rp w D R 0 (.sl (some t) e) xs [] [v] := hrp
  have hr : run xs = some r := hr
  obtain ⟨v', fl, hv, ho, hcg, hlst⟩ := hrp
  simp only [List.cons.injEq, and_true] at hv
  subst hv
  have hfl := (lst_enc (fun j x c => henc w D R 0 x [j] c) xs 0 fl).1 hlst
  have hone : v.oneCell' = true := by
    rcases ho.2 with ⟨A, rfl, _⟩ | ⟨b, cap, cur, rfl, _⟩ <;> rfl
  have hD0 : ∀ b q p, D b = some (q, p) → q = 0 := fun b q p h => by have := (hD b q p h).2; simp at this; omega
  have hi : Inv w ⟨D, [v]⟩ R [(0, .row t e xs)] w D R (fun i => i = 0) (fun _ => v) := by
    refine ⟨rfl, rfl, rfl, Nat.le_refl _, fun _ _ _ => rfl, fun b i p hb => ⟨hD0 b i p hb, (hD b i p hb).1, .inr ⟨i, p, hb⟩⟩, fun b hb => ⟨(hR b hb).1, (hR b hb).2, .inr (.inl hb)⟩, fun _ h => h, fun i => ?_, fun i hi => ?_, fun i _ => hone, fun q u hq => ?_⟩
    · by_cases h : i = 0
      · subst h
        rw [getS_cons_self]
        exact ⟨v, fl, rfl, ho, hcg, hlst⟩
      · rw [getS_cons_ne _ _ h]; trivial
    · by_cases h : i = 0
      · exact h
      · rw [getS_cons_ne _ _ h] at hi; exact absurd rfl hi
    · cases q with
      | zero => simp at hq; exact ⟨rfl, hq⟩
      | succ q => simp at hq
  have fin : ∀ w', Inv w ⟨D, [v]⟩ R [(0, .row t e r)] w' D R (fun i => i = 0) (fun _ => v) → ResOK w w' R D [v] (SRow1 t e run) r (.tuple #[]) := by
    intro w' hi'
    have hend : endVs (⟨[], [(0, .row t e r)], 1, 0⟩ : St) (SRow1 t e run).rs (hands (SRow1 t e run).ps) [] = some (r, []) := by
      show endBoxes _ [.row t e] 0 = some (r, [])
      simp [endBoxes, endBox, getS, castL, hro]
      rfl
    exact endOK (F := SRow1 t e run) hi' (vs := []) (cvs := []) (by simp [AVs]) hend rfl (fun i _ => by simp) rfl
  rcases ho.2 with ⟨A, rfl, hn⟩ | ⟨b, cap, cur, rfl, hb, hg, hnc, hcm, hcs, htk⟩
  · have hxs : xs = [] := List.length_eq_zero_iff.1 hn
    subst hxs
    obtain ⟨hys, hc⟩ := h0 A w r hr
    subst hys
    refine hc.mono ?_
    rintro en w' ⟨rfl, rfl⟩
    exact ⟨_, rfl, fin _ hi⟩
  · obtain ⟨hl, hc⟩ := h1 w b cap cur xs r hb hnc hcm hg hcs (by rw [htk, hfl]) hr
    refine hc.mono ?_
    rintro en w' ⟨rfl, q1, q2, q3, q4, q5, cur', q6, q7, q8⟩
    refine ⟨_, rfl, fin _ ?_⟩
    have hDb : D b = some (0, []) := hcg b (ownB_of hb)
    refine (hi.upd (w' := w') (S' := [(0, .row t e r)]) (C' := D) (Al' := fun i => i = 0) (H' := fun _ => .slice (some ⟨b, 0, none⟩) xs.length cap) (fun i => i = 0) (fun b' => b' = b) q1 q2 q3 q4 (fun b' hb' hn => q5 b' hb' hn) (fun b' hb' => ⟨0, [], by rw [hb']; exact hDb, rfl⟩) (fun _ _ _ _ => Iff.rfl)
      (fun b' i p hk hb' => ⟨hk, Nat.lt_of_lt_of_le (hD b' i p hb').1 q4, .inr ⟨i, p, hb'⟩, fun hr' => by have := (hR b' hr').2; rw [hb'] at this; cases this⟩) (fun i hi => ⟨hi, rfl⟩) (fun i hi hn => absurd hi hn) (fun i hi => by rw [getS_cons_ne _ _ hi, getS_cons_ne _ _ hi]) (fun i hi => ?_) (fun i hi => hi)).1
    subst hi
    rw [getS_cons_self]
    refine ⟨_, (r.map enc).flatten, rfl, ⟨?_, .inr ⟨b, cap, cur', by rw [hl], hb, q6, by rw [hl]; exact hnc, hcm, q7, by rw [hl]; exact q8⟩⟩, fun b' hb' => ?_, (lst_enc (fun j x c => henc w' D R 0 x [j] c) r 0 _).2 rfl⟩
    · have := Lst.length (s := e.size) (fun j x c h => Rp.length _ _ _ _ h) r 0 _ ((lst_enc (fun j x c => henc w' D R 0 x [j] c) r 0 _).2 rfl)
      exact this
    · rw [ownB_of hb] at hb'
      cases hb'
      exact hDb
end Go.Rv
