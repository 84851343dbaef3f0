/- Putting an element into a row of ours. No condition. -/
import Derived.Test.YtbeplmdadjgamaaGreatRvL
import Derived.Lib.AppendZerosOnto
import Derived.Shelf.Spec.SlicesInsertGrow
import Derived.Test.YtbeplmdadjgamaaGreatRvC5
namespace Go.Rv
open Go.Proofs Go.Shelf Go.RowKit Go.Lib
/-! slices.Insert: what its operations do to rows of wide elements. -/
variable {P : Program}

/-- copy into a row. -/
theorem run_copy_rowK (w : World) (dT sT ty elem : TypeId) (g o dLen dCap : Nat) (a : Addr) (sLen sCap : Nat) (cur : Array Value) (t : TypeId) (cs : List Value) (K : Nat)
    (hu : P.underlying dT = some (.slice elem)) (hs : (P.info? elem).map (·.size) = some K)
    (hg : w.heap[g]? = some (.cells cur t (0, 0))) (hn : cs.length = Nat.min sLen dLen * K)
    (hsrc : ∀ j v, cs[j]? = some v → w.cell? (a.add j) = some v) (hfit : o + cs.length ≤ cur.size) (h1 : ∀ v ∈ cs, v.oneCell' = true) :
    (Builtin.copy_ #[dT, sT] ty #[.slice (some ⟨g, o, none⟩) dLen dCap, .slice (some a) sLen sCap]).run P w =
      .ok (goInt (Nat.min sLen dLen)) (w.setRow g (cur.toList.take o ++ cs ++ cur.toList.drop (o + cs.length)).toArray) := by
  have hl := run_loadCells_list (P := P) w a cs hsrc
  have hst := run_storeCells_at P g o t cs 0 cur w hg (by simpa using hfit) h1
  cases hq : P.info? elem with
  | none => simp [hq] at hs
  | some i =>
    have hi : i.size = K := by simpa [hq] using hs
    simp [Builtin.copy_, run_underlying hu, Builtin.lenOf, Builtin.firstCells, sizeOf, typeInfo, hq, hi, ← hn, hl, hst]

theorem size_zeroCells (zc : Array Value) (n : Nat) : (Builtin.zeroCells zc n).size = n * zc.size := by
  simp [Builtin.zeroCells]
theorem heap_setRow_push {w W : World} {c c' : Array Value} {t : TypeId} (h : W.heap = w.heap.push (.cells c t (0, 0))) : (W.setRow w.heap.size c').heap = w.heap.push (.cells c' t (0, 0)) := by
  have : (W.setRow w.heap.size c').heap = (w.heap.push (.cells c t (0, 0))).modify w.heap.size (fun | .cells _ e f => .cells c' e f | o => o) := by rw [← h]; rfl
  rw [this]
  apply Array.ext
  · simp
  · intro k h1 h2
    simp only [Array.getElem_modify, Array.getElem_push]
    by_cases hk : k < w.heap.size
    · simp [hk, show ¬ w.heap.size = k by omega]
    · have : k = w.heap.size := by simp at h2; omega
      subst this; simp
theorem set_row_some {w : World} {b : Nat} {cur c' : Array Value} {t : TypeId} (h : w.heap[b]? = some (.cells cur t (0, 0))) : (w.setRow b c').heap[b]? = some (.cells c' t (0, 0)) := setRow_heap w b cur c' t (0, 0) h

/-- What stands in a row when an element was put in. -/
def insC (K i : Nat) (fl vl : List Value) : List Value := fl.take (i * K) ++ vl ++ fl.drop (i * K)

/-- slices.Insert(xs, i, v), v one element; rows of our own in, a row of our own out. -/
def insRun {α : Type} (by_ : Nat) (x : List α × Int × List α) : Option (List α) :=
  cond (decide (0 ≤ x.2.1) && decide (x.2.1 ≤ (x.1.length : Int)) && Nat.beq x.2.2.length 1 && Nat.ble ((x.1.length + 1) * by_) 140737488355328) (some (x.1.take x.2.1.toNat ++ x.2.2 ++ x.1.drop x.2.1.toNat)) none
def SIns (t : Nat) (e : Kd) (by_ : Nat) : FSpec := ⟨[.own t e, .val (.int .i64), .own t e], [.sl (some t) e], fun x => (insRun by_ x).map fun y => (y, (true, true))⟩

/-- What the walk of slices.Insert says. -/
def InsWalk (P : Program) (f t s by_ : Nat) : Prop :=
  ∀ (w : World) (v0 v1 : Value) (n i : Nat) (fl vl : List Value), Own w t s v0 n fl → Own w t s v1 1 vl → i ≤ n → (n + 1) * by_ ≤ 140737488355328 → (∀ u ∈ fl, u.oneCell' = true) → (∀ u ∈ vl, u.oneCell' = true) → (∀ g, ownB v0 = some g → ownB v1 ≠ some g) →
    Calls P f #[v0, .int .i64 i, v1] w fun en w' => ∃ v', en = .returned v' ∧ Own w' t s v' (n + 1) (insC s i fl vl) ∧ w.grownBy w' (ownB v0) ∧ ∀ g, ownB v' = some g → w.heap.size ≤ g ∨ ownB v0 = some g

theorem Lst.lift {α : Type} {f : Nat → α → List Value → Prop} {g : Nat → α → List Value → Prop} (d : Nat → Nat) (hd : ∀ j, d (j + 1) = d j + 1) (h : ∀ j x c, f j x c → g (d j) x c) : ∀ (xs : List α) (j : Nat) (fl : List Value), Lst f j xs fl → Lst g (d j) xs fl
  | [], _, _, hl => hl
  | _ :: xs, j, _, ⟨c, r, he, hf, hr⟩ => ⟨c, r, he, h _ _ _ hf, by rw [← hd]; exact Lst.lift d hd h xs (j + 1) r hr⟩

theorem Lst.drop {α : Type} {f : Nat → α → List Value → Prop} {s : Nat} (h : ∀ j x c, f j x c → c.length = s) : ∀ (xs : List α) (b : Nat) (fl : List Value), Lst f b xs fl → ∀ n : Nat, Lst f (b + n) (xs.drop n) (fl.drop (n * s))
  | [], b, fl, hl, n => by rw [show fl = [] from hl]; simp [Lst]
  | x :: xs, b, fl, hl, 0 => by simpa using hl
  | x :: xs, b, fl, ⟨c, r, he, hf, hr⟩, n + 1 => by
    subst he
    have := Lst.drop h xs (b + 1) r hr n
    rw [show b + 1 + n = b + (n + 1) from by omega] at this
    have hl := h _ _ _ hf
    have e1 : (c ++ r).drop ((n + 1) * s) = r.drop (n * s) := by
      rw [show (n + 1) * s = c.length + n * s from by rw [Nat.add_mul]; omega, ← List.drop_drop, List.drop_left]
    rw [e1]; exact this

/-- Elements of rows that were handed over, put together anew in one row of ours. -/
theorem move_inv {w w' : World} {D : Col} {R : Nat → Prop} {hs : List Value} (hR : ∀ b, R b → b < w.heap.size ∧ D b = none) (hD : ∀ b q p, D b = some (q, p) → b < w.heap.size ∧ q < hs.length) (hone : ∀ u ∈ hs, u.oneCell' = true)
    (hl0 : 0 < hs.length) {v0 v : Value} (hv0 : ∀ g, ownB v0 = some g → D g = some (0, [])) {t : Nat} {e : Kd} {zs : List e.ty} {fl : List Value} (hg : w.grownBy w' (ownB v0)) (how : Own w' t e.size v zs.length fl)
    (hblk : ∀ g, ownB v = some g → w.heap.size ≤ g ∨ ownB v0 = some g) (φ : Nat → Nat → Nat) (hl : Lst (fun j x c => ∃ q j', q < hs.length ∧ j = φ q j' ∧ Rp w D R q e x [j'] c) 0 zs fl) :
    ∃ S' C' R' Al' H', Inv w ⟨D, hs⟩ R S' w' C' R' Al' H' ∧ AV w' R' Al' H' (.ref hs.length) v ∧ (S' = match e.ro with | true => [(hs.length, .row t e zs), (0, .dead)] | false => (hs.length, .nrow t e (hs.length + 1) zs) :: (hs.length + 1, .ver) :: ((List.range hs.length).map fun i => (i, .dead))) := by
  let Al0 : Nat → Prop := fun i => i < hs.length
  let H0 : Nat → Value := fun i => hs.getD i (.slice none 0 0)
  have hi : Inv w ⟨D, hs⟩ R [] w D R Al0 H0 := by
    refine ⟨rfl, rfl, rfl, Nat.le_refl _, fun _ _ _ => rfl, fun b i p hb => ⟨(hD b i p hb).2, (hD b i p hb).1, .inr ⟨i, p, hb⟩⟩, fun b hb => ⟨(hR b hb).1, (hR b hb).2, .inr (.inl hb)⟩, fun _ h => h, fun i => trivial, fun i hi => absurd rfl hi, fun i hi => ?_, fun q u hq => ⟨(List.getElem?_eq_some_iff.1 hq).1, by simp only [H0, List.getD]; rw [hq]; rfl⟩⟩
    refine hone _ ?_
    simp only [H0, List.getD]
    rw [List.getElem?_eq_getElem hi]
    exact List.getElem_mem hi
  have hn : ∀ i, Al0 i → i < hs.length := fun i hi => hi
  have hlt := how.lt
  have hRw : ∀ b, R b → R b ∧ w'.heap[b]? = w.heap[b]? := fun b hb => ⟨hb, hg.block b (hR b hb).1 (fun he => by
    have := hv0 b he.symm
    rw [(hR b hb).2] at this; cases this)⟩
  cases hro : e.ro with
  | true =>
    obtain ⟨C', Al', H', k1, k2, k3, k4⟩ := hi.newRow hn (w' := w') (t := t) (e := e) (xs := zs) (v := v) (fl := fl) (some 0) (ownB v0) (fun i hi => by cases hi; exact ⟨hl0, fun g hg => hv0 g hg⟩) (fun h => by cases h) hg how hblk (Lst.imp (fun j x c hx => by
      obtain ⟨q, j', _, _, hx⟩ := hx
      exact Rp.ro hRw e hro x _ _ c hx) _ _ _ hl) hro
    exact ⟨_, C', R, Al', H', k1, k3, rfl⟩
  | false =>
    let C' : Col := fun b => if ownB v = some b then some (hs.length, []) else match D b with
      | some (q, p) => match p.getLast? with
        | some j => some (hs.length, p.dropLast ++ [φ q j])
        | none => none
      | none => none
    have hC' : ∀ b i p, C' b = some (i, p) → i = hs.length := fun b i p h => by
      simp only [C'] at h
      split at h
      · cases h; rfl
      · split at h
        · split at h
          · cases h; rfl
          · cases h
        · cases h
    have hrp : Rp w' C' R hs.length (.sl (some t) e) zs [] [v] := by
      refine ⟨v, fl, rfl, how, fun g hg => by simp only [C']; rw [if_pos hg], Lst.imp (fun j x c hx => ?_) _ _ _ hl⟩
      obtain ⟨q, j', _, rfl, hx⟩ := hx
      refine Rp.move hRw e x [j'] [φ q j'] c (fun b r hb => ?_) hx
      have hnv0 : ownB v0 ≠ some b := fun he => by
        have := hv0 b he
        rw [hb] at this; simp at this
      refine ⟨?_, hg.block b (hD b _ _ hb).1 (fun he => hnv0 he.symm)⟩
      simp only [C']
      rw [if_neg (fun he => by
        rcases hblk b he with h | h
        · have := (hD b _ _ hb).1; omega
        · exact hnv0 h), hb]
      simp
    have hv1 : v.oneCell' = true := by
      rcases how.2 with ⟨A, hv, _⟩ | ⟨g, cap, cur, hv, _⟩ <;> rw [hv] <;> rfl
    obtain ⟨Al', H', g1, g2, g3, g4⟩ := hi.newN hn (w' := w') (ownB v0) hg (List.range hs.length) (fun m hm => List.mem_range.1 hm) (fun g hg => ⟨0, [], List.mem_range.2 hl0, hv0 g hg⟩) C' (fun b i p hin => by
        constructor
        · intro h; exact absurd (hC' b i p h) hin
        · rintro ⟨h1, h2⟩; exact absurd (List.mem_range.2 (hD b i p h1).2) h2) (fun b p h => by
        by_cases hb : ownB v = some b
        · refine ⟨hlt b hb, ?_⟩
          rcases hblk b hb with h | h
          · exact .inl h
          · exact .inr ⟨0, [], List.mem_range.2 hl0, hv0 b h⟩
        · simp only [C'] at h
          rw [if_neg hb] at h
          split at h
          · rename_i q p' hq
            have := hD b q p' hq
            exact ⟨Nat.lt_of_lt_of_le this.1 hg.size, .inr ⟨q, p', List.mem_range.2 this.2, hq⟩⟩
          · cases h) hv1 hrp
    exact ⟨_, C', R, Al', H', g1, g3, by simp⟩

theorem sound_ins {P : Program} {f t by_ : Nat} {e : Kd} (hw : InsWalk P f t e.size by_) : Sound P f (SIns t e by_) := by
  intro w R vs x D hs hargs hR hD r hr
  have hx : ∃ (a : List e.ty) (b : Int) (c : List e.ty), x = (a, b, c) := ⟨x.1, x.2.1, x.2.2, rfl⟩
  obtain ⟨xs, i, ys, rfl⟩ := hx
  obtain ⟨v0, vs1, h1, h2, rfl, rfl, ⟨rfl, hrp0⟩, vi, vs2, h3, h4, rfl, rfl, ⟨rfl, _, hsh, hrpi⟩, v1, rfl, ⟨rfl, hrp1⟩⟩ := hargs
  have hrp0 : Rp w D R 0 (.sl (some t) e) xs [] [v0] := hrp0
  have hrp1 : Rp w D R 1 (.sl (some t) e) ys [] [v1] := hrp1
  have hrpi : vi.cells.toList = [.int .i64 i] := hrpi
  have hsh : vi.oneCell' = true := hsh
  have hvi : vi = .int .i64 i := by
    rw [one_cells hsh] at hrpi
    simpa using hrpi
  subst hvi
  have hr : (insRun by_ (xs, i, ys)).map (fun y => (y, (true, true))) = some r := hr
  unfold insRun at hr
  cases hc : (decide (0 ≤ i) && decide (i ≤ (xs.length : Int)) && Nat.beq ys.length 1 && Nat.ble ((xs.length + 1) * by_) 140737488355328) with
  | false => simp only [hc] at hr; cases hr
  | true =>
    simp only [hc, cond_true, Option.map_some, Option.some.injEq] at hr
    simp only [Bool.and_eq_true, decide_eq_true_eq] at hc
    obtain ⟨⟨⟨c1, c2⟩, c3⟩, c4⟩ := hc
    have c3 := Nat.eq_of_beq_eq_true c3
    have c4 := Nat.le_of_ble_eq_true c4
    obtain ⟨m, rfl⟩ := Int.eq_ofNat_of_zero_le c1
    have c2 : m ≤ xs.length := by omega
    obtain ⟨v0', fl, hv, ho0, hcg0, hl0⟩ := hrp0
    simp only [List.cons.injEq, and_true] at hv
    subst hv
    obtain ⟨v1', gl, hv, ho1, hcg1, hl1⟩ := hrp1
    simp only [List.cons.injEq, and_true] at hv
    subst hv
    have one0 : ∀ u ∈ fl, u.oneCell' = true := Lst.mem (Q := fun u => u.oneCell' = true) (fun j x c hx => Rp.one _ _ _ _ hx) _ _ _ hl0
    have one1 : ∀ u ∈ gl, u.oneCell' = true := Lst.mem (Q := fun u => u.oneCell' = true) (fun j x c hx => Rp.one _ _ _ _ hx) _ _ _ hl1
    have hcall := hw w v0 v1 xs.length m fl gl ho0 (by rw [← c3]; exact ho1) c2 c4 one0 one1 (fun g h0 h1 => by
      have := (hcg0 g h0).symm.trans (hcg1 g h1)
      simp at this)
    refine hcall.mono ?_
    rintro en w' ⟨v', rfl, ho, hg, hblk⟩
    refine ⟨_, rfl, ?_⟩
    obtain rfl : ((xs.take m ++ ys ++ xs.drop m, (true, true)) : List e.ty × Bool × Bool) = r := Option.some.inj hr
    have hone : ∀ u ∈ [v0, v1], u.oneCell' = true := by
      intro u hu
      rcases List.mem_cons.1 hu with rfl | hu
      · rcases ho0.2 with ⟨A, hv, _⟩ | ⟨g, cap, cur, hv, _⟩ <;> rw [hv] <;> rfl
      · rw [List.mem_singleton.1 hu]
        rcases ho1.2 with ⟨A, hv, _⟩ | ⟨g, cap, cur, hv, _⟩ <;> rw [hv] <;> rfl
    have hlen : ∀ (k : Nat) (x : e.ty) (c : List Value) (q j : Nat), Rp w D R q e x [j] c → c.length = e.size := fun k x c q j h => Rp.length _ _ _ _ h
    let φ : Nat → Nat → Nat := fun q j => match q with
      | 0 => if j < m then j else j + 1
      | _ => m + j
    let Q : Nat → e.ty → List Value → Prop := fun j x c => ∃ q j', q < [v0, v1].length ∧ j = φ q j' ∧ Rp w D R q e x [j'] c
    have hA : Lst Q 0 (xs.take m) (fl.take (m * e.size)) := by
      have := Lst.take (fun j x c h => hlen j x c 0 j h) xs 0 fl hl0 m
      have key : ∀ (zs : List e.ty) (j : Nat) (gl : List Value), j + zs.length ≤ m → Lst (fun j x c => Rp w D R 0 e x [j] c) j zs gl → Lst Q j zs gl := by
        intro zs
        induction zs with
        | nil => intro j gl _ h; exact h
        | cons z zs ih =>
          rintro j gl hj ⟨c, r, he, hf, hr⟩
          simp only [List.length_cons] at hj
          exact ⟨c, r, he, ⟨0, j, by simp, by simp only [φ]; rw [if_pos (by omega)], hf⟩, ih (j + 1) r (by omega) hr⟩
      exact key _ 0 _ (by simp only [List.length_take]; omega) this
    have hB : Lst Q (0 + (xs.take m).length) ys gl := by
      rw [List.length_take, Nat.min_eq_left c2, Nat.zero_add]
      exact Lst.lift (f := fun j x c => Rp w D R 1 e x [j] c) (g := Q) (fun j => m + j) (fun j => by omega) (fun j x c h => ⟨1, j, by simp, rfl, h⟩) ys 0 gl hl1
    have hC : Lst Q (0 + (xs.take m ++ ys).length) (xs.drop m) (fl.drop (m * e.size)) := by
      have := Lst.drop (fun j x c h => hlen j x c 0 j h) xs 0 fl hl0 m
      have key : ∀ (zs : List e.ty) (j : Nat) (gl : List Value), m ≤ j → Lst (fun j x c => Rp w D R 0 e x [j] c) j zs gl → Lst Q (j + 1) zs gl := by
        intro zs
        induction zs with
        | nil => intro j gl _ h; exact h
        | cons z zs ih =>
          rintro j gl hj ⟨c, r, he, hf, hr⟩
          exact ⟨c, r, he, ⟨0, j, by simp, by simp only [φ]; rw [if_neg (by omega)], hf⟩, ih (j + 1) r (by omega) hr⟩
      have h2 := key _ (0 + m) _ (by omega) this
      rw [List.length_append, List.length_take, Nat.min_eq_left c2, c3]
      rwa [show 0 + (m + 1) = 0 + m + 1 from by omega]
    have hl : Lst Q 0 (xs.take m ++ ys ++ xs.drop m) (insC e.size m fl gl) := Lst.append _ _ _ _ _ (Lst.append _ _ _ _ _ hA hB) hC
    have hzl : (xs.take m ++ ys ++ xs.drop m).length = xs.length + 1 := by
      simp only [List.length_append, List.length_take, List.length_drop, c3]
      omega
    obtain ⟨S', C', R', Al', H', i1, i2, i3⟩ := move_inv (hs := [v0, v1]) hR hD hone (by simp) hcg0 (w' := w') hg (by rw [hzl]; exact ho) hblk φ hl
    refine endOK (F := SIns t e by_) (st := ⟨[], S', 2, 0⟩) (vs := [.ref 2]) (cvs := [v']) (ids := cond e.ro [some 2] [some 2, some 3]) i1 (by simp only [AVs]; exact ⟨v', [], rfl, i2, rfl⟩) ?_ ?_ ?_ rfl
    · show endVs _ [.sl (some t) e] [.own, .own] [.ref 2] = _
      cases hro : e.ro with
      | true =>
        rw [hro] at i3
        simp only at i3
        subst i3
        simp [endVs, takeV, takeCells, takeSl, cellsV, aggV, solid, Kd.agg, getS, castL, hro, endBoxes, endBox]
        rfl
      | false =>
        rw [hro] at i3
        simp only at i3
        subst i3
        simp [endVs, takeV, takeCells, takeSl, cellsV, aggV, solid, Kd.agg, getS, castL, hro, endBoxes, endBox]
        rfl
    · cases e.ro <;> rfl
    · intro i hi
      cases hi
end Go.Rv
namespace Go.Rv
open Go.Proofs Go.Shelf Go.RowKit Go.Lib
/-- slices.Delete(xs, i, j): a row of our own in, a row of our own out. -/
def delRun {α : Type} (x : List α × Int × Int) : Option (List α) :=
  cond (decide (0 ≤ x.2.1) && decide (x.2.1 ≤ x.2.2) && decide (x.2.2 ≤ (x.1.length : Int))) (some (x.1.take x.2.1.toNat ++ x.1.drop x.2.2.toNat)) none
def SDel (t : Nat) (e : Kd) : FSpec := ⟨[.own t e, .val (.int .i64), .val (.int .i64)], [.sl (some t) e], fun x => (delRun x).map fun y => (y, true)⟩
/-- What the walk of slices.Delete says. -/
def DelWalk (P : Program) (f t s : Nat) : Prop :=
  ∀ (w : World) (v0 : Value) (n i j : Nat) (fl : List Value), Own w t s v0 n fl → i ≤ j → j ≤ n → (∀ u ∈ fl, u.oneCell' = true) →
    Calls P f #[v0, .int .i64 i, .int .i64 j] w fun en w' => ∃ v', en = .returned v' ∧ Own w' t s v' (n - (j - i)) (fl.take (i * s) ++ fl.drop (j * s)) ∧ w.grownBy w' (ownB v0) ∧ ∀ g, ownB v' = some g → w.heap.size ≤ g ∨ ownB v0 = some g
theorem sound_del {P : Program} {f t : Nat} {e : Kd} (hw : DelWalk P f t e.size) : Sound P f (SDel t e) := by
  intro w R vs x D hs hargs hR hD r hr
  have hx : ∃ (a : List e.ty) (b : Int) (c : Int), x = (a, b, c) := ⟨x.1, x.2.1, x.2.2, rfl⟩
  obtain ⟨xs, i, j, rfl⟩ := hx
  obtain ⟨v0, vs1, h1, h2, rfl, rfl, ⟨rfl, hrp0⟩, vi, vs2, h3, h4, rfl, rfl, ⟨rfl, _, hsh, hrpi⟩, vj, rfl, ⟨rfl, _, hsh2, hrpj⟩⟩ := hargs
  have hrp0 : Rp w D R 0 (.sl (some t) e) xs [] [v0] := hrp0
  have hrpi : vi.cells.toList = [.int .i64 i] := hrpi
  have hsh : vi.oneCell' = true := hsh
  have hvi : vi = .int .i64 i := by
    rw [one_cells hsh] at hrpi
    simpa using hrpi
  subst hvi
  have hrpj : vj.cells.toList = [.int .i64 j] := hrpj
  have hsh2 : vj.oneCell' = true := hsh2
  have hvj : vj = .int .i64 j := by
    rw [one_cells hsh2] at hrpj
    simpa using hrpj
  subst hvj
  have hr : (delRun (xs, i, j)).map (fun y => (y, true)) = some r := hr
  unfold delRun at hr
  cases hc : (decide (0 ≤ i) && decide (i ≤ j) && decide (j ≤ (xs.length : Int))) with
  | false => simp only [hc] at hr; cases hr
  | true =>
    simp only [hc, cond_true, Option.map_some, Option.some.injEq] at hr
    simp only [Bool.and_eq_true, decide_eq_true_eq] at hc
    obtain ⟨⟨c1, c2⟩, c3⟩ := hc
    obtain ⟨m, rfl⟩ := Int.eq_ofNat_of_zero_le c1
    obtain ⟨k, rfl⟩ := Int.eq_ofNat_of_zero_le (Int.le_trans c1 c2)
    have c2 : m ≤ k := by omega
    have c3 : k ≤ xs.length := by omega
    obtain ⟨v0', fl, hv, ho0, hcg0, hl0⟩ := hrp0
    simp only [List.cons.injEq, and_true] at hv
    subst hv
    have one0 : ∀ u ∈ fl, u.oneCell' = true := Lst.mem (Q := fun u => u.oneCell' = true) (fun j x c hx => Rp.one _ _ _ _ hx) _ _ _ hl0
    have hcall := hw w v0 xs.length m k fl ho0 c2 c3 one0
    refine hcall.mono ?_
    rintro en w' ⟨v', rfl, ho, hg, hblk⟩
    refine ⟨_, rfl, ?_⟩
    obtain rfl : ((xs.take m ++ xs.drop k, true) : List e.ty × Bool) = r := by
      exact Option.some.inj hr
    have hone : ∀ u ∈ [v0], u.oneCell' = true := by
      intro u hu
      rw [List.mem_singleton.1 hu]
      rcases ho0.2 with ⟨A, hv, _⟩ | ⟨g, cap, cur, hv, _⟩ <;> rw [hv] <;> rfl
    have hlen : ∀ (k : Nat) (x : e.ty) (c : List Value) (q j : Nat), Rp w D R q e x [j] c → c.length = e.size := fun k x c q j h => Rp.length _ _ _ _ h
    let φ : Nat → Nat → Nat := fun _ j => if j < m then j else j - (k - m)
    let Q : Nat → e.ty → List Value → Prop := fun j x c => ∃ q j', q < [v0].length ∧ j = φ q j' ∧ Rp w D R q e x [j'] c
    have hA : Lst Q 0 (xs.take m) (fl.take (m * e.size)) := by
      have := Lst.take (fun j x c h => hlen j x c 0 j h) xs 0 fl hl0 m
      have key : ∀ (zs : List e.ty) (j : Nat) (gl : List Value), j + zs.length ≤ m → Lst (fun j x c => Rp w D R 0 e x [j] c) j zs gl → Lst Q j zs gl := by
        intro zs
        induction zs with
        | nil => intro j gl _ h; exact h
        | cons z zs ih =>
          rintro j gl hj ⟨c, r, he, hf, hr⟩
          simp only [List.length_cons] at hj
          exact ⟨c, r, he, ⟨0, j, by simp, by simp only [φ]; rw [if_pos (by omega)], hf⟩, ih (j + 1) r (by omega) hr⟩
      exact key _ 0 _ (by simp only [List.length_take]; omega) this
    have hC : Lst Q (0 + (xs.take m).length) (xs.drop k) (fl.drop (k * e.size)) := by
      have := Lst.drop (fun j x c h => hlen j x c 0 j h) xs 0 fl hl0 k
      have key : ∀ (zs : List e.ty) (j : Nat) (gl : List Value), k ≤ j → Lst (fun j x c => Rp w D R 0 e x [j] c) j zs gl → Lst Q (j - (k - m)) zs gl := by
        intro zs
        induction zs with
        | nil => intro j gl _ h; exact h
        | cons z zs ih =>
          rintro j gl hj ⟨c, r, he, hf, hr⟩
          refine ⟨c, r, he, ⟨0, j, by simp, by simp only [φ]; rw [if_neg (by omega)], hf⟩, ?_⟩
          have := ih (j + 1) r (by omega) hr
          rwa [show j + 1 - (k - m) = j - (k - m) + 1 from by omega] at this
      have h2 := key _ (0 + k) _ (by omega) this
      rw [List.length_take, Nat.min_eq_left (by omega)]
      rwa [show 0 + k - (k - m) = 0 + m from by omega] at h2
    have hl : Lst Q 0 (xs.take m ++ xs.drop k) (fl.take (m * e.size) ++ fl.drop (k * e.size)) := Lst.append _ _ _ _ _ hA hC
    have hzl : (xs.take m ++ xs.drop k).length = xs.length - (k - m) := by
      simp only [List.length_append, List.length_take, List.length_drop]
      omega
    obtain ⟨S', C', R', Al', H', i1, i2, i3⟩ := move_inv (hs := [v0]) hR hD hone (by simp) hcg0 (w' := w') hg (by rw [hzl]; exact ho) hblk φ hl
    refine endOK (F := SDel t e) (st := ⟨[], S', 1, 0⟩) (vs := [.ref 1]) (cvs := [v']) (ids := cond e.ro [some 1] [some 1, some 2]) i1 (by simp only [AVs]; exact ⟨v', [], rfl, i2, rfl⟩) ?_ ?_ ?_ rfl
    · show endVs _ [.sl (some t) e] [.own] [.ref 1] = _
      cases hro : e.ro with
      | true =>
        rw [hro] at i3
        simp only at i3
        subst i3
        simp [endVs, takeV, takeCells, takeSl, cellsV, aggV, solid, Kd.agg, getS, castL, hro, endBoxes, endBox]
        rfl
      | false =>
        rw [hro] at i3
        simp only at i3
        subst i3
        simp [endVs, takeV, takeCells, takeSl, cellsV, aggV, solid, Kd.agg, getS, castL, hro, endBoxes, endBox]
        rfl
    · cases e.ro <;> rfl
    · intro i hi
      cases hi
end Go.Rv
namespace Go.Rv
open Go.Proofs Go.Shelf Go.RowKit Go.Lib
theorem setCells_row (P : Program) {w : World} {b o : Nat} {t : TypeId} {cur : Array Value} {vs : List Value} (hg : w.heap[b]? = some (.cells cur t (0, 0))) (hfit : o + vs.length ≤ cur.size) (h1 : ∀ v ∈ vs, v.oneCell' = true) :
    w.setCells b o vs = w.setRow b (cur.toList.take o ++ vs ++ cur.toList.drop (o + vs.length)).toArray := by
  have a := run_storeCells_at P b o t vs 0 cur w hg (by simpa using hfit) h1
  have c := run_storeCells_cells (P := P) b o vs 0 w (fun j hj => by
    simp only [World.cell?, hg, Nat.add_zero]
    rw [Array.getElem?_eq_getElem (by omega)]; rfl) (fun j hj => by simp [World.frozen?, hg]) h1
  rw [a] at c
  simp only [Nat.add_zero] at c
  injection c with _ c
  exact c.symm
theorem run_clear_rowK {P : Program} (w : World) (T e ty : TypeId) (z : Value) (ht : P.underlying T = some (.slice e)) (hv : ∀ w, (zeroValue e).run P w = .ok z w) (b o n c : Nat) (hn : 0 < n) (t : TypeId) (cur : Array Value) (hg : w.heap[b]? = some (.cells cur t (0, 0)))
    (hfit : o + (Builtin.zeroCells z.cells n).toList.length ≤ cur.size) (h1 : ∀ v ∈ (Builtin.zeroCells z.cells n).toList, v.oneCell' = true) :
    (Builtin.clear_ #[T] ty #[.slice (some ⟨b, o, none⟩) n c]).run P w = .ok (.tuple #[]) (w.setRow b (cur.toList.take o ++ (Builtin.zeroCells z.cells n).toList ++ cur.toList.drop (o + (Builtin.zeroCells z.cells n).toList.length)).toArray) := by
  have hst := run_storeCells_at P b o t (Builtin.zeroCells z.cells n).toList 0 cur w hg (by simpa using hfit) h1
  obtain ⟨m, rfl⟩ : ∃ m, n = m + 1 := ⟨n - 1, by omega⟩
  simp only [Nat.add_zero] at hst
  simp [Builtin.clear_, run_underlying ht, hv, hst]
end Go.Rv
