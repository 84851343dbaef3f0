/- Engines whose logs grow: plain facts. No condition. -/
import Derived.Test.YtbeplmdadjgamaaGreatRvEs
namespace Go.Rv
theorem fstI_allnone {α R : Type} (f : Nat → α → Option R) : ∀ (xs : List α) (k : Nat), (∀ (i : Nat) (h : i < xs.length), f (k + i) xs[i] = none) → fstI f k xs = none
  | [], _, _ => rfl
  | x :: r, k, h => by
    have h0 := h 0 (by simp)
    simp only [Nat.add_zero, List.getElem_cons_zero] at h0
    simp only [fstI, h0]
    refine fstI_allnone f r (k + 1) fun i hi => ?_
    have := h (i + 1) (by simpa using hi)
    simp only [List.getElem_cons_succ] at this
    rw [← this]
    congr 1
    omega
theorem tabC_of {xs : List RowT} (h1 : ssrt xs) (h2 : ∀ r ∈ xs, rowC r = 0) (h3 : xs.length ≤ 200) : tabC xs = 0 := by
  unfold tabC
  rw [if_neg (by omega), fstI_allnone (tabStep xs) xs 0 fun i hi => ?_]
  rw [Nat.zero_add]
  unfold tabStep
  rw [h2 _ (List.getElem_mem hi)]
  have : (decide (0 < i) && !(decide (cfRow (xs[i - 1]?.getD xs[i]) xs[i] < 0))) = false := by
    by_cases h0 : 0 < i
    · rw [List.getElem?_eq_getElem (show i - 1 < xs.length by omega), Option.getD_some]
      rw [decide_eq_true (List.pairwise_iff_getElem.1 h1 (i - 1) i (by omega) hi (by omega)), Bool.not_true, Bool.and_false]
    · rw [decide_eq_false h0, Bool.false_and]
  rw [this]; rfl
theorem tabs_none {tt : List (List RowT)} (h : ∀ t ∈ tt, tabC t = 0) (k : Nat) : fstI (fun _ t => cond (!(tabC t == 0)) (some (tabC t)) none) k tt = none :=
  fstI_allnone _ tt k fun i hi => by rw [h _ (List.getElem_mem hi)]; rfl
structure EC (e : EngT) : Prop where
  len : e.1.1.length + e.1.2.length ≤ 6000
  mem : tabC e.2.1 = 0
  cnt : e.2.2.1.length ≤ 6
  tabs : ∀ t ∈ e.2.2.1, tabC t = 0
  nxt : inB e.2.2.2 1 1000000 = true
  bm : belowB e.2.1 e.2.2.2 = true
  bt : ∀ t ∈ e.2.2.1, belowB t e.2.2.2 = true
  log : (logR e.1 e.2.2.2).2 = true ∧ sameR (logR e.1 e.2.2.2).1 e.2.1 = true
  ord : ∀ y ∈ e.2.1, ∀ t ∈ e.2.2.1, belowB t y.2.1 = true
theorem engC_of {e : EngT} (h : EC e) : engC e = 0 := by
  unfold engC
  have hf : fstI (fun _ t => cond (!(tabC t == 0)) (some (tabC t)) none) 0 e.2.2.1 = none := tabs_none h.tabs 0
  rw [if_neg (by have := h.len; omega), if_neg (fun q => q h.mem), if_neg (by have := h.cnt; omega), hf, Option.getD_none, h.nxt, h.bm]
  have hb : (e.2.2.1.any fun t => !(belowB t e.2.2.2)) = false := by
    rw [List.any_eq_false]; intro t ht; rw [h.bt t ht]; simp
  have ho : (e.2.1.any fun y => e.2.2.1.any fun t => !(belowB t y.2.1)) = false := by
    rw [List.any_eq_false]; intro y hy
    rw [Bool.not_eq_true, List.any_eq_false]
    intro t ht; rw [h.ord y hy t ht]; simp
  rw [hb, ho, h.log.1, h.log.2]
  rfl
theorem engC_ec {e : EngT} (h : engC e = 0) : EC e := by
  obtain ⟨q1, q2, q3, q4⟩ := engC_zero h
  have hf : fstI (fun _ t => cond (!(tabC t == 0)) (some (tabC t)) none) 0 e.2.2.1 = none := tabs_none q4 0
  unfold engC at h
  rw [if_neg (by omega), if_neg (fun q => q q2), if_neg (by omega), hf, Option.getD_none] at h
  cases h1 : (!(inB e.2.2.2 1 1000000) || (!(belowB e.2.1 e.2.2.2) || (e.2.2.1.any fun t => !(belowB t e.2.2.2)))) with
  | true => rw [h1, cond_true] at h; exact absurd h (by decide)
  | false =>
    rw [h1, cond_false] at h
    simp only [Bool.or_eq_false_iff, Bool.not_eq_false'] at h1
    cases h2 : (!(logR e.1 e.2.2.2).2 || !(sameR (logR e.1 e.2.2.2).1 e.2.1)) with
    | true => rw [h2, cond_true] at h; exact absurd h (by decide)
    | false =>
      rw [h2, cond_false] at h
      simp only [Bool.or_eq_false_iff, Bool.not_eq_false'] at h2
      cases h3 : (e.2.1.any fun y => e.2.2.1.any fun t => !(belowB t y.2.1)) with
      | true => rw [h3, cond_true] at h; exact absurd h (by decide)
      | false =>
        refine ⟨q1, q2, q3, q4, h1.1, h1.2.1, fun t ht => ?_, h2, fun y hy t ht => ?_⟩
        · have := List.any_eq_false.1 h1.2.2 t ht
          simpa using this
        · have := List.any_eq_false.1 h3 y hy
          rw [Bool.not_eq_true, List.any_eq_false] at this
          simpa using this t ht
theorem below_mem {t : List RowT} {v : Int} : belowB t v = true ↔ ∀ r ∈ t, r.2.1 < v := by
  unfold belowB
  rw [List.all_eq_true]
  exact ⟨fun h r hr => of_decide_eq_true (h r hr), fun h r hr => decide_eq_true (h r hr)⟩
end Go.Rv
namespace Go.Rv
theorem strOf_bytes (t : ByteArray) : strOfNums (bytesNums t) = t := by
  have h1 := strOf_list (bytesNums t)
  have h2 : (bytesNums t).map (fun n => UInt8.ofNat n.toNat) = t.data.toList := by
    unfold bytesNums
    rw [List.map_map]
    conv => rhs; rw [← List.map_id t.data.toList]
    refine List.map_congr_left fun b _ => ?_
    simp
  rw [h2, ByteArray.toList_eq] at h1
  exact (cmpB_zero _ _).1 ((cmpL_zero _ _).2 h1)
theorem takeT_pT {k : ByteArray} (h : k.size ≤ 200) (r : List Int) : takeT (pT k ++ r) = some (k, r) := by
  unfold pT
  rw [if_neg (by omega)]
  show takeT ((k.size : Int) :: (bytesNums k ++ r)) = _
  have hl := len_bytes k
  simp only [takeT]
  rw [if_neg (by rw [List.length_append]; omega), Int.toNat_natCast]
  rw [← hl, List.take_left, List.drop_left, strOf_bytes]
theorem takeW_pack {w : WriteT} (h1 : w.1.size ≤ 200) (h2 : w.2.1.size ≤ 200) (h3 : w.2.2 = true → w.2.1 = (⟨#[]⟩ : ByteArray)) (r : List Int) : takeW (packOne w ++ r) = some (w, r) := by
  obtain ⟨k, v, g⟩ := w
  simp only at h1 h2 h3
  unfold packOne
  cases g with
  | true =>
    simp only [cond_true, List.append_nil, List.cons_append, List.nil_append]
    simp only [takeW]
    rw [if_neg (by decide), takeT_pT h1]
    simp only [if_true]
    rw [h3 rfl]
  | false =>
    simp only [cond_false, List.cons_append, List.nil_append, List.append_assoc]
    simp only [takeW]
    rw [if_neg (by decide), takeT_pT h1]
    simp only
    rw [if_neg (by decide), takeT_pT h2]
theorem wrsG_pack : ∀ (ws : List WriteT) (n : Nat), (∀ w ∈ ws, w.1.size ≤ 200 ∧ w.2.1.size ≤ 200 ∧ (w.2.2 = true → w.2.1 = (⟨#[]⟩ : ByteArray))) → (ws.flatMap packOne).length < n → wrsG n (ws.flatMap packOne) = some ws
  | [], 0, _, h => by simp at h
  | [], n + 1, _, _ => rfl
  | w :: ws, 0, _, h => by omega
  | w :: ws, n + 1, hw, h => by
    obtain ⟨a1, a2, a3⟩ := hw w (by simp)
    have hp : 0 < (packOne w).length := by unfold packOne; simp
    rw [List.flatMap_cons, List.length_append] at h
    have ih := wrsG_pack ws n (fun x hx => hw x (List.mem_cons_of_mem _ hx)) (by omega)
    rw [List.flatMap_cons]
    have hne : packOne w ++ ws.flatMap packOne ≠ [] := fun e => by
      have := congrArg List.length e
      rw [List.length_append, List.length_nil] at this
      omega
    simp only [wrsG]
    rw [if_neg hne, takeW_pack a1 a2 a3]
    simp only
    rw [ih]
    rfl
theorem packL_eq (v : Int) (ws : List WriteT) : packL v ws = num8 v ++ ws.flatMap packOne := packL_go ws (num8 v)
theorem numF_small {a b : Int} (h0 : 0 ≤ a) (h1 : a ≤ 1000000) (h2 : 0 ≤ b) (h3 : b < 256) : numF a b = a * 256 + b := by
  unfold numF
  rw [wrapu64 (n := a * 256) (by omega) (by omega), wrapu64 (n := b) h2 (by omega), wrapu64 (by omega) (by omega)]
theorem numB_num8 {v : Int} (h0 : 1 ≤ v) (h1 : v ≤ 1000000) : numB (num8 v) = v := by
  unfold numB
  rw [num8_eq]
  have q1 : v / 72057594037927936 = 0 := Int.ediv_eq_zero_of_lt (by omega) (by omega)
  have q2 : v / 281474976710656 = 0 := Int.ediv_eq_zero_of_lt (by omega) (by omega)
  have q3 : v / 1099511627776 = 0 := Int.ediv_eq_zero_of_lt (by omega) (by omega)
  have q4 : v / 4294967296 = 0 := Int.ediv_eq_zero_of_lt (by omega) (by omega)
  have q5 : v / 16777216 = 0 := Int.ediv_eq_zero_of_lt (by omega) (by omega)
  have q6 : v / 65536 % 256 = v / 65536 := by omega
  have z : (0 : Int) % 256 = 0 := rfl
  rw [q1, q2, q3, q4, q5, q6, Int.ediv_one, z]
  have n0 : numF 0 0 = 0 := by rw [numF_small (by decide) (by decide) (by decide) (by decide)]; rfl
  simp only [List.foldl_cons, List.foldl_nil, n0]
  rw [numF_small (a := 0) (b := v / 65536) (by omega) (by omega) (by omega) (by omega), numF_small (a := 0 * 256 + v / 65536) (b := v / 256 % 256) (by omega) (by omega) (by omega) (by omega), numF_small (a := (0 * 256 + v / 65536) * 256 + v / 256 % 256) (b := v % 256) (by omega) (by omega) (by omega) (by omega), wrap64 (by omega) (by omega)]
  omega
theorem unpR_pack {v : Int} {ws : List WriteT} (h0 : 1 ≤ v) (h1 : v ≤ 1000000) (hw : wrC ws = 0) (hs : ∀ w ∈ ws, w.1.size ≤ 200 ∧ w.2.1.size ≤ 200 ∧ (w.2.2 = true → w.2.1 = (⟨#[]⟩ : ByteArray))) : unpR (packL v ws) = (v, (ws, true)) := by
  have hl := num8_len v
  unfold unpR
  rw [packL_eq, if_neg (by rw [List.length_append]; omega)]
  have e1 : (num8 v ++ ws.flatMap packOne).drop 8 = ws.flatMap packOne := by rw [← hl, List.drop_left]
  have e2 : (num8 v ++ ws.flatMap packOne).take 8 = num8 v := by rw [← hl, List.take_left]
  rw [e1, e2, numB_num8 h0 h1]
  have e3 : wrsL (ws.flatMap packOne) = some ws := wrsG_pack ws _ hs (by omega)
  rw [e3]
  simp only
  have hv : inB v 1 1000000 = true := by unfold inB; simp only [Bool.and_eq_true, decide_eq_true_eq]; omega
  have e4 : (packW v ws).1 = 0 := by unfold packW; rw [hv, hw]; rfl
  rw [e4]; rfl
theorem unfr_app {r b : List Int} (h : unfr r = some b) (x : List Int) : unfr (r ++ x) = some b := by
  obtain ⟨h1, h2, h3⟩ := unfr_some h
  unfold unfr at h
  split at h
  · rename_i a b' c d t
    split at h
    · rename_i hc
      simp only [Option.some.injEq] at h
      obtain ⟨c1, c2, c3⟩ := hc
      have ht : (t ++ x).take (a * 256 + b').toNat = t.take (a * 256 + b').toNat := List.take_append_of_le_length (by omega)
      show unfr (a :: b' :: c :: d :: (t ++ x)) = some b
      unfold unfr
      simp only
      rw [if_pos ⟨c1, by rw [List.length_append]; omega, by rw [ht]; exact c3⟩, ht, h]
    · cases h
  · cases h
theorem recsG_app : ∀ (n : Nat) (r x : List Int), (recsG n r).2 = r.length → ∀ m, recsG ((recsG n r).1.length + m) (r ++ x) = ((recsG n r).1 ++ (recsG m x).1, r.length + (recsG m x).2)
  | 0, r, x, h, m => by
    simp only [recsG] at h ⊢
    have : r = [] := List.length_eq_zero_iff.1 h.symm
    subst this
    simp
  | n + 1, r, x, h, m => by
    simp only [recsG] at h ⊢
    cases hu : unfr r with
    | none =>
      rw [hu] at h
      simp only at h ⊢
      have : r = [] := List.length_eq_zero_iff.1 h.symm
      subst this
      simp
    | some b =>
      rw [hu] at h
      simp only at h ⊢
      obtain ⟨h1, h2, h3⟩ := unfr_some hu
      have hd : (recsG n (r.drop (4 + b.length))).2 = (r.drop (4 + b.length)).length := by rw [List.length_drop]; omega
      have ih := recsG_app n (r.drop (4 + b.length)) x hd m
      have hl : (b :: (recsG n (r.drop (4 + b.length))).1).length + m = ((recsG n (r.drop (4 + b.length))).1.length + m) + 1 := by rw [List.length_cons]; omega
      rw [hl]
      simp only [recsG]
      rw [unfr_app hu x]
      simp only
      have hdx : (r ++ x).drop (4 + b.length) = r.drop (4 + b.length) ++ x := List.drop_append_of_le_length (by omega)
      rw [hdx, ih]
      simp only [List.cons_append, Prod.mk.injEq, true_and]
      rw [List.length_drop]
      omega
theorem unfr_frame {p : List Int} (hb : byB p) (h1 : 1 ≤ p.length) (h2 : p.length ≤ 500) : unfr (frameD p) = some p := by
  have hc := chkB_ok hb
  have e : frameD p = ((p.length : Int) / 256) :: ((p.length : Int) % 256) :: (chkB p / 256) :: (chkB p % 256) :: p := rfl
  rw [e]
  unfold unfr
  simp only
  have e1 : (p.length : Int) / 256 * 256 + (p.length : Int) % 256 = (p.length : Int) := by omega
  have e2 : chkB p / 256 * 256 + chkB p % 256 = chkB p := by omega
  rw [e1, e2, Int.toNat_natCast, List.take_length, if_pos ⟨⟨by omega, by omega⟩, Int.le_refl _, rfl⟩]
theorem recsL_grow {D p : List Int} (hD : (recsL D).2 = D.length) (hb : byB p) (h1 : 1 ≤ p.length) (h2 : p.length ≤ 500) : recsL (D ++ frameD p) = ((recsL D).1 ++ [p], D.length + (frameD p).length) := by
  have hk := recsG_ok (D.length + 1) D
  have hfl := frameD_len p
  unfold recsL at hD ⊢
  have hle : (recsG (D.length + 1) D).1.length ≤ D.length := by have := hk.2.1; omega
  obtain ⟨m, hm⟩ : ∃ m, (D ++ frameD p).length + 1 = (recsG (D.length + 1) D).1.length + (m + 2) := ⟨(D ++ frameD p).length + 1 - (recsG (D.length + 1) D).1.length - 2, by rw [List.length_append]; omega⟩
  rw [hm, recsG_app (D.length + 1) D (frameD p) hD (m + 2)]
  have e : recsG (m + 2) (frameD p) = ([p], (frameD p).length) := by
    simp only [recsG]
    rw [unfr_frame hb h1 h2]
    simp only
    have hd : (frameD p).drop (4 + p.length) = [] := List.drop_of_length_le (by omega)
    rw [hd]
    have hu : unfr [] = none := rfl
    rw [hu]
    simp only [Prod.mk.injEq, true_and]
    omega
  rw [e]
theorem logF_mono {nx : Int} : ∀ (rs : List (List Int)) (s t : List RowT × Int), s.2 < nx → rs.foldlM (logF nx) s = some t → rs.foldlM (logF (nx + 1)) s = some t ∧ t.2 < nx
  | [], s, t, hs, h => by
    simp only [List.foldlM_nil] at h ⊢
    cases h
    exact ⟨rfl, hs⟩
  | r :: rs, s, t, hs, h => by
    simp only [List.foldlM_cons] at h ⊢
    cases hq : logF nx s r with
    | none => rw [hq] at h; cases h
    | some u =>
      rw [hq] at h
      have h' : rs.foldlM (logF nx) u = some t := h
      unfold logF at hq
      cases hc : (!(unpR r).2.2 || (decide ((unpR r).1 ≥ nx) || decide ((unpR r).1 ≤ s.2))) with
      | true => rw [hc] at hq; cases hq
      | false =>
        rw [hc] at hq
        simp only [Bool.or_eq_false_iff, Bool.not_eq_false', decide_eq_false_iff_not] at hc
        obtain ⟨c1, c2, c3⟩ := hc
        have e2 : logF (nx + 1) s r = some u := by
          unfold logF
          rw [c1, decide_eq_false (show ¬ (unpR r).1 ≥ nx + 1 by omega), decide_eq_false c3]
          exact hq
        have hu : u.2 < nx := by
          simp only [cond_false, Option.some.injEq] at hq
          rw [← hq]
          show (unpR r).1 < nx
          omega
        rw [e2]
        exact logF_mono rs u t hu h'
theorem logR_grow {g g' : LogT} {nx : Int} {ws : List WriteT} (hg : (logR g nx).2 = true) (hb : byB (g.1 ++ g.2)) (h0 : 1 ≤ nx) (h1 : nx ≤ 1000000) (hw : wrC ws = 0) (hs : ∀ w ∈ ws, w.1.size ≤ 200 ∧ w.2.1.size ≤ 200 ∧ (w.2.2 = true → w.2.1 = (⟨#[]⟩ : ByteArray)))
    (hp : (packL nx ws).length ≤ 500) (e : g'.1 ++ g'.2 = (g.1 ++ g.2) ++ frameD (packL nx ws)) : logR g' (nx + 1) = ((rowsW nx ws).foldl putL (logR g nx).1, true) := by
  have _ := hb
  have hpl := (packL_len nx ws).2
  unfold logR at hg ⊢
  by_cases hlt : (recsL (g.1 ++ g.2)).2 < g.1.length + g.2.length
  · rw [if_pos hlt] at hg; cases hg
  · rw [if_neg hlt] at hg ⊢
    have hle := (recsG_ok ((g.1 ++ g.2).length + 1) (g.1 ++ g.2)).1
    have hD : (recsL (g.1 ++ g.2)).2 = (g.1 ++ g.2).length := by
      rw [List.length_append]
      unfold recsL at hlt ⊢
      rw [List.length_append] at hle hlt ⊢
      omega
    have hr := recsL_grow hD (byB_packL nx ws) (by omega) hp
    rw [e, hr]
    have hl' : g'.1.length + g'.2.length = (g.1 ++ g.2).length + (frameD (packL nx ws)).length := by rw [← List.length_append, e, List.length_append]
    rw [if_neg (by simp only; omega)]
    simp only
    cases hf : (recsL (g.1 ++ g.2)).1.foldlM (logF nx) ([], 0) with
    | none => rw [hf] at hg; cases hg
    | some t =>
      obtain ⟨m1, m2⟩ := logF_mono (recsL (g.1 ++ g.2)).1 ([], 0) t (by show (0 : Int) < nx; omega) hf
      rw [List.foldlM_append, m1]
      have e3 : logF (nx + 1) t (packL nx ws) = some (t.1 ++ rowsW nx ws, nx) := by
        unfold logF
        rw [unpR_pack h0 h1 hw hs]
        simp only
        rw [decide_eq_false (show ¬ nx ≥ nx + 1 by omega), decide_eq_false (show ¬ nx ≤ t.2 by omega)]
        rfl
      show (([packL nx ws].foldlM (logF (nx + 1)) t).elim ([], false) fun s => (s.1.foldl putL [], true)) = _
      simp only [List.foldlM_cons, List.foldlM_nil]
      rw [e3]
      show ((t.1 ++ rowsW nx ws).foldl putL [], true) = _
      rw [List.foldl_append]
      rfl
theorem rowE_eq {a b : RowT} (h : rowE a b = true) : a = b := by
  obtain ⟨a1, a2, a3, a4⟩ := a
  obtain ⟨b1, b2, b3, b4⟩ := b
  unfold rowE at h
  simp only [Bool.and_eq_true, beq_iff_eq, and_true] at h
  obtain ⟨h1, h2, h3, h4⟩ := h
  have e1 : a1 = b1 := by
    rw [ByteArray.toList_eq, ByteArray.toList_eq] at h1
    exact (cmpB_zero _ _).1 ((cmpL_zero _ _).2 h1)
  have e3 : a3 = b3 := by
    rw [ByteArray.toList_eq, ByteArray.toList_eq] at h3
    exact (cmpB_zero _ _).1 ((cmpL_zero _ _).2 h3)
  rw [e1, h2, e3, h4]
theorem rowE_refl (a : RowT) : rowE a a = true := by
  unfold rowE
  simp only [beq_self_eq_true, Bool.and_true]
theorem sameR_eq {xs ys : List RowT} (h : sameR xs ys = true) : xs = ys := by
  unfold sameR at h
  rw [Bool.and_eq_true, beq_iff_eq, lenI_eq, lenI_eq, Bool.not_eq_true', List.any_eq_false] at h
  obtain ⟨h1, h2⟩ := h
  refine List.ext_getElem (by omega) fun i hi hj => ?_
  have hz : (xs[i], ys[i]) ∈ xs.zip ys := List.mem_iff_getElem.2 ⟨i, by rw [List.length_zip]; omega, List.getElem_zip⟩
  have := h2 _ hz
  simp only [Bool.not_eq_true', Bool.not_eq_false] at this
  exact rowE_eq this
theorem sameR_refl (xs : List RowT) : sameR xs xs = true := by
  unfold sameR
  rw [beq_self_eq_true, Bool.true_and, Bool.not_eq_true', List.any_eq_false]
  intro p hp
  obtain ⟨i, hi, rfl⟩ := List.mem_iff_getElem.1 hp
  rw [List.getElem_zip]
  simp only [rowE_refl, Bool.not_true, Bool.false_eq_true, not_false_eq_true]
theorem wrC_ok {ws : List WriteT} (h : wrC ws = 0) : (∀ w ∈ ws, rowC (w.1, (1, w.2)) = 0) ∧ (packL 1 ws).length ≤ 500 ∧ (1 ≤ ws.length ∧ ws.length ≤ 8) ∧ ∀ (i : Nat) (hi : i < ws.length), ((ws.take i).any fun u => u.1.toList == ws[i].1.toList) = false := by
  unfold wrC at h
  by_cases hl : ws.length < 1 ∨ ws.length > 8
  · rw [if_pos hl] at h; exact absurd h (by decide)
  · rw [if_neg hl] at h
    cases hf : fstI (wrStep ws) 0 ws with
    | some r =>
      rw [hf] at h
      obtain ⟨i, hi, e⟩ := fstI_some (wrStep ws) ws 0 r hf
      exact absurd h (wrStep_nz ws (0 + i) ws[i] r e)
    | none =>
      rw [hf] at h
      simp only at h
      have key : ∀ (i : Nat) (hi : i < ws.length), rowC (ws[i].1, (1, ws[i].2)) = 0 ∧ ((ws.take i).any fun u => u.1.toList == ws[i].1.toList) = false := by
        intro i hi
        have := fstI_none (wrStep ws) ws 0 hf i hi
        rw [Nat.zero_add] at this
        unfold wrStep at this
        cases hr : (rowC (ws[i].1, (1, ws[i].2)) == 0) with
        | false => rw [hr] at this; cases this
        | true =>
          rw [hr] at this
          refine ⟨eq_of_beq hr, ?_⟩
          cases ha : (ws.take i).any fun u => u.1.toList == ws[i].1.toList with
          | false => rfl
          | true => rw [ha] at this; cases this
      refine ⟨fun w hw => ?_, ?_, by omega, fun i hi => (key i hi).2⟩
      · obtain ⟨i, hi, rfl⟩ := List.getElem_of_mem hw
        exact (key i hi).1
      · by_cases hp : (packL 1 ws).length > 500
        · rw [if_pos hp] at h; exact absurd h (by decide)
        · omega
theorem wr_small {ws : List WriteT} (h : wrC ws = 0) : ∀ w ∈ ws, w.1.size ≤ 200 ∧ w.2.1.size ≤ 200 ∧ (w.2.2 = true → w.2.1 = (⟨#[]⟩ : ByteArray)) := fun w hw => by
  obtain ⟨h1, h2, h3, _⟩ := rowC_zero ((wrC_ok h).1 w hw)
  refine ⟨by simp only at h1; omega, by simp only at h3; omega, fun hg => ?_⟩
  have := h2 hg
  simp only at this
  rw [ByteArray.toList_eq, ByteArray.toList_eq] at this
  exact (cmpB_zero _ _).1 ((cmpL_zero _ _).2 this)
theorem row_ver {w : WriteT} {v : Int} (h : rowC (w.1, (1, w.2)) = 0) (h0 : 1 ≤ v) (h1 : v ≤ 1000000) : rowC (w.1, (v, w.2)) = 0 := by
  unfold rowC at h ⊢
  have hv : inB v 1 1000000 = true := by unfold inB; simp only [Bool.and_eq_true, decide_eq_true_eq]; omega
  have hv1 : inB 1 1 1000000 = true := by decide
  simp only [hv] at ⊢
  simp only [hv1] at h
  exact h
theorem rowsW_mem {v : Int} {ws : List WriteT} {y : RowT} : y ∈ rowsW v ws ↔ ∃ w ∈ ws, y = (w.1, (v, w.2)) := by
  unfold rowsW
  rw [List.mem_map]
  exact ⟨fun ⟨w, hw, e⟩ => ⟨w, hw, e.symm⟩, fun ⟨w, hw, e⟩ => ⟨w, hw, e.symm⟩⟩
theorem put_mem {M N : List RowT} {v : Int} {ws : List WriteT} (hM : ssrt M) (hN : N = (rowsW v ws).foldl putL M) (hb : ∀ r ∈ M, r.2.1 < v) (hk : ws.Pairwise fun a b => a.1 ≠ b.1) : ssrt N ∧ ∀ y, y ∈ N ↔ y ∈ M ∨ y ∈ rowsW v ws := by
  subst hN
  obtain ⟨n1, n2⟩ := putL_all (rowsW v ws) M hM
  refine ⟨n1, fun y => ?_⟩
  have ey : eqR y y = true := decide_eq_true (cfR_self y)
  constructor
  · intro hy
    have := (ssrt_find n1 y y).2 ⟨hy, ey⟩
    rw [n2] at this
    cases hm : M.find? (eqR y) with
    | some z => rw [hm, Option.some_or] at this; cases this; exact .inl (List.mem_of_find?_eq_some hm)
    | none => rw [hm, Option.none_or] at this; exact .inr (List.mem_of_find?_eq_some this)
  · intro hy
    have : ((rowsW v ws).foldl putL M).find? (eqR y) = some y := by
      rw [n2]
      rcases hy with hy | hy
      · rw [(ssrt_find hM y y).2 ⟨hy, ey⟩]; rfl
      · have hy' := hy
        obtain ⟨w, hw, rfl⟩ := rowsW_mem.1 hy
        have hn : M.find? (eqR (w.1, (v, w.2))) = none := List.find?_eq_none.2 fun x hx hxe => by
          have h1 := hb x hx
          have h2 := ((cfR_key x _).1 (of_decide_eq_true hxe)).2
          simp only at h2
          omega
        rw [hn, Option.none_or]
        cases hf : (rowsW v ws).find? (eqR (w.1, (v, w.2))) with
        | none => exact absurd ey (List.find?_eq_none.1 hf _ hy')
        | some z =>
          have hz := List.mem_of_find?_eq_some hf
          have hzt : eqR (w.1, (v, w.2)) z = true := List.find?_some hf
          have hze := (cfR_key z _).1 (of_decide_eq_true hzt)
          obtain ⟨u, hu, rfl⟩ := rowsW_mem.1 hz
          have hkey : u.1 = w.1 := hze.1
          obtain ⟨i, hi, rfl⟩ := List.getElem_of_mem hu
          obtain ⟨j, hj, rfl⟩ := List.getElem_of_mem hw
          rcases Nat.lt_trichotomy i j with q | q | q
          · exact absurd hkey (List.pairwise_iff_getElem.1 hk i j hi hj q)
          · subst q; rfl
          · exact absurd hkey.symm (List.pairwise_iff_getElem.1 hk j i hj hi q)
    exact List.mem_of_find?_eq_some this
def wroteE (e : EngT) (ws : List WriteT) (sync : Bool) : EngT := (cond sync (e.1.1 ++ (e.1.2 ++ frameD (packL e.2.2.2 ws)), []) (e.1.1, e.1.2 ++ frameD (packL e.2.2.2 ws)), ((rowsW e.2.2.2 ws).foldl putL e.2.1, (e.2.2.1, e.2.2.2 + 1)))
theorem write_zero {e : EngT} {ws : List WriteT} {b : Bool} (h : (writeR e ws b).1 = 0) : engC e = 0 ∧ wrC ws = 0 ∧ e.2.2.2 ≠ 1000000 ∧ e.1.1.length + (e.1.2 ++ frameD (packL e.2.2.2 ws)).length ≤ 6000 ∧ ((rowsW e.2.2.2 ws).foldl putL e.2.1).length ≤ 200 ∧ writeR e ws b = (0, (e.2.2.2, wroteE e ws b)) := by
  unfold writeR at h ⊢
  cases hc : engC e == 0 with
  | false => rw [hc] at h; exact absurd h (by have := hc; simpa using this)
  | true =>
    rw [hc] at h
    simp only [Bool.not_true, cond_false] at h ⊢
    cases hw : wrC ws == 0 with
    | false => rw [hw] at h; exact absurd h (by have := hw; simpa using this)
    | true =>
      rw [hw] at h
      simp only [Bool.not_true, cond_false] at h ⊢
      cases hn : e.2.2.2 == 1000000 with
      | true => rw [hn] at h; exact absurd (show (3 : Int) = 0 from h) (by decide)
      | false =>
        rw [hn] at h
        simp only [cond_false] at h ⊢
        by_cases h1 : e.1.1.length + (e.1.2 ++ frameD (packL e.2.2.2 ws)).length > 6000
        · rw [decide_eq_true h1] at h; exact absurd (show (2 : Int) = 0 from h) (by decide)
        · rw [decide_eq_false h1] at h ⊢
          simp only [cond_false] at h ⊢
          by_cases h2 : lenI ((rowsW e.2.2.2 ws).foldl putL e.2.1) > 200
          · rw [decide_eq_true h2] at h; exact absurd (show (2 : Int) = 0 from h) (by decide)
          · rw [decide_eq_false h2]
            rw [lenI_eq] at h2
            exact ⟨eq_of_beq hc, eq_of_beq hw, by simpa using hn, by omega, by omega, rfl⟩
theorem ec_write {e : EngT} {ws : List WriteT} {b : Bool} (hb : byB (e.1.1 ++ e.1.2)) (h : (writeR e ws b).1 = 0) : EC (wroteE e ws b) := by
  obtain ⟨z1, z2, z3, z4, z5, _⟩ := write_zero h
  have he := engC_ec z1
  have hn := he.nxt
  unfold inB at hn
  simp only [Bool.and_eq_true, decide_eq_true_eq] at hn
  obtain ⟨w1, w2, w3, w4⟩ := wrC_zero z2
  have hM := tabC_sorted he.mem
  have hbm := below_mem.1 he.bm
  obtain ⟨n1, n2⟩ := put_mem hM rfl hbm w3
  have hrow : ∀ r ∈ rowsW e.2.2.2 ws, r.2.1 = e.2.2.2 ∧ rowC r = 0 := fun r hr => by
    obtain ⟨w, hw, rfl⟩ := rowsW_mem.1 hr
    exact ⟨rfl, row_ver (w2 w hw) hn.1 hn.2⟩
  have hlog : logR (wroteE e ws b).1 (e.2.2.2 + 1) = ((rowsW e.2.2.2 ws).foldl putL (logR e.1 e.2.2.2).1, true) := by
    refine logR_grow he.log.1 hb hn.1 hn.2 z2 (wr_small z2) (by have := (packL_len e.2.2.2 ws).1; omega) ?_
    unfold wroteE
    cases b <;> simp
  have hlm : (logR e.1 e.2.2.2).1 = e.2.1 := sameR_eq he.log.2
  refine ⟨?_, ?_, he.cnt, he.tabs, ?_, ?_, fun t ht => ?_, ?_, fun y hy t ht => ?_⟩
  · unfold wroteE
    rw [List.length_append] at z4
    cases b <;> simp <;> omega
  · refine tabC_of n1 (fun r hr => ?_) z5
    rcases (n2 r).1 hr with q | q
    · exact (tabC_zero he.mem).2 r q
    · exact (hrow r q).2
  · show inB (e.2.2.2 + 1) 1 1000000 = true
    unfold inB; simp only [Bool.and_eq_true, decide_eq_true_eq]; omega
  · refine below_mem.2 fun r hr => ?_
    show r.2.1 < e.2.2.2 + 1
    rcases (n2 r).1 hr with q | q
    · have := hbm r q; omega
    · have := (hrow r q).1; omega
  · refine below_mem.2 fun r hr => ?_
    have := below_mem.1 (he.bt t ht) r hr
    show r.2.1 < e.2.2.2 + 1
    omega
  · show (logR (wroteE e ws b).1 (e.2.2.2 + 1)).2 = true ∧ sameR (logR (wroteE e ws b).1 (e.2.2.2 + 1)).1 ((rowsW e.2.2.2 ws).foldl putL e.2.1) = true
    rw [hlog, hlm]
    exact ⟨rfl, sameR_refl _⟩
  · refine below_mem.2 fun r hr => ?_
    rcases (n2 y).1 hy with q | q
    · exact below_mem.1 (he.ord y q t ht) r hr
    · have := below_mem.1 (he.bt t ht) r hr
      have := (hrow y q).1
      omega
end Go.Rv
