/- Sorting a row that is lent: from the kit. No condition. -/
import Derived.Test.YtbeplmdadjgamaaGreatRvS
import Derived.Shelf.SlSortCmp.NoneTotal
namespace Go.Rv
open Go.Proofs Go.Shelf Go.RowKit Go.Lib Go.Sort

theorem flatten_get {V : Type} (k : Nat) (hk : 0 < k) : ∀ (l : List (List V)), (∀ x ∈ l, x.length = k) → ∀ t : Nat, l.flatten[t]? = (l[t / k]?).bind fun x => x[t % k]?
  | [], _, t => by simp
  | x :: l, h, t => by
    have hx := h x List.mem_cons_self
    rw [List.flatten_cons]
    by_cases ht : t < k
    · rw [List.getElem?_append_left (by omega), Nat.div_eq_of_lt ht, Nat.mod_eq_of_lt ht]; rfl
    · rw [List.getElem?_append_right (by omega), hx, flatten_get k hk l (fun y hy => h y (List.mem_cons_of_mem _ hy)) (t - k)]
      have h1 : t / k = (t - k) / k + 1 := by
        rw [← Nat.add_div_right _ hk]; congr 1; omega
      have h2 : t % k = (t - k) % k := by rw [Nat.mod_eq_sub_mod (by omega)]
      rw [h1, h2, List.getElem?_cons_succ]

theorem flatK_flat {α : Type} [Inhabited α] (enc : α → List Value) (k : Nat) (hk0 : 0 < k) (hk : ∀ x, (enc x).length = k) (d : Array α) : (flatK enc k d).toList = (d.toList.map enc).flatten := by
  apply List.ext_getElem?
  intro t
  rw [flatten_get k hk0 _ (fun x hx => by obtain ⟨y, _, rfl⟩ := List.mem_map.1 hx; exact hk y)]
  by_cases ht : t < d.size * k
  · have hd : t / k < d.size := (Nat.div_lt_iff_lt_mul hk0).2 ht
    have hm : t % k < (enc d[t / k]).length := by rw [hk]; exact Nat.mod_lt _ hk0
    have h1 : (flatK enc k d)[t]! = (enc d[t / k]!)[t % k]! := get_flatK enc k d t ht
    have ht' : t < (flatK enc k d).size := by simpa using ht
    rw [getElem!_pos (flatK enc k d) t ht', getElem!_pos d _ hd, getElem!_pos (enc d[t / k]) _ hm] at h1
    rw [Array.getElem?_toList, Array.getElem?_eq_getElem ht', h1]
    simp [hd, hm]
  · have hd : ¬ t / k < d.size := fun h => ht ((Nat.div_lt_iff_lt_mul hk0).1 h)
    rw [List.getElem?_eq_none (by simp; omega), List.getElem?_eq_none (by simp; omega)]
    rfl

def sortL {α : Type} [Inhabited α] (cf : α → α → Int) (d : List α) : List α := (pdq (ltOf cf) d.toArray 0 d.length (Lib.bitLen d.length) true true).toList

theorem sort_turns {P : Program} {ρ : Ren} {α : Type} [Inhabited α] (L : SlLaysF0.n6 P ρ) (k : Nat) (hk0 : 0 < k) (aE : ∀ w, (isAgg (ρ.t 24)).run P w = .ok true w) (zE : ∀ w, (Go.sizeOf (ρ.t 24)).run P w = .ok k w) (enc : α → List Value) (hk : ∀ x, (enc x).length = k) (h1 : ∀ x, ∀ v ∈ enc x, v.oneCell' = true)
    (cf : α → α → Int) (hO : SWO (ltOf cf)) (g : Nat) (eg : ∀ args w, (callFunc g args).run P w = .ok (.enter g args) w) (hcmp : ∀ (w : World) (blk size : Nat), CmpLays P g #[] enc k cf blk 0 size w)
    (w : World) (b cap t : Nat) (cur : Array Value) (d : List α) (hdc : d.length ≤ cap) (hb : w.heap[b]? = some (.cells cur t (0, 0))) (hcs : cur.size = cap * k) (htk : cur.toList.take (d.length * k) = (d.map enc).flatten) (hlen : d.length < 4611686018427387904) :
    (sortL cf d).length = d.length ∧ Calls P (ρ.f 6) #[.slice (some ⟨b, 0, none⟩) d.length cap, .func (.func g) #[] #[]] w fun en w' => en = .returned (.tuple #[]) ∧ TurnsRow w b t k d.length cap ((sortL cf d).map enc).flatten w' := by
  have hbl : b < w.heap.size := (Array.getElem?_eq_some_iff.1 hb).1
  have hfk := flatK_flat enc k hk0 hk d.toArray
  have hfk : (flatK enc k d.toArray).toList = (d.map enc).flatten := hfk
  have hfs : (flatK enc k d.toArray).size = d.length * k := by simp
  have hH : HoldsK enc k w b 0 d.toArray := by
    intro j hj
    rw [hfs] at hj
    have hj2 : j < cur.size := by rw [hcs]; exact Nat.lt_of_lt_of_le hj (Nat.mul_le_mul_right _ hdc)
    have hcell : cur[j]? = some ((flatK enc k d.toArray)[j]!) := by
      have h2 : (flatK enc k d.toArray).toList[j]? = cur.toList[j]? := by
        rw [hfk, ← htk, List.getElem?_take, if_pos hj]
      rw [getElem!_pos _ j (by rw [hfs]; exact hj), ← Array.getElem?_eq_getElem, ← Array.getElem?_toList (xs := flatK enc k d.toArray), h2, Array.getElem?_toList]
    constructor
    · simp [World.cell?, hb, hcell]
    · simp [World.frozen?, hb]
  have hp := pdq_sorts (ltOf cf) hO d.toArray 0 d.length (Lib.bitLen d.length) true true (Nat.zero_le _) (by simp) (Or.inl rfl)
  have hl : (sortL cf d).length = d.length := by
    have := hp.1.1
    simpa [sortL] using this
  refine ⟨hl, ?_⟩
  have hS := AnyQ.slices_SortFunc_eq L k aE zE enc hk h1 cf hO g #[] b 0 cap d.toArray w eg (hcmp w b _) hH hbl (by simpa using hlen)
  simp only [List.size_toArray] at hS
  refine hS.mono ?_
  rintro en w' ⟨rfl, n, os, rfl⟩
  refine ⟨rfl, rfl, rfl, rfl, ?_, ?_, ?_⟩
  · simp [sortWorldK, grow, putRowK, putRow, mapBlock, Sort.ahead]
  · intro b' hb' hne
    simp only [sortWorldK, grow, putRowK, putRow, mapBlock, Sort.ahead]
    rw [Array.getElem?_append_left (by simpa using hb'), Array.getElem?_modify, if_neg (fun h => hne h.symm)]
  · have hss : (pdq (ltOf cf) d.toArray 0 d.length (Lib.bitLen d.length) true true).size = d.length := by
      have := hp.1.1
      simpa using this
    have hfs2 := flatK_flat enc k hk0 hk (pdq (ltOf cf) d.toArray 0 d.length (Lib.bitLen d.length) true true)
    have hFs : (flatK enc k (pdq (ltOf cf) d.toArray 0 d.length (Lib.bitLen d.length) true true)).size = d.length * k := by simp [hss]
    refine ⟨putCells id 0 (flatK enc k (pdq (ltOf cf) d.toArray 0 d.length (Lib.bitLen d.length) true true)) cur, ?_, ?_, ?_⟩
    · simp only [sortWorldK, grow, putRowK, putRow, mapBlock, Sort.ahead]
      rw [Array.getElem?_append_left (by simpa using hbl), Array.getElem?_modify, if_pos rfl, hb]
      rfl
    · simp [putCells, hcs]
    · show _ = (((pdq (ltOf cf) d.toArray 0 d.length (Lib.bitLen d.length) true true).toList).map enc).flatten
      rw [← hfs2]
      generalize flatK enc k (pdq (ltOf cf) d.toArray 0 d.length (Lib.bitLen d.length) true true) = F at hFs
      apply List.ext_getElem?
      intro j
      rw [List.getElem?_take]
      by_cases hj : j < d.length * k
      · have hj2 : j < cur.size := by rw [hcs]; exact Nat.lt_of_lt_of_le hj (Nat.mul_le_mul_right _ hdc)
        have hjF : j < F.size := by rw [hFs]; exact hj
        rw [if_pos hj, Array.getElem?_toList, Array.getElem?_toList]
        simp [putCells, hj2, hjF]
      · rw [if_neg hj, Array.getElem?_toList, Array.getElem?_eq_none (by rw [hFs]; omega)]
end Go.Rv
namespace Go.Rv
open Go.Proofs Go.Shelf Go.RowKit Go.Lib Go.Sort

noncomputable def sortRun {α : Type} (ok : α → Bool) (d0 : α) (h0 : ok d0 = true) (cf : α → α → Int) (xs : List α) : Option (List α) :=
  if h : xs.length < 4611686018427387904 ∧ ∀ x ∈ xs, ok x = true then some ((@sortL {x // ok x = true} ⟨⟨d0, h0⟩⟩ (fun a b => cf a.1 b.1) (xs.attachWith (fun x => ok x = true) h.2)).map (·.1)) else none

theorem sortL_perm {α : Type} [Inhabited α] {cf : α → α → Int} (hO : SWO (ltOf cf)) (d : List α) : (sortL cf d).Perm d ∧ (sortL cf d).Pairwise fun a b => ¬ cf b a < 0 := by
  have hp := pdq_sorts (ltOf cf) hO d.toArray 0 d.length (Lib.bitLen d.length) true true (Nat.zero_le _) (by simp) (Or.inl rfl)
  obtain ⟨⟨h1, _, h2⟩, h3⟩ := hp
  generalize hS : pdq (ltOf cf) d.toArray 0 d.length (Lib.bitLen d.length) true true = S at h1 h2 h3
  have e : sortL cf d = S.toList := by rw [sortL, hS]
  have hs : S.size = d.length := by simpa using h1
  have hse : (S.extract 0 d.length).toList = S.toList := by
    rw [← hs]; simp
  have hde : (d.toArray.extract 0 d.length).toList = d := by simp
  constructor
  · rw [e]; rw [hse, hde] at h2; exact h2
  · rw [e, List.pairwise_iff_getElem]
    intro i j hi hj hij
    have hi' : i < S.size := by simpa using hi
    have hj' : j < S.size := by simpa using hj
    have := h3 i j (Nat.zero_le _) hij (by omega)
    rw [getElem!_pos S i hi', getElem!_pos S j hj'] at this
    simpa [ltOf] using this

theorem sortRun_some {α : Type} {ok : α → Bool} {d0 : α} {h0 : ok d0 = true} {cf : α → α → Int} (hO : SWO (ltOf fun a b : {x // ok x = true} => cf a.1 b.1)) {xs : List α} (hl : xs.length < 4611686018427387904) (h : ∀ x ∈ xs, ok x = true) :
    ∃ ys, sortRun ok d0 h0 cf xs = some ys ∧ ys.Perm xs ∧ ys.Pairwise fun a b => ¬ cf b a < 0 := by
  obtain ⟨h1, h2⟩ := @sortL_perm {x // ok x = true} ⟨⟨d0, h0⟩⟩ _ hO (xs.attachWith (fun x => ok x = true) h)
  refine ⟨_, dif_pos ⟨hl, h⟩, ?_, ?_⟩
  · have := h1.map (·.1)
    simpa using this
  · exact List.pairwise_map.2 h2

theorem sound_sort {P : Program} {ρ : Ren} (L : SlLaysF0.n6 P ρ) {t g : Nat} {e : Kd} (hro : e.ro = true) {enc : e.ty → List Value} (henc : ∀ (w : World) (C : Col) (R : Nat → Prop) (i : Nat) (x : e.ty) (p : List Nat) (c : List Value), Rp w C R i e x p c ↔ c = enc x)
    (hk0 : 0 < e.size) (hk : ∀ x, (enc x).length = e.size) (h1 : ∀ x, ∀ v ∈ enc x, v.oneCell' = true) (aE : ∀ w, (isAgg (ρ.t 24)).run P w = .ok true w) (zE : ∀ w, (Go.sizeOf (ρ.t 24)).run P w = .ok e.size w)
    {ok : e.ty → Bool} {d0 : e.ty} {h0 : ok d0 = true} {cf : e.ty → e.ty → Int} (hO : SWO (ltOf fun a b : {x // ok x = true} => cf a.1 b.1)) (eg : ∀ args w, (callFunc g args).run P w = .ok (.enter g args) w)
    (hcmp : ∀ (W : World) (x y : e.ty), ok x = true → ok y = true → Calls P g #[.agg (enc x).toArray, .agg (enc y).toArray] W fun en w' => en = .returned (.int .i64 (cf x y)) ∧ ∃ q os', w' = grow (W.drewN q) os') : Sound P (ρ.f 6) (SRow t e g (sortRun ok d0 h0 cf)) := by
  letI : Inhabited {x // ok x = true} := ⟨⟨d0, h0⟩⟩
  have hc' : ∀ (w : World) (blk size : Nat), CmpLays P g #[] (fun x : {x // ok x = true} => enc x.1) e.size (fun a b => cf a.1 b.1) blk 0 size w := by
    intro w blk size m os dk hs x y
    have := hcmp (sortWorldK (fun x : {x // ok x = true} => enc x.1) e.size w blk 0 m dk os) x.1 y.1 x.2 y.2
    simpa using this
  refine sound_row hro henc ?_ ?_
  · intro A w ys hys
    have e0 : ys = [] := by
      unfold sortRun at hys
      rw [dif_pos ⟨by simp, fun x hx => by cases hx⟩] at hys
      have hp := (sortL_perm hO (([] : List e.ty).attachWith (fun x => ok x = true) (fun x hx => by cases hx))).1
      have h0 := hp.length_eq
      simp only [List.attachWith_nil, List.length_nil] at h0
      simp only [Option.some.injEq, List.attachWith_nil] at hys
      rw [← hys, List.map_eq_nil_iff]
      exact List.length_eq_zero_iff.1 h0
    exact ⟨e0, AnyF.slices_SortFunc_none (P := P) (ρ := ρ) L A 0 _ w⟩
  · intro w b cap cur xs ys hcap hle hmax hb hcs htk hys
    unfold sortRun at hys
    by_cases hall : xs.length < 4611686018427387904 ∧ ∀ x ∈ xs, ok x = true
    · rw [dif_pos hall] at hys
      obtain ⟨hlx, hall⟩ := hall
      have hys := Option.some.inj hys
      have hl : (xs.attachWith (fun x => ok x = true) hall).length = xs.length := by simp
      have hS := sort_turns L e.size hk0 aE zE (fun x : {x // ok x = true} => enc x.1) (fun x => hk x.1) (fun x => h1 x.1) (fun a b => cf a.1 b.1) hO g eg hc' w b cap t cur (xs.attachWith (fun x => ok x = true) hall) (by rw [hl]; exact hle) hb hcs
        (by rw [hl, htk]; congr 1; simp) (by rw [hl]; omega)
      obtain ⟨q1, q2⟩ := hS
      rw [hl] at q1 q2
      rw [← hys]
      refine ⟨by simp [q1], ?_⟩
      refine q2.mono fun en w' h => ⟨h.1, ?_⟩
      have := h.2
      simpa [List.map_map, Function.comp_def] using this
    · rw [dif_neg hall] at hys; cases hys
end Go.Rv
