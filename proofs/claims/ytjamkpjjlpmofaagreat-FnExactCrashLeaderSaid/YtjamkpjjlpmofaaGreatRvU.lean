/- Shards: plain facts. No condition. -/
import Derived.Test.YtjamkpjjlpmofaaGreatRvMt
import Derived.Test.YtjamkpjjlpmofaaGreatRvT
namespace Go.Rv
abbrev ShdT := Int × ((List BalT) × ((List MarkT) × ((List ConT) × ((List MarkT) × (List Int)))))
def legsA (xs : List LegT) (a : Int) : List LegT := xs.filter fun y => y.1 == a
def findM (xs : List MarkT) (c : Int) : Int := ((xs.find? fun m => m.1 == c).map (·.2)).getD 0
def markStep (xs : List MarkT) (i : Nat) (m : MarkT) : Option Int := cond (!(idB m.1 && vlu m.2)) (some 3) (cond (decide (0 < i) && decide (m.1 ≤ (xs[i - 1]?.getD m).1)) (some 1) none)
def markC (xs : List MarkT) : Int := (fstI (markStep xs) 0 xs).getD 0
def upM (xs : List MarkT) : Prop := xs.Pairwise fun a b => a.1 < b.1

theorem fst_all {α : Type} (f : Nat → α → Option Int) (xs : List α) : ∀ (ys : List α) (i : Nat),xs.drop i = ys → fstI f i ys = none → ∀ (j : Nat) (hj : j < xs.length),i ≤ j → f j xs[j] = none
 | [],i,hd,_,j,hj,hij => by
  have := congrArg List.length hd
  rw [List.length_drop] at this
  simp at this; omega
 | y :: ys,i,hd,h,j,hj,hij => by
  have hlt : i < xs.length := by
   rcases Nat.lt_or_ge i xs.length with q | q
   ·exact q
   ·rw [List.drop_eq_nil_of_le q] at hd; cases hd
  rw [List.drop_eq_getElem_cons hlt] at hd
  have q1 := (List.cons.inj hd).1
  have q2 := (List.cons.inj hd).2
  simp only [fstI] at h
  cases hf : f i y with
  | some r => rw [hf] at h; cases h
  | none =>
   rw [hf] at h
   rcases Nat.eq_or_lt_of_le hij with e | e
   ·subst e; rw [q1]; exact hf
   ·exact fst_all f xs ys (i + 1) q2 h j hj e
theorem fst_none {α : Type} {f : Nat → α → Option Int} {xs : List α} (h : fstI f 0 xs = none) (j : Nat) (hj : j < xs.length) : f j xs[j] = none := fst_all f xs xs 0 (by rw [List.drop_zero]) h j hj (Nat.zero_le _)
theorem fst_getD {α : Type} {f : Nat → α → Option Int} (hf : ∀ i x,f i x ≠ some 0) : ∀ (xs : List α) (i : Nat),(fstI f i xs).getD 0 = 0 ↔ fstI f i xs = none
 | [],_ => by simp [fstI]
 | x :: xs,i => by
  simp only [fstI]
  cases h : f i x with
  | some r => simp only [Option.getD_some,reduceCtorEq,iff_false]; exact fun e => hf i x (by rw [h,e])
  | none => exact fst_getD hf xs (i + 1)
theorem up_of {α : Type} (k : α → Int) : ∀ (xs : List α),(∀ (i : Nat) (h : i + 1 < xs.length),k xs[i] < k xs[i + 1]) → xs.Pairwise fun a b => k a < k b
 | [],_ => List.Pairwise.nil
 | [x],_ => by simp
 | x :: y :: r,h => by
  have ih := up_of k (y :: r) (fun i hi => by have := h (i + 1) (by simpa using hi); simpa using this)
  have h0 := h 0 (by simp)
  simp at h0
  refine List.pairwise_cons.2 ⟨fun z hz => ?_,ih⟩
  rcases List.mem_cons.1 hz with rfl | hz
  ·exact h0
  ·exact Int.lt_trans h0 ((List.pairwise_cons.1 ih).1 z hz)
theorem markStep_ne (xs : List MarkT) (i : Nat) (m : MarkT) : markStep xs i m ≠ some 0 := by
 unfold markStep
 cases idB m.1 && vlu m.2 with
 | false => simp
 | true => cases decide (0 < i) && decide (m.1 ≤ (xs[i - 1]?.getD m).1) <;> simp
theorem markC_zero {xs : List MarkT} (h : markC xs = 0) : upM xs ∧ ∀ m ∈ xs,idB m.1 = true ∧ vlu m.2 = true := by
 have hn := (fst_getD (markStep_ne xs) xs 0).1 h
 have key := fun j hj => fst_none hn j hj
 constructor
 ·refine up_of (·.1) xs fun i hi => ?_
  have := key (i + 1) hi
  unfold markStep at this
  cases hq : idB xs[i + 1].1 && vlu xs[i + 1].2 with
  | false => rw [hq] at this; cases this
  | true =>
   rw [hq] at this
   simp only [Bool.not_true,cond_false,Nat.zero_lt_succ,decide_true,Bool.true_and,Nat.add_sub_cancel,List.getElem?_eq_getElem (show i < xs.length by omega),Option.getD_some] at this
   cases hd : decide (xs[i + 1].1 ≤ xs[i].1) with
   | true => rw [hd] at this; cases this
   | false => have := of_decide_eq_false hd; omega
 ·intro m hm
  obtain ⟨j,hj,rfl⟩ := List.getElem_of_mem hm
  have := key j hj
  unfold markStep at this
  cases hq : idB xs[j].1 && vlu xs[j].2 with
  | false => rw [hq] at this; cases this
  | true => simpa using hq

theorem up_find {α : Type} (k : α → Int) {xs : List α} (hu : xs.Pairwise fun a b => k a < k b) (c : Int) (j : Nat) (hj : j ≤ xs.length) (h1 : ∀ (i : Nat) (h : i < xs.length),i < j → k xs[i] < c) (h2 : ∀ (i : Nat) (h : i < xs.length),j ≤ i → ¬ k xs[i] < c) :
  xs.find? (fun m => k m == c) = if h : j < xs.length then (if k xs[j] = c then some xs[j] else none) else none := by
 have split : xs = xs.take j ++ xs.drop j := (List.take_append_drop j xs).symm
 have hA : (xs.take j).find? (fun m => k m == c) = none := by
  rw [List.find?_eq_none]
  intro m hm
  obtain ⟨i,hi,rfl⟩ := List.getElem_of_mem hm
  rw [List.length_take] at hi
  rw [List.getElem_take]
  have := h1 i (by omega) (by omega)
  simp; omega
 by_cases hlt : j < xs.length
 ·rw [dif_pos hlt]
  have eF : xs.find? (fun m => k m == c) = (xs[j] :: xs.drop (j + 1)).find? (fun m => k m == c) := by
   conv => lhs; rw [split,List.find?_append,hA,Option.none_or,List.drop_eq_getElem_cons hlt]
  rw [eF]
  by_cases hk : k xs[j] = c
  ·rw [List.find?_cons_of_pos (by simpa using hk),if_pos hk]
  ·rw [List.find?_cons_of_neg (by simpa using hk),if_neg hk,List.find?_eq_none]
   intro m hm
   obtain ⟨i,hi,rfl⟩ := List.getElem_of_mem hm
   rw [List.length_drop] at hi
   rw [List.getElem_drop]
   have a := List.pairwise_iff_getElem.1 hu j (j + 1 + i) hlt (by omega) (by omega)
   have b := h2 j hlt (Nat.le_refl _)
   simp; omega
 ·rw [dif_neg hlt]
  have : xs.take j = xs := List.take_of_length_le (by omega)
  rw [this] at hA
  exact hA

def heldBad (s : ShdT) (i : Nat) (c : ConT) : Bool := (decide (0 < i) && decide (c.1 ≤ (s.2.2.2.1[i - 1]?.getD c).1)) || ((legsA c.2 s.1).isEmpty || (!(findM s.2.2.1 c.1 == 1) || !(findM s.2.2.2.2.1 c.1 == 0)))
def heldStep (s : ShdT) (i : Nat) (c : ConT) : Option Int := cond (conC c == 0) (cond (heldBad s i c) (some 1) none) (some (conC c))
def openB (s : ShdT) (m : MarkT) : Bool := (m.2 == 1) && (!(s.2.2.2.1.any fun c => c.1 == m.1) && (findM s.2.2.2.2.1 m.1 == 0))
def doneL (xs : List MarkT) : List Int := (xs.filter fun m => m.2 == 1).map (·.1)
def appB (s : ShdT) : Bool := decide (sortI s.2.2.2.2.2 = doneL s.2.2.2.2.1)
def touchL (a b : List LegT) : Bool := a.any fun l => b.any fun o => (l.2.1 == o.2.1) && (l.2.2.1 == o.2.2.1)
def meetStep (s : ShdT) (i : Nat) (c : ConT) : Option Int := cond ((s.2.2.2.1.take i).any fun o => touchL (legsA c.2 s.1) (legsA o.2 s.1)) (some 7) none
def hasB (xs : List BalT) (a b : Int) : Int := ((xs.find? fun y => (y.1 == a) && (y.2.1 == b)).map (·.2.2)).getD 0
def legB (xs : List BalT) (l : LegT) : Int := cond (decide (IntKind.wrap .i64 (hasB xs l.2.1 l.2.2.1 + l.2.2.2) < 0)) 6 (cond (decide (IntKind.wrap .i64 (hasB xs l.2.1 l.2.2.1 + l.2.2.2) > 1000000000000)) 3 0)
def nz (r : Int) : Option Int := cond (r == 0) none (some r)
def legsB (xs : List BalT) (ls : List LegT) : Int := (fstI (fun _ l => nz (legB xs l)) 0 ls).getD 0
def heldC (s : ShdT) : Int := (fstI (heldStep s) 0 s.2.2.2.1).getD 0
def heldAll (s : ShdT) : Int := if heldC s ≠ 0 then heldC s else cond (s.2.2.1.any (openB s) || !(appB s)) 1 ((fstI (meetStep s) 0 s.2.2.2.1).getD ((fstI (fun _ c => nz (legsB s.2.1 (legsA c.2 s.1))) 0 s.2.2.2.1).getD 0))
def shardC (s : ShdT) : Int := cond (!(inB s.1 0 2)) 3 (if balCode s.2.1 ≠ 0 then balCode s.2.1 else if 100 < s.2.2.1.length ∨ 100 < s.2.2.2.1.length ∨ 100 < s.2.2.2.2.1.length ∨ 100 < s.2.2.2.2.2.length then 2 else
 if markC s.2.2.1 ≠ 0 then markC s.2.2.1 else if markC s.2.2.2.2.1 ≠ 0 then markC s.2.2.2.2.1 else heldAll s)

def SzS (s : ShdT) : Prop := s.2.1.length ≤ 1048576 ∧ s.2.2.1.length ≤ 1048576 ∧ s.2.2.2.1.length ≤ 1048576 ∧ s.2.2.2.2.1.length ≤ 1048576 ∧ s.2.2.2.2.2.length ≤ 1048576 ∧ ∀ c ∈ s.2.2.2.1,c.2.length ≤ 1048576
theorem legsA_len {xs : List LegT} {n : Nat} (h : xs.length ≤ n) (a : Int) : (legsA xs a).length ≤ n := Nat.le_trans (List.length_filter_le _ _) h
theorem nz_ne (r : Int) : nz r ≠ some 0 := by
 unfold nz
 cases h : r == 0 with
 | true => simp
 | false => simp only [cond_false,ne_eq,Option.some.injEq]; simpa using h
theorem heldStep_ne (s : ShdT) (i : Nat) (c : ConT) : heldStep s i c ≠ some 0 := by
 unfold heldStep
 cases h : conC c == 0 with
 | true => cases heldBad s i c <;> simp
 | false => simp only [cond_false,ne_eq,Option.some.injEq]; simpa using h
theorem heldC_zero {s : ShdT} (h : heldC s = 0) : (∀ c ∈ s.2.2.2.1,conC c = 0 ∧ legsA c.2 s.1 ≠ [] ∧ findM s.2.2.1 c.1 = 1 ∧ findM s.2.2.2.2.1 c.1 = 0) ∧ s.2.2.2.1.Pairwise fun a b => a.1 < b.1 := by
 have hn := (fst_getD (heldStep_ne s) s.2.2.2.1 0).1 h
 have key : ∀ (j : Nat) (hj : j < s.2.2.2.1.length),conC s.2.2.2.1[j] = 0 ∧ heldBad s j s.2.2.2.1[j] = false := by
  intro j hj
  have := fst_none hn j hj
  unfold heldStep at this
  cases hc : conC s.2.2.2.1[j] == 0 with
  | false => rw [hc] at this; cases this
  | true =>
   rw [hc] at this
   refine ⟨by simpa using hc,?_⟩
   cases hb : heldBad s j s.2.2.2.1[j] with
   | false => rfl
   | true => rw [hb] at this; cases this
 constructor
 ·intro c hc
  obtain ⟨j,hj,rfl⟩ := List.getElem_of_mem hc
  obtain ⟨q1,q2⟩ := key j hj
  unfold heldBad at q2
  simp only [Bool.or_eq_false_iff,Bool.not_eq_false',beq_iff_eq] at q2
  refine ⟨q1,?_,q2.2.2.1,q2.2.2.2⟩
  intro e
  have := q2.2.1
  rw [e] at this; cases this
 ·refine up_of (fun c : ConT => c.1) s.2.2.2.1 fun i hi => ?_
  obtain ⟨_,q2⟩ := key (i + 1) hi
  unfold heldBad at q2
  simp only [Bool.or_eq_false_iff] at q2
  have := q2.1
  simp only [Nat.zero_lt_succ,decide_true,Bool.true_and,Nat.add_sub_cancel,List.getElem?_eq_getElem (show i < s.2.2.2.1.length by omega),Option.getD_some] at this
  have := of_decide_eq_false this
  omega

theorem find_at {α : Type} (p : α → Bool) : ∀ xs : List α,xs.find? p = (xs.findIdx? p).bind fun i => xs[i]?
 | [] => rfl
 | x :: xs => by
  rw [List.find?_cons,List.findIdx?_cons]
  cases h : p x with
  | true => rfl
  | false =>
   simp only [find_at p xs,Bool.false_eq_true]
   cases xs.findIdx? p <;> simp

theorem up_same : ∀ (xs ys : List Int),xs.Pairwise (· < ·) → ys.Pairwise (· < ·) → (∀ v,v ∈ xs ↔ v ∈ ys) → xs = ys
 | [],[],_,_,_ => rfl
 | [],y :: ys,_,_,h => absurd ((h y).2 (by simp)) (by simp)
 | x :: xs,[],_,_,h => absurd ((h x).1 (by simp)) (by simp)
 | x :: xs,y :: ys,h1,h2,h => by
  obtain ⟨a1,a2⟩ := List.pairwise_cons.1 h1
  obtain ⟨b1,b2⟩ := List.pairwise_cons.1 h2
  have e : x = y := by
   rcases List.mem_cons.1 ((h x).1 (by simp)) with e | hx
   ·exact e
   ·rcases List.mem_cons.1 ((h y).2 (by simp)) with e | hy
    ·exact e.symm
    ·have := a1 y hy; have := b1 x hx; omega
  subst e
  rw [up_same xs ys a2 b2 fun v => ?_]
  have hv := h v
  simp only [List.mem_cons] at hv
  constructor
  ·intro hm
   rcases hv.1 (.inr hm) with rfl | q
   ·exact absurd (a1 v hm) (Int.lt_irrefl _)
   ·exact q
  ·intro hm
   rcases hv.2 (.inr hm) with rfl | q
   ·exact absurd (b1 v hm) (Int.lt_irrefl _)
   ·exact q
theorem sortI_perm (xs : List Int) : (sortI xs).Perm xs := List.mergeSort_perm _ _
theorem sortI_le (xs : List Int) : (sortI xs).Pairwise (· ≤ ·) := by
 have := List.pairwise_mergeSort (le := fun x y : Int => decide (x ≤ y)) (fun a b c h1 h2 => by simp at *; omega) (fun a b => by simp; omega) xs
 exact this.imp (fun h => by simpa using h)
theorem sortI_up {xs : List Int} (h : xs.Nodup) : (sortI xs).Pairwise (· < ·) := by
 have h1 := sortI_le xs
 have h2 : (sortI xs).Nodup := (sortI_perm xs).nodup_iff.2 h
 rw [List.pairwise_iff_getElem]
 intro i j hi hj hij
 have a := List.pairwise_iff_getElem.1 h1 i j hi hj hij
 have b := nodup_ne h2 hij hj
 omega
theorem nodup_len : ∀ (l m : List Int),l.Nodup → (∀ a ∈ l,a ∈ m) → l.length ≤ m.length
 | [],m,_,_ => by simp
 | x :: l,m,hn,hs => by
  rw [List.nodup_cons] at hn
  have hx := hs x (by simp)
  have := nodup_len l (m.erase x) hn.2 (fun a ha => by
   have hne : a ≠ x := fun e => hn.1 (e ▸ ha)
   exact (List.mem_erase_of_ne hne).2 (hs a (List.mem_cons_of_mem _ ha)))
  rw [List.length_erase_of_mem hx] at this
  have hm : 0 < m.length := List.length_pos_of_mem hx
  rw [List.length_cons]; omega
theorem findM_mem {xs : List MarkT} (hu : upM xs) (c : Int) : findM xs c = 1 ↔ c ∈ doneL xs := by
 unfold findM doneL
 constructor
 ·intro h
  cases hf : xs.find? (fun m => m.1 == c) with
  | none => rw [hf] at h; cases h
  | some m =>
   rw [hf] at h
   have h1 := List.mem_of_find?_eq_some hf
   have h2 := List.find?_some hf
   simp only [Option.map_some,Option.getD_some] at h
   simp only [beq_iff_eq] at h2
   exact List.mem_map.2 ⟨m,List.mem_filter.2 ⟨h1,by simpa using h⟩,h2⟩
 ·intro h
  obtain ⟨m,hm,rfl⟩ := List.mem_map.1 h
  obtain ⟨hm,h1⟩ := List.mem_filter.1 hm
  simp only [beq_iff_eq] at h1
  cases hf : xs.find? (fun q => q.1 == m.1) with
  | none => exact absurd (List.find?_eq_none.1 hf m hm) (by simp)
  | some q =>
   have h2 := List.find?_some hf
   have h3 := List.mem_of_find?_eq_some hf
   simp only [beq_iff_eq] at h2
   have : q = m := by
    obtain ⟨i,hi,rfl⟩ := List.getElem_of_mem h3
    obtain ⟨j,hj,rfl⟩ := List.getElem_of_mem hm
    rcases Nat.lt_trichotomy i j with q | q | q
    ·have := List.pairwise_iff_getElem.1 hu i j hi hj q; omega
    ·subst q; rfl
    ·have := List.pairwise_iff_getElem.1 hu j i hj hi q; omega
   rw [this]; simpa using h1
theorem doneL_up {xs : List MarkT} (hu : upM xs) : (doneL xs).Pairwise (· < ·) := by
 unfold doneL
 exact List.pairwise_map.2 (List.Pairwise.sublist List.filter_sublist hu)
theorem app_iff {done : List MarkT} (hu : upM done) (ap : List Int) :
  (ap.Nodup ∧ (∀ a ∈ ap,findM done a = 1) ∧ (doneL done).length = ap.length) ↔ sortI ap = doneL done := by
 have hd := doneL_up hu
 have hdn : (doneL done).Nodup := hd.imp fun {a b} h => by omega
 constructor
 ·rintro ⟨h1,h2,h3⟩
  refine up_same _ _ (sortI_up h1) hd fun v => ?_
  rw [(sortI_perm ap).mem_iff]
  constructor
  ·intro hv; exact (findM_mem hu v).1 (h2 v hv)
  ·intro hv
   by_cases hva : v ∈ ap
   ·exact hva
   ·have := nodup_len (v :: ap) (doneL done) (List.nodup_cons.2 ⟨hva,h1⟩) (fun a ha => by
     rcases List.mem_cons.1 ha with rfl | ha
     ·exact hv
     ·exact (findM_mem hu a).1 (h2 a ha))
    rw [List.length_cons] at this
    omega
 ·intro h
  have hp := sortI_perm ap
  rw [h] at hp
  exact ⟨hp.nodup_iff.1 hdn,fun a ha => (findM_mem hu a).2 (hp.mem_iff.2 ha),hp.length_eq⟩
end Go.Rv
namespace Go.Rv
theorem conC_zero {c : ConT} (h : conC c = 0) : idB c.1 = true ∧ c.2.length ≤ 8 ∧ ∀ l ∈ c.2,shB l.1 = true := by
 unfold conC at h
 cases h1 : idB c.1 with
 | false => rw [h1] at h; exact absurd (show (3 : Int) = 0 from h) (by decide)
 | true =>
  rw [h1] at h
  simp only [Bool.not_true,cond_false] at h
  split at h
  ·exact absurd h (by decide)
  ·rename_i hl
   refine ⟨rfl,by omega,?_⟩
   have hf : fstI (legStep c.2) 0 c.2 = none := by
    cases hs : fstI (legStep c.2) 0 c.2 with
    | none => rfl
    | some r =>
     rw [hs] at h
     simp only at h
     exfalso
     have key : ∀ (ys : List LegT) (i : Nat),fstI (legStep c.2) i ys = some r → r ≠ 0 := by
      intro ys
      induction ys with
      | nil => intro i h; cases h
      | cons y ys ih =>
       intro i h
       simp only [fstI] at h
       cases hq : legStep c.2 i y with
       | none => rw [hq] at h; exact ih (i + 1) h
       | some q =>
        rw [hq] at h
        simp only [Option.some.injEq] at h
        subst h
        unfold legStep at hq
        cases hc : legC y == 0 with
        | true =>
         rw [hc] at hq
         cases hd : (c.2.take i).any fun o => sameP o y with
         | true => rw [hd] at hq; simp only [cond_true,Option.some.injEq] at hq; omega
         | false => rw [hd] at hq; cases hq
        | false =>
         rw [hc] at hq
         simp only [cond_false,Option.some.injEq] at hq
         rw [← hq]; simpa using hc
     exact key _ _ hs h
   intro l hl
   exact (legC_zero (fst_ok c.2 0 hf l hl)).1
end Go.Rv
