/- Acceptors: plain facts. No condition. -/
import Derived.Test.YtjamkpjjlpmofaaGreatRvMv
import Derived.Test.YtjamkpjjlpmofaaGreatRvMt
import Derived.Test.YtjamkpjjlpmofaaGreatRvM
namespace Go.Rv
def aheadB (a b : SlotT) : Bool := if a.1 = b.1 then decide (a.2.1 < b.2.1) else decide (a.1 < b.1)
def accStep (xs : List SlotT) (i : Nat) (y : SlotT) : Option Int := cond (!(slotCode y == 0)) (some (slotCode y)) (cond (decide (0 < i) && !(aheadB (xs[i - 1]?.getD y) y)) (some 1) none)
def accCode (xs : List SlotT) : Int := if xs.length > 60 then 2 else (match fstI (accStep xs) 0 xs with | some r => r | none => 0)
theorem accGo_zero (xs : List SlotT) : ∀ (ys : List SlotT) (i : Nat),(fstI (accStep xs) i ys = none ∨ fstI (accStep xs) i ys = some 0) → ∀ j,(h : j < ys.length) → slotCode ys[j] = 0 ∧ (0 < i + j → aheadB (xs[i + j - 1]?.getD ys[j]) ys[j] = true)
 | [],_,_,j,h => by cases h
 | y :: ys,i,hf,j,h => by
  have h1 : accStep xs i y = none := by
   simp only [fstI] at hf
   cases hs : accStep xs i y with
   | none => rfl
   | some r =>
    rw [hs] at hf
    unfold accStep at hs
    cases hc : (slotCode y == 0) with
    | false =>
     rw [hc] at hs
     simp only [Bool.not_false,cond_true,Option.some.injEq] at hs
     rcases hf with hf | hf
     ·cases hf
     ·rw [Option.some.injEq] at hf
      rw [beq_eq_false_iff_ne] at hc
      omega
    | true =>
     rw [hc] at hs
     cases hc2 : (decide (0 < i) && !(aheadB (xs[i - 1]?.getD y) y)) with
     | false => rw [hc2] at hs; cases hs
     | true =>
      rw [hc2] at hs
      simp only [Bool.not_true,cond_false,cond_true,Option.some.injEq] at hs
      subst hs
      rcases hf with hf | hf <;> cases hf
  have h2 : fstI (accStep xs) (i + 1) ys = none ∨ fstI (accStep xs) (i + 1) ys = some 0 := by
   simp only [fstI,h1] at hf; exact hf
  cases j with
  | succ j =>
   have := accGo_zero xs ys (i + 1) h2 j (by simpa using h)
   rw [show i + 1 + j = i + (j + 1) from by omega] at this
   exact this
  | zero =>
   unfold accStep at h1
   cases hc : (slotCode y == 0) with
   | false => rw [hc] at h1; cases h1
   | true =>
    rw [hc] at h1
    refine ⟨by simpa using hc,fun h0 => ?_⟩
    cases hc2 : (decide (0 < i) && !(aheadB (xs[i - 1]?.getD y) y)) with
    | true => rw [hc2] at h1; cases h1
    | false =>
     have : decide (0 < i) = true := decide_eq_true (by omega)
     rw [this] at hc2
     simpa using hc2
theorem accCode_zero {xs : List SlotT} (h : accCode xs = 0) : xs.length ≤ 60 ∧ (∀ x ∈ xs,slotCode x = 0) ∧ ∀ i (hi : i + 1 < xs.length),aheadB xs[i] xs[i + 1] = true := by
 unfold accCode at h
 split at h
 ·cases h
 ·rename_i hl
  have hf : fstI (accStep xs) 0 xs = none ∨ fstI (accStep xs) 0 xs = some 0 := by
   cases hs : fstI (accStep xs) 0 xs with
   | none => exact .inl rfl
   | some r => rw [hs] at h; simp only at h; subst h; exact .inr rfl
  have key := accGo_zero xs xs 0 hf
  refine ⟨by omega,fun x hx => ?_,fun i hi => ?_⟩
  ·obtain ⟨j,hj,rfl⟩ := List.getElem_of_mem hx
   exact (key j hj).1
  ·have := (key (i + 1) hi).2 (by omega)
   simp only [Nat.zero_add,Nat.add_sub_cancel,List.getElem?_eq_getElem (show i < xs.length by omega),Option.getD_some] at this
   exact this
theorem ahead_trans {a b c : SlotT} (h1 : aheadB a b = true) (h2 : aheadB b c = true) : aheadB a c = true := by
 unfold aheadB at *
 split at h1 <;> split at h2 <;> simp only [decide_eq_true_eq] at h1 h2 <;> split <;> simp only [decide_eq_true_eq] <;> omega
theorem acc_lt {xs : List SlotT} (h : ∀ i (hi : i + 1 < xs.length),aheadB xs[i] xs[i + 1] = true) : ∀ i j (_ : i < j) (hj : j < xs.length),aheadB (xs[i]'(by omega)) xs[j] = true := by
 intro i j hij
 induction j with
 | zero => omega
 | succ j ih =>
  intro hj
  rcases Nat.lt_or_ge i j with h' | h'
  ·exact ahead_trans (ih h' (by omega)) (h j hj)
  ·have : i = j := by omega
   subst this
   exact h i hj
def cmpS (a b : SlotT) : Int := if (if a.1 < b.1 then (-1 : Int) else if a.1 > b.1 then 1 else 0) = 0 then (if a.2.1 < b.2.1 then -1 else if a.2.1 > b.2.1 then 1 else 0) else (if a.1 < b.1 then -1 else if a.1 > b.1 then 1 else 0)
theorem cmpS_lt (a b : SlotT) : cmpS a b < 0 ↔ (a.1 < b.1 ∨ a.1 = b.1 ∧ a.2.1 < b.2.1) := by
 unfold cmpS
 by_cases h1 : a.1 < b.1 <;> by_cases h2 : a.1 > b.1 <;> by_cases h3 : a.2.1 < b.2.1 <;> by_cases h4 : a.2.1 > b.2.1 <;> simp [h1,h2,h3,h4] <;> omega
theorem cmpS_ahead (a b : SlotT) : decide (cmpS a b ≥ 0) = !(aheadB a b) := by
 have h := cmpS_lt a b
 have e : aheadB a b = decide (a.1 < b.1 ∨ a.1 = b.1 ∧ a.2.1 < b.2.1) := by
  unfold aheadB
  by_cases h1 : a.1 = b.1
  ·rw [if_pos h1]
   by_cases h2 : a.2.1 < b.2.1
   ·rw [decide_eq_true h2,decide_eq_true (.inr ⟨h1,h2⟩)]
   ·rw [decide_eq_false h2,decide_eq_false (by omega)]
  ·rw [if_neg h1]
   by_cases h2 : a.1 < b.1
   ·rw [decide_eq_true h2,decide_eq_true (.inl h2)]
   ·rw [decide_eq_false h2,decide_eq_false (by omega)]
 rw [e]
 by_cases hc : cmpS a b < 0
 ·have h1 := h.1 hc
  rw [decide_eq_false (show ¬ cmpS a b ≥ 0 by omega),decide_eq_true h1]; rfl
 ·have h1 : ¬ _ := fun q => hc (h.2 q)
  rw [decide_eq_true (show cmpS a b ≥ 0 by omega),decide_eq_false h1]; rfl
def isSlot (c d : Int) (s : SlotT) : Bool := (s.1 == c) && (s.2.1 == d)
def newS (c d : Int) : SlotT := (c,(d,(-1,((-1,0),[]))))
def slotOf (xs : List SlotT) (c d : Int) : SlotT := (xs.find? (isSlot c d)).getD (newS c d)
theorem grow_loop {α β : Type} (sz : Nat) (hs : sz ≤ 1024) (xs : List α) (f : α → Option β) (g : α → β) (h : ∀ x ∈ xs,f x = some (g x)) (hl : xs.length ≤ 1048576) :
  lp (fun rec (z : List β × Int) => cond (decide (z.2 < lenI xs)) ((geti xs z.2).bind fun y => (f y).bind fun r => chk (Nat.ble ((z.1.length + [r].length) * sz) maxBytes) (rec (z.1 ++ [r],IntKind.wrap .i64 (z.2 + (1 : Int))))) (some z.1)) FU ([],(0 : Int)) = some (xs.map g) := by
 refine lp_for (fun r => r = some (xs.map g)) (fun i z => z = ((xs.take i).map g,(i : Int))) xs.length (fun i z hi hz => ?_) (fun z hz rec => ?_) FU _ (FU_gt hl) (by simp)
 ·subst hz
  have hb : Nat.ble ((((xs.take i).map g).length + [g xs[i]].length) * sz) maxBytes = true := by
   rw [Nat.ble_eq]
   have : ((xs.take i).map g).length + [g xs[i]].length ≤ 1048576 := by simp; omega
   exact Nat.le_trans (Nat.mul_le_mul this hs) (by unfold maxBytes; omega)
  refine .inr ⟨_,rfl,fun rec => ?_⟩
  simp only [lt_lenI hi,cond_true,geti_lt xs i hi,Option.bind_some,h _ (List.getElem_mem hi),chk_true hb,wrap_next hi hl]
  rw [List.take_succ_eq_append_getElem hi,List.map_append]
  rfl
 ·subst hz
  simp only [ge_lenI,cond_false,List.take_length]
def placeS (xs : List SlotT) (s : SlotT) : Nat := (xs.findIdx? (fun x => !(aheadB x s))).getD xs.length
def putS (xs : List SlotT) (s : SlotT) : Option (List SlotT) := cond ((xs[placeS xs s]?).elim false fun y => !(aheadB s y)) (some (xs.set (placeS xs s) s)) (cond (decide (xs.length ≥ 60)) none (some (xs.take (placeS xs s) ++ [s] ++ xs.drop (placeS xs s))))
abbrev AccR := Int × ((Int × Int) × List SlotT)
def zA : AccR := (0,((0,0),[]))
def toldR (xs : List SlotT) (r : Int × ((Int × Int) × SlotT)) : AccR := cond (!(r.1 == 0)) (r.1,zA.2) ((putS xs r.2.2).elim (2,zA.2) fun ys => (0,(r.2.1,ys)))
theorem placeS_le (xs : List SlotT) (s : SlotT) : placeS xs s ≤ xs.length := by
 unfold placeS
 cases h : xs.findIdx? (fun x => !(aheadB x s)) with
 | none => exact Nat.le_refl _
 | some i => exact Nat.le_of_lt (List.findIdx?_eq_some_iff_getElem.1 h).1
theorem ahead_key {a b b' : SlotT} (h1 : b.1 = b'.1) (h2 : b.2.1 = b'.2.1) : aheadB a b = aheadB a b' ∧ aheadB b a = aheadB b' a := by
 unfold aheadB
 rw [h1,h2]
 exact ⟨rfl,rfl⟩
theorem putS_mem {xs : List SlotT} {s : SlotT} {ys : List SlotT} (h : putS xs s = some ys) : (∀ y ∈ ys,y ∈ xs ∨ y = s) ∧ ys.length ≤ xs.length + 1 := by
 have hp := placeS_le xs s
 unfold putS at h
 cases hc : (xs[placeS xs s]?).elim false fun y => !(aheadB s y) with
 | true =>
  rw [hc] at h
  simp only [cond_true,Option.some.injEq] at h
  subst h
  refine ⟨fun y hy => ?_,by simp⟩
  exact List.mem_or_eq_of_mem_set hy
 | false =>
  rw [hc] at h
  simp only [cond_false] at h
  cases h6 : decide (xs.length ≥ 60) with
  | true => rw [h6] at h; cases h
  | false =>
   rw [h6] at h
   simp only [cond_false,Option.some.injEq] at h
   subst h
   refine ⟨fun y hy => ?_,by simp only [List.length_append,List.length_take,List.length_drop,List.length_cons,List.length_nil]; omega⟩
   simp only [List.mem_append,List.mem_singleton] at hy
   rcases hy with (hy | hy) | hy
   ·exact .inl (List.mem_of_mem_take hy)
   ·exact .inr hy
   ·exact .inl (List.mem_of_mem_drop hy)
theorem grow_loop2 {α β : Type} (sz : Nat) (hs : sz ≤ 1024) (xs : List α) (f : α → Option β) (g : α → β) (h : ∀ x ∈ xs,f x = some (g x)) (hl : xs.length ≤ 1048576) :
  lp (fun rec (z : Int × List β) => cond (decide (z.1 < lenI xs)) ((geti xs z.1).bind fun y => (f y).bind fun r => chk (Nat.ble ((z.2.length + [r].length) * sz) maxBytes) (rec (IntKind.wrap .i64 (z.1 + (1 : Int)),z.2 ++ [r]))) (some z.2)) FU ((0 : Int),[]) = some (xs.map g) := by
 refine lp_for (fun r => r = some (xs.map g)) (fun i z => z = ((i : Int),(xs.take i).map g)) xs.length (fun i z hi hz => ?_) (fun z hz rec => ?_) FU _ (FU_gt hl) (by simp)
 ·subst hz
  have hb : Nat.ble ((((xs.take i).map g).length + [g xs[i]].length) * sz) maxBytes = true := by
   rw [Nat.ble_eq]
   have : ((xs.take i).map g).length + [g xs[i]].length ≤ 1048576 := by simp; omega
   exact Nat.le_trans (Nat.mul_le_mul this hs) (by unfold maxBytes; omega)
  refine .inr ⟨_,rfl,fun rec => ?_⟩
  simp only [lt_lenI hi,cond_true,geti_lt xs i hi,Option.bind_some,h _ (List.getElem_mem hi),chk_true hb,wrap_next hi hl]
  rw [List.take_succ_eq_append_getElem hi,List.map_append]
  rfl
 ·subst hz
  simp only [ge_lenI,cond_false,List.take_length]
end Go.Rv
namespace Go.Rv
theorem prom_slot {s : SlotT} {b : Int} (h : (promR s b).1 = 0) : slotCode s = 0 ∧ bal b = true ∧ s.2.2.1 ≤ b ∧ promR s b = (0,(s.2.2.2.1,(s.1,(s.2.1,(b,s.2.2.2))))) := by
 unfold promR at h ⊢
 cases h0 : (slotCode s == 0) with
 | false =>
  rw [h0] at h
  simp only [Bool.not_false,cond_true] at h
  rw [h] at h0; simp at h0
 | true =>
  rw [h0] at h
  cases hb : bal b with
  | false => rw [hb] at h; simp at h
  | true =>
   rw [hb] at h
   cases hd : decide (b < s.2.2.1) with
   | true => rw [hd] at h; simp at h
   | false =>
    simp only [decide_eq_false_iff_not] at hd
    exact ⟨by simpa using h0,rfl,by omega,rfl⟩

theorem prom_code {s : SlotT} {b : Int} (h : (promR s b).1 = 0) : slotCode (promR s b).2.2 = 0 := by
 obtain ⟨h0,hb,hle,he⟩ := prom_slot h
 obtain ⟨g1,g2,g3,g4,g5⟩ := slotCode_zero h0
 rw [he]
 refine slotCode_of ⟨g1.1,g1.2.1,?_⟩ g2 g3 g4 (by show s.2.2.2.1.1 ≤ b; omega)
 show inB b (-1) 1000 = true
 simp only [bal,inB,Bool.and_eq_true,decide_eq_true_eq] at hb ⊢
 omega
def ordS (xs : List SlotT) : Prop := xs.Pairwise fun a b => aheadB a b = true
theorem ordS_of {xs : List SlotT} (h : ∀ i (hi : i + 1 < xs.length),aheadB xs[i] xs[i + 1] = true) : ordS xs := by
 unfold ordS
 rw [List.pairwise_iff_getElem]
 intro i j hi hj hij
 exact acc_lt h i j hij hj
theorem accCode_of {xs : List SlotT} (h1 : xs.length ≤ 60) (h2 : ∀ x ∈ xs,slotCode x = 0) (h3 : ordS xs) : accCode xs = 0 := by
 unfold accCode
 rw [if_neg (by omega)]
 have key : ∀ (ys : List SlotT) (i : Nat),xs.drop i = ys → fstI (accStep xs) i ys = none := by
  intro ys
  induction ys with
  | nil => intro i _; rfl
  | cons y ys ih =>
   intro i hi
   have hil : i < xs.length := by
    rcases Nat.lt_or_ge i xs.length with h | h
    ·exact h
    ·rw [List.drop_eq_nil_of_le h] at hi; cases hi
   rw [List.drop_eq_getElem_cons hil] at hi
   simp only [List.cons.injEq] at hi
   obtain ⟨rfl,hi⟩ := hi
   have hs : accStep xs i xs[i] = none := by
    unfold accStep
    rw [h2 _ (List.getElem_mem hil)]
    rcases Nat.eq_zero_or_pos i with h0 | h0
    ·subst h0; rfl
    ·have h4 := (List.pairwise_iff_getElem.1 h3) (i - 1) i (by omega) hil (by omega)
     rw [List.getElem?_eq_getElem (show i - 1 < xs.length by omega),Option.getD_some,h4]
     simp
   simp only [fstI,hs]
   exact ih (i + 1) hi
 rw [key xs 0 rfl]
theorem ahead_none {a b : SlotT} (h1 : aheadB a b = false) (h2 : aheadB b a = false) : a.1 = b.1 ∧ a.2.1 = b.2.1 := by
 unfold aheadB at h1 h2
 split at h1 <;> split at h2 <;> simp only [decide_eq_false_iff_not] at h1 h2 <;> omega
theorem place_lt {xs : List SlotT} {s : SlotT} {i : Nat} (hi : i < placeS xs s) (hil : i < xs.length) : aheadB xs[i] s = true := by
 unfold placeS at hi
 cases h : xs.findIdx? (fun x => !(aheadB x s)) with
 | none =>
  rw [List.findIdx?_eq_none_iff] at h
  simpa using h xs[i] (List.getElem_mem hil)
 | some j =>
  rw [h] at hi
  obtain ⟨_,_,h2⟩ := List.findIdx?_eq_some_iff_getElem.1 h
  simpa using h2 i hi
theorem place_at {xs : List SlotT} {s : SlotT} (h : placeS xs s < xs.length) : aheadB xs[placeS xs s] s = false := by
  cases hf : xs.findIdx? (fun x => !(aheadB x s)) with
  | none => have : placeS xs s = xs.length := by unfold placeS; rw [hf]; rfl
            omega
  | some j =>
    have e : placeS xs s = j := by unfold placeS; rw [hf]; rfl
    obtain ⟨_, h1, _⟩ := List.findIdx?_eq_some_iff_getElem.1 hf
    simp only [e]
    simpa using h1
theorem accCode_put {xs ys : List SlotT} {s : SlotT} (h : accCode xs = 0) (hs : slotCode s = 0) (hp : putS xs s = some ys) : accCode ys = 0 := by
 obtain ⟨h1,h2,h3⟩ := accCode_zero h
 have ho := ordS_of h3
 have hm := putS_mem hp
 have hget := List.pairwise_iff_getElem.1 ho
 have hle := placeS_le xs s
 unfold putS at hp
 cases hc : (xs[placeS xs s]?).elim false fun y => !(aheadB s y) with
 | true =>
  rw [hc] at hp
  simp only [cond_true,Option.some.injEq] at hp
  have hl : placeS xs s < xs.length := by
   rcases Nat.lt_or_ge (placeS xs s) xs.length with h | h
   ·exact h
   ·rw [List.getElem?_eq_none h] at hc; cases hc
  rw [List.getElem?_eq_getElem hl] at hc
  have hc' : aheadB s xs[placeS xs s] = false := by simpa using hc
  obtain ⟨k1,k2⟩ := ahead_none hc' (place_at hl)
  refine accCode_of (by rw [← hp,List.length_set]; exact h1) (fun y hy => (hm.1 y hy).elim (h2 y) fun e => e ▸ hs) ?_
  rw [← hp]
  unfold ordS
  rw [List.pairwise_iff_getElem]
  intro i j hi hj hij
  rw [List.length_set] at hi hj
  rw [List.getElem_set,List.getElem_set]
  split
  ·rename_i e
   rw [if_neg (by omega)]
   rw [(ahead_key (a := xs[j]) k1 k2).2]
   have := hget (placeS xs s) j hl hj (by omega)
   exact this
  ·split
   ·rename_i e
    rw [(ahead_key (a := xs[i]) k1 k2).1]
    exact hget i (placeS xs s) hi hl (by omega)
   ·exact hget i j hi hj hij
 | false =>
  rw [hc] at hp
  simp only [cond_false] at hp
  cases h6 : decide (xs.length ≥ 60) with
  | true => rw [h6] at hp; cases hp
  | false =>
   rw [h6] at hp
   simp only [cond_false,Option.some.injEq] at hp
   have h6 := of_decide_eq_false h6
   refine accCode_of (by have := hm.2; omega) (fun y hy => (hm.1 y hy).elim (h2 y) fun e => e ▸ hs) ?_
   rw [← hp,List.append_assoc]
   have hdrop : ∀ y ∈ xs.drop (placeS xs s),aheadB s y = true := by
    intro y hy
    obtain ⟨k,hk,rfl⟩ := List.getElem_of_mem hy
    rw [List.length_drop] at hk
    have hl : placeS xs s < xs.length := by omega
    rw [List.getElem?_eq_getElem hl] at hc
    have hc' : aheadB s xs[placeS xs s] = true := by simpa using hc
    rw [List.getElem_drop]
    rcases Nat.eq_zero_or_pos k with rfl | hk0
    ·simpa using hc'
    ·exact ahead_trans hc' (hget (placeS xs s) (placeS xs s + k) hl (by omega) (by omega))
   have htake : ∀ y ∈ xs.take (placeS xs s),aheadB y s = true := by
    intro y hy
    obtain ⟨k,hk,rfl⟩ := List.getElem_of_mem hy
    rw [List.length_take] at hk
    rw [List.getElem_take]
    exact place_lt (by omega) (by omega)
   refine List.pairwise_append.2 ⟨ho.sublist (List.take_sublist _ _),List.pairwise_append.2 ⟨by simp,ho.sublist (List.drop_sublist _ _),fun a ha b hb => ?_⟩,fun a ha b hb => ?_⟩
   ·rw [List.mem_singleton.1 ha]; exact hdrop b hb
   ·rcases List.mem_append.1 hb with hb | hb
    ·rw [List.mem_singleton.1 hb]; exact htake a ha
    ·exact ahead_trans (htake a ha) (hdrop b hb)
theorem told_code {xs : List SlotT} {r : Int × ((Int × Int) × SlotT)} (h : accCode xs = 0) (hr : r.1 = 0 → slotCode r.2.2 = 0) (hc : (toldR xs r).1 = 0) : accCode (toldR xs r).2.2 = 0 := by
 unfold toldR at hc ⊢
 cases h0 : (r.1 == 0) with
 | false =>
  rw [h0] at hc
  simp only [Bool.not_false,cond_true] at hc
  rw [beq_eq_false_iff_ne] at h0
  exact absurd hc h0
 | true =>
  rw [h0] at hc
  simp only [Bool.not_true,cond_false] at hc ⊢
  cases hp : putS xs r.2.2 with
  | none => rw [hp] at hc; exact absurd (show (2 : Int) = 0 from hc) (by decide)
  | some ys => exact accCode_put h (hr (eq_of_beq h0)) hp
end Go.Rv
namespace Go.Rv
abbrev BSt := List Int × (List VoteT × List (List SlotT))
def promStep (c d b : Int) (st : BSt) (y : Int) : BSt := (st.2.2[y.toNat]?).elim st fun a => cond ((toldR a (promR (slotOf a c d) b)).1 == 0) (st.1 ++ [y],(st.2.1 ++ [(toldR a (promR (slotOf a c d) b)).2.1],st.2.2.set y.toNat (toldR a (promR (slotOf a c d) b)).2.2)) st
def AccsOK (N : Nat) (accs : List (List SlotT)) : Prop := accs.length = N ∧ ∀ a ∈ accs,accCode a = 0
theorem AccsOK.set {N : Nat} {accs : List (List SlotT)} (h : AccsOK N accs) (k : Nat) {a : List SlotT} (ha : accCode a = 0) : AccsOK N (accs.set k a) :=
 ⟨by rw [List.length_set]; exact h.1,fun x hx => (List.mem_or_eq_of_mem_set hx).elim (h.2 x) fun e => e ▸ ha⟩
theorem vote_ok {s : SlotT} (h : slotCode s = 0) : badV s.2.2.2.1 = false := by
 obtain ⟨_,_,g3,g4,_⟩ := slotCode_zero h
 rw [g4]
 unfold lastV
 cases hg : s.2.2.2.2.getLast? with
 | none => rfl
 | some v =>
  have hv := (castGo_ord _ none g3).2.2 v (List.mem_of_getLast? hg)
  show badV v = false
  unfold badV
  simp only [votB] at hv
  rw [hv]; simp
theorem told_prom {a : List SlotT} {c d b : Int} (ha : accCode a = 0) (h : (toldR a (promR (slotOf a c d) b)).1 = 0) : accCode (toldR a (promR (slotOf a c d) b)).2.2 = 0 := told_code ha prom_code h
theorem told_vote {a : List SlotT} {r : Int × ((Int × Int) × SlotT)} (h : (toldR a r).1 = 0) : r.1 = 0 ∧ (toldR a r).2.1 = r.2.1 := by
 unfold toldR at h ⊢
 cases h0 : (r.1 == 0) with
 | false =>
  rw [h0] at h
  simp only [Bool.not_false,cond_true] at h
  rw [beq_eq_false_iff_ne] at h0
  exact absurd h h0
 | true =>
  rw [h0] at h
  simp only [Bool.not_true,cond_false] at h ⊢
  cases hp : putS a r.2.2 with
  | none => rw [hp] at h; exact absurd (show (2 : Int) = 0 from h) (by decide)
  | some ys => exact ⟨eq_of_beq h0,rfl⟩
theorem prom_vote {a : List SlotT} {c d b : Int} (h : (toldR a (promR (slotOf a c d) b)).1 = 0) : badV (toldR a (promR (slotOf a c d) b)).2.1 = false := by
 obtain ⟨h1,h2⟩ := told_vote h
 obtain ⟨g0,_,_,he⟩ := prom_slot h1
 rw [h2,he]
 exact vote_ok g0
structure PI (N : Nat) (rs : List Int) (i : Nat) (st : BSt) : Prop where
 ok : AccsOK N st.2.2
 len : st.1.length ≤ i
 vlen : st.2.1.length = st.1.length
 mem : ∀ y ∈ st.1,y ∈ rs
 vok : ∀ v ∈ st.2.1,badV v = false
theorem PI.step {N : Nat} {rs : List Int} {i : Nat} {st : BSt} (h : PI N rs i st) (hi : i < rs.length) (c d b : Int) : PI N rs (i + 1) (promStep c d b st rs[i]) := by
 unfold promStep
 cases ha : st.2.2[rs[i].toNat]? with
 | none => exact ⟨h.ok,Nat.le_succ_of_le h.len,h.vlen,h.mem,h.vok⟩
 | some a =>
  simp only [Option.elim]
  have hm := List.mem_of_getElem? ha
  cases hc : (toldR a (promR (slotOf a c d) b)).1 == 0 with
  | false => exact ⟨h.ok,Nat.le_succ_of_le h.len,h.vlen,h.mem,h.vok⟩
  | true =>
   have hc := eq_of_beq hc
   refine ⟨h.ok.set _ (told_prom (h.ok.2 a hm) hc),by simp only [cond_true,List.length_append,List.length_cons,List.length_nil]; have := h.len; omega,by simp [h.vlen],fun y hy => ?_,fun v hv => ?_⟩
   ·simp only [cond_true,List.mem_append,List.mem_singleton] at hy
    rcases hy with hy | rfl
    ·exact h.mem y hy
    ·exact List.getElem_mem hi
   ·simp only [cond_true,List.mem_append,List.mem_singleton] at hv
    rcases hv with hv | rfl
    ·exact h.vok v hv
    ·exact prom_vote hc
end Go.Rv
