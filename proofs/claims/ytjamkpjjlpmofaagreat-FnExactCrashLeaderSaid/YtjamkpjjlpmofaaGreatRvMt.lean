/- Contracts: plain facts. No condition. -/
import Derived.Test.YtjamkpjjlpmofaaGreatRvM
import Derived.Test.YtjamkpjjlpmofaaGreatRvMo
namespace Go.Rv
abbrev MarkT := Int × Int

def plB (a b : Int) : Bool := inB a 0 5 && inB b 0 2
def cmpP (a b : BalT) : Int := if (if a.1 < b.1 then (-1 : Int) else if a.1 > b.1 then 1 else 0) = 0 then (if a.2.1 < b.2.1 then -1 else if a.2.1 > b.2.1 then 1 else 0) else (if a.1 < b.1 then -1 else if a.1 > b.1 then 1 else 0)
theorem cmpP_lt (a b : BalT) : cmpP a b < 0 ↔ (a.1 < b.1 ∨ a.1 = b.1 ∧ a.2.1 < b.2.1) := by
 unfold cmpP
 by_cases h1 : a.1 < b.1 <;> by_cases h2 : a.1 > b.1 <;> by_cases h3 : a.2.1 < b.2.1 <;> by_cases h4 : a.2.1 > b.2.1 <;> simp [h1,h2,h3,h4] <;> omega
theorem cmpP_zero (a b : BalT) : cmpP a b = 0 ↔ (a.1 = b.1 ∧ a.2.1 = b.2.1) := by
 unfold cmpP
 by_cases h1 : a.1 < b.1 <;> by_cases h2 : a.1 > b.1 <;> by_cases h3 : a.2.1 < b.2.1 <;> by_cases h4 : a.2.1 > b.2.1 <;> simp [h1,h2,h3,h4] <;> omega
def okBal (b : BalT) : Bool := plB b.1 b.2.1 && inB b.2.2 1 1000000000000
def balStep (xs : List BalT) (i : Nat) (y : BalT) : Option Int := cond (!(okBal y)) (some 3) (cond (decide (0 < i) && decide (cmpP (xs[i - 1]?.getD y) y ≥ 0)) (some 1) none)
def balCode (xs : List BalT) : Int := if xs.length > 18 then 2 else (match fstI (balStep xs) 0 xs with | some r => r | none => 0)
theorem balCode_len {xs : List BalT} (h : balCode xs = 0) : xs.length ≤ 18 := by
 unfold balCode at h
 split at h
 ·cases h
 ·omega
def legC (l : LegT) : Int := cond (!(inB l.1 0 2 && (plB l.2.1 l.2.2.1 && inB l.2.2.2 (-1000000000000) 1000000000000))) 3 (cond (l.2.2.2 == 0) 1 0)
def sameP (a b : LegT) : Bool := (a.1 == b.1) && ((a.2.1 == b.2.1) && (a.2.2.1 == b.2.2.1))
def legStep (xs : List LegT) (i : Nat) (l : LegT) : Option Int := cond (legC l == 0) (cond ((xs.take i).any fun o => sameP o l) (some 7) none) (some (legC l))
def sumA (xs : List LegT) (a : Int) : Int := ((xs.filter fun l => l.2.2.1 == a).map fun l => l.2.2.2).sum
def conC (c : ConT) : Int := cond (!(idB c.1)) 3 (if c.2.length < 2 ∨ 8 < c.2.length then 2 else match fstI (legStep c.2) 0 c.2 with
 | some r => r
 | none => if sumA c.2 0 = 0 ∧ sumA c.2 1 = 0 ∧ sumA c.2 2 = 0 then 0 else 1)
theorem legC_zero {l : LegT} (h : legC l = 0) : inB l.1 0 2 = true ∧ (0 ≤ l.2.1 ∧ l.2.1 ≤ 5) ∧ (0 ≤ l.2.2.1 ∧ l.2.2.1 ≤ 2) ∧ (-1000000000000 ≤ l.2.2.2 ∧ l.2.2.2 ≤ 1000000000000) ∧ l.2.2.2 ≠ 0 := by
 unfold legC at h
 cases h1 : inB l.1 0 2 && (plB l.2.1 l.2.2.1 && inB l.2.2.2 (-1000000000000) 1000000000000) with
 | false => rw [h1] at h; cases h
 | true =>
  rw [h1] at h
  simp only [Bool.and_eq_true,plB,inB,decide_eq_true_eq] at h1
  refine ⟨by simp [inB]; exact h1.1,⟨h1.2.1.1.1,h1.2.1.1.2⟩,⟨h1.2.1.2.1,h1.2.1.2.2⟩,h1.2.2,fun e => ?_⟩
  rw [e] at h; cases h
theorem sumA_snoc (xs : List LegT) (l : LegT) (a : Int) : sumA (xs ++ [l]) a = sumA xs a + cond (l.2.2.1 == a) l.2.2.2 0 := by
 unfold sumA
 rw [List.filter_append,List.map_append,List.sum_append]
 cases h : (l.2.2.1 == a) <;> simp [h]
theorem sumA_bnd (xs : List LegT) (a : Int) (h : ∀ l ∈ xs,-1000000000000 ≤ l.2.2.2 ∧ l.2.2.2 ≤ 1000000000000) : -(1000000000000 * (xs.length : Int)) ≤ sumA xs a ∧ sumA xs a ≤ 1000000000000 * (xs.length : Int) := by
 induction xs with
 | nil => simp [sumA]
 | cons l xs ih =>
  have h1 := ih (fun x hx => h x (List.mem_cons_of_mem _ hx))
  have h2 := h l (by simp)
  have e : sumA (l :: xs) a = cond (l.2.2.1 == a) l.2.2.2 0 + sumA xs a := by
   unfold sumA
   rw [List.filter_cons]
   cases h : (l.2.2.1 == a) <;> simp
  rw [e,List.length_cons]
  cases (l.2.2.1 == a) <;> simp only [cond_true,cond_false] <;> omega
theorem fst_ok {xs : List LegT} : ∀ (ys : List LegT) (i : Nat),fstI (legStep xs) i ys = none → ∀ l ∈ ys,legC l = 0
 | [],_,_,l,hl => by cases hl
 | y :: ys,i,h,l,hl => by
  simp only [fstI] at h
  have hy : legC y = 0 ∧ fstI (legStep xs) (i + 1) ys = none := by
   cases hs : legStep xs i y with
   | some r => rw [hs] at h; cases h
   | none =>
    rw [hs] at h
    refine ⟨?_,h⟩
    unfold legStep at hs
    cases hc : legC y == 0 with
    | true => simpa using hc
    | false => rw [hc] at hs; cases hs
  rcases List.mem_cons.1 hl with rfl | hl
  ·exact hy.1
  ·exact fst_ok ys (i + 1) hy.2 l hl

theorem bs_total (len : Nat) (hl : len ≤ B36) (p : Nat → Bool) {step : (Int × Int → Option Int) → Int × Int → Option Int}
  (h1 : ∀ (a b : Nat) rec,a < b → b ≤ len → step rec ((a : Int),(b : Int)) = cond (p ((a + b) / 2)) (rec ((((a + b) / 2 + 1 : Nat) : Int),(b : Int))) (rec ((a : Int),(((a + b) / 2 : Nat) : Int))))
  (h2 : ∀ (a : Nat) rec,step rec ((a : Int),(a : Int)) = some (a : Int)) :
  ∃ j : Nat,j ≤ len ∧ lp step FU ((0 : Int),(len : Int)) = some (j : Int) ∧ ((∀ i j,i ≤ j → j < len → p j = true → p i = true) → (∀ i,i < j → p i = true) ∧ ∀ i,j ≤ i → i < len → p i = false) := by
 have key : ∀ (n k a b : Nat),b - a ≤ k → k < n → a ≤ b → b ≤ len → ∃ j : Nat,j ≤ len ∧ lp step n ((a : Int),(b : Int)) = some (j : Int) ∧
   ((∀ i j,i ≤ j → j < len → p j = true → p i = true) → (∀ i,i < a → p i = true) → (∀ i,b ≤ i → i < len → p i = false) → (∀ i,i < j → p i = true) ∧ ∀ i,j ≤ i → i < len → p i = false) := by
  intro n
  induction n with
  | zero => intro k a b _ h; omega
  | succ n ih =>
   intro k a b hk hn hab hb
   show ∃ j : Nat,j ≤ len ∧ step (lp step n) _ = _ ∧ _
   rcases Nat.lt_or_ge a b with h | h
   ·rw [h1 a b _ h hb]
    cases hp : p ((a + b) / 2) with
    | true =>
     obtain ⟨j,q1,q2,q3⟩ := ih (k - 1) ((a + b) / 2 + 1) b (by omega) (by omega) (by omega) hb
     exact ⟨j,q1,q2,fun mono ha hbb => q3 mono (fun i hi => mono i ((a + b) / 2) (by omega) (by omega) hp) hbb⟩
    | false =>
     obtain ⟨j,q1,q2,q3⟩ := ih (k - 1) a ((a + b) / 2) (by omega) (by omega) (by omega) (by omega)
     refine ⟨j,q1,q2,fun mono ha hbb => q3 mono ha (fun i hi hil => ?_)⟩
     cases hq : p i with
     | false => rfl
     | true => rw [mono _ i hi hil hq] at hp; cases hp
   ·have : b = a := by omega
    subst this
    rw [h2]
    exact ⟨b,hb,rfl,fun _ ha hbb => ⟨ha,hbb⟩⟩
 obtain ⟨j,q1,q2,q3⟩ := key FU len 0 len (by omega) (FUb hl) (by omega) (Nat.le_refl _)
 exact ⟨j,q1,q2,fun mono => q3 mono (fun i hi => by omega) (fun i h h' => by omega)⟩

theorem lp_fstS {α X R : Type} (xs : List α) (f : Nat → α → Option R) (enc : Nat → X) (fin : Option R) (I : Nat → Prop) {step : (X → Option R) → X → Option R} (hl : xs.length ≤ B36) (h0 : I 0)
  (h1 : ∀ (i : Nat) (hi : i < xs.length),I i → (∀ rec,step rec (enc i) = (f i xs[i]).elim (rec (enc (i + 1))) some) ∧ (f i xs[i] = none → I (i + 1)))
  (h2 : I xs.length → ∀ rec,step rec (enc xs.length) = fin) : lp step FU (enc 0) = (fstI f 0 xs).elim fin some := by
 refine lp_for (fun r => r = (fstI f 0 xs).elim fin some) (fun i z => z = enc i ∧ I i ∧ fstI f 0 xs = fstI f i (xs.drop i)) xs.length (fun i z hi hz => ?_) (fun z hz rec => ?_) FU _ (FUb hl) ⟨rfl,h0,by rw [List.drop_zero]⟩
 ·obtain ⟨rfl,hI,he⟩ := hz
  obtain ⟨q1,q2⟩ := h1 i hi hI
  have hd : xs.drop i = xs[i] :: xs.drop (i + 1) := List.drop_eq_getElem_cons hi
  rw [hd] at he
  simp only [fstI] at he
  cases hf : f i xs[i] with
  | some r =>
   refine .inl fun rec => ?_
   rw [q1 rec,hf]
   rw [hf] at he
   rw [he]; rfl
  | none =>
   rw [hf] at he
   refine .inr ⟨enc (i + 1),⟨rfl,q2 hf,he⟩,fun rec => ?_⟩
   rw [q1 rec,hf]; rfl
 ·obtain ⟨rfl,hI,he⟩ := hz
  rw [he,List.drop_length,h2 hI rec]; rfl

theorem keq_int : ∀ a b : (Kd.int .i64).ty,keqB (.int .i64) a b = true ↔ a = b := fun _ _ => beq_iff_eq (α := Int)
theorem mupd_eq (k : Kd) (_ : ∀ a b : k.ty,keqB k a b = true ↔ a = b) (m : List (k.ty × Int)) (y : k.ty) (c : Int) : mupd k m y c = mset k (mput k m y) (mfind k m y) c := by
 unfold mupd mput
 cases h : m[mfind k m y]? with
 | some _ => rfl
 | none =>
  have hf : mfind k m y = m.length := by
   have h1 := List.getElem?_eq_none_iff.1 h
   have h2 : mfind k m y ≤ m.length := List.findIdx_le_length
   omega
  simp only [mset,hf]
  rw [List.modify_eq_take_drop]
  simp
theorem mlook_upd (m : List (Int × Int)) (y v c : Int) : mlook (.int .i64) (mupd (.int .i64) m y c) v = cond (v == y) c (mlook (.int .i64) m v) := by
 rw [mupd_eq (.int .i64) keq_int]
 exact (mlook_set1 (.int .i64) keq_int m y v c).2
theorem mupd_keys (m : List (Int × Int)) (y c : Int) (h : (m.map (·.1)).Nodup) : ((mupd (.int .i64) m y c).map (·.1)).Nodup ∧ ∀ v,v ∈ (mupd (.int .i64) m y c).map (·.1) ↔ v ∈ m.map (·.1) ∨ v = y := by
 unfold mupd
 cases hg : m[mfind (.int .i64) m y]? with
 | some p =>
  have hkey : (mset (.int .i64) m (mfind (.int .i64) m y) c).map (·.1) = m.map (·.1) := by
   unfold mset
   apply List.ext_getElem?
   intro j
   rw [List.getElem?_map,List.getElem?_map,List.getElem?_modify]
   by_cases hj : mfind (.int .i64) m y = j
   ·simp only [hj,if_true]
    cases m[j]? <;> rfl
   ·simp only [hj,if_false]
    cases m[j]? <;> rfl
  simp only
  rw [hkey]
  refine ⟨h,fun v => ⟨.inl,?_⟩⟩
  rintro (q | rfl)
  ·exact q
  ·have hlt := (List.getElem?_eq_some_iff.1 hg).1
   have : keqB (.int .i64) v (m[mfind (.int .i64) m v]'hlt).1 = true := List.findIdx_getElem (w := hlt)
   have e : v = (m[mfind (.int .i64) m v]'hlt).1 := by simpa [keqB] using this
   exact List.mem_map.2 ⟨_,List.getElem_mem hlt,e.symm⟩
 | none =>
  simp only [List.map_append,List.map_cons,List.map_nil]
  have hn : y ∉ m.map (·.1) := by
   intro hm
   obtain ⟨p,hp,e⟩ := List.mem_map.1 hm
   have : mfind (.int .i64) m y < m.length := List.findIdx_lt_length_of_exists ⟨p,hp,by simp [keqB,e]⟩
   rw [List.getElem?_eq_getElem this] at hg
   cases hg
  exact ⟨List.nodup_append.2 ⟨h,by simp,fun a ha b hb => by rw [List.mem_singleton] at hb; subst hb; exact fun e => hn (e ▸ ha)⟩,fun v => by rw [List.mem_append,List.mem_singleton]⟩
theorem mlook_mem : ∀ (m : List (Int × Int)),(m.map (·.1)).Nodup → ∀ p ∈ m,mlook (.int .i64) m p.1 = p.2
 | [],_,p,hp => by cases hp
 | q :: m,h,p,hp => by
  rw [List.map_cons,List.nodup_cons] at h
  by_cases e : p.1 = q.1
  ·have : p = q := by
    rcases List.mem_cons.1 hp with rfl | hp
    ·rfl
    ·exact absurd (List.mem_map.2 ⟨p,hp,e⟩) h.1
   subst this
   simp [mlook,mfind,List.findIdx_cons,keqB]
  ·have hp' : p ∈ m := by
    rcases List.mem_cons.1 hp with rfl | hp
    ·exact absurd rfl e
    ·exact hp
   have ih := mlook_mem m h.2 p hp'
   have hb : (p.1 == q.1) = false := by simpa using e
   simpa [mlook,mfind,List.findIdx_cons,keqB,hb] using ih
theorem mlook_none (m : List (Int × Int)) (v : Int) (h : v ∉ m.map (·.1)) : mlook (.int .i64) m v = 0 := by
 unfold mlook
 cases hg : m[mfind (.int .i64) m v]? with
 | none => rfl
 | some p =>
  have hlt := (List.getElem?_eq_some_iff.1 hg).1
  have : keqB (.int .i64) v (m[mfind (.int .i64) m v]'hlt).1 = true := List.findIdx_getElem (w := hlt)
  have e : v = (m[mfind (.int .i64) m v]'hlt).1 := by simpa [keqB] using this
  exact absurd (List.mem_map.2 ⟨_,List.getElem_mem hlt,e.symm⟩) h

theorem draw_any {m : List (Int × Int)} (bad : Int × Int → Bool) (c d : Int) {step : (Int × List Int → Option Int) → Int × List Int → Option Int} (hl : m.length ≤ B36)
  (h1 : ∀ rec seen,step rec ((m.length : Int),seen) = drawM (leftM (m.length : Int) seen) (fun j => (geti m j).bind fun p => cond (bad p) (some c) (rec ((m.length : Int),seen ++ [j]))) (some d)) :
  lp step FU ((m.length : Int),([] : List Int)) = some (cond (m.any bad) c d) := by
 have key : ∀ (n k : Nat) (seen : List Int),k < n → (leftM (m.length : Int) seen).length ≤ k → (∀ j ∈ seen,∀ p,geti m j = some p → bad p = false) →
   lp step n ((m.length : Int),seen) = some (cond (m.any bad) c d) := by
  intro n
  induction n with
  | zero => intro k seen h; omega
  | succ n ih =>
   intro k seen hk hlen hseen
   show step (lp step n) _ = _
   rw [h1]
   have hmem : ∀ j,j ∈ leftM (m.length : Int) seen ↔ (∃ i : Nat,i < m.length ∧ j = (i : Int)) ∧ j ∉ seen := by
    intro j
    unfold leftM
    rw [List.mem_filter,List.mem_map]
    simp only [List.mem_range,Int.toNat_natCast,Bool.not_eq_true',List.contains_eq_mem,decide_eq_false_iff_not]
    constructor
    ·rintro ⟨⟨i,h,rfl⟩,h2⟩; exact ⟨⟨i,h,rfl⟩,h2⟩
    ·rintro ⟨⟨i,h,rfl⟩,h2⟩; exact ⟨⟨i,h,rfl⟩,h2⟩
   cases hL : leftM (m.length : Int) seen with
   | nil =>
    have hall : m.any bad = false := by
     rw [List.any_eq_false]
     intro p hp
     obtain ⟨i,hi,rfl⟩ := List.getElem_of_mem hp
     have hin : (i : Int) ∈ seen := by
      by_cases h : (i : Int) ∈ seen
      ·exact h
      ·have := (hmem (i : Int)).2 ⟨⟨i,hi,rfl⟩,h⟩
       rw [hL] at this; cases this
     simpa using hseen _ hin _ (geti_lt m i hi)
    rw [hall]; rfl
   | cons j0 r =>
    have each : ∀ j ∈ leftM (m.length : Int) seen,((geti m j).bind fun p => cond (bad p) (some c) (lp step n ((m.length : Int),seen ++ [j]))) = some (cond (m.any bad) c d) := by
     intro j hj
     obtain ⟨⟨i,hi,rfl⟩,hns⟩ := (hmem j).1 hj
     rw [geti_lt m i hi,Option.bind_some]
     cases hb : bad m[i] with
     | true =>
      have : m.any bad = true := List.any_eq_true.2 ⟨_,List.getElem_mem hi,hb⟩
      rw [this]; rfl
     | false =>
      rw [cond_false]
      refine ih (k - 1) _ ?_ ?_ ?_
      ·have : 0 < (leftM (m.length : Int) seen).length := by rw [hL]; simp
       omega
      ·have hsub : (leftM (m.length : Int) (seen ++ [(i : Int)])).length < (leftM (m.length : Int) seen).length := by
        have e : leftM (m.length : Int) (seen ++ [(i : Int)]) = (leftM (m.length : Int) seen).filter fun x => !(x == (i : Int)) := by
         unfold leftM
         rw [List.filter_filter]
         congr 1
         funext x
         rw [Bool.eq_iff_iff]
         simp [and_comm]
        rw [e]
        have hlt := (List.length_filter_lt_length_iff_exists (p := fun x : Int => !(x == (i : Int)))).2 ⟨_,hj,by simp⟩
        exact hlt
       omega
      ·intro x hx p hp
       rcases List.mem_append.1 hx with hx | hx
       ·exact hseen x hx p hp
       ·rw [List.mem_singleton] at hx
        subst hx
        rw [geti_lt m i hi] at hp
        rw [← Option.some.inj hp]; exact hb
    rw [hL] at each
    unfold drawM sameAll
    simp only [List.map_cons]
    have h0 := each j0 (by simp)
    rw [h0]
    rw [if_pos]
    intro y hy
    obtain ⟨j,hj,rfl⟩ := List.mem_map.1 hy
    exact each j (List.mem_cons_of_mem _ hj)
 refine key FU (leftM (m.length : Int) []).length [] ?_ (Nat.le_refl _) (fun j hj => by cases hj)
 have : (leftM (m.length : Int) []).length ≤ m.length := by
  unfold leftM
  refine Nat.le_trans (List.length_filter_le _ _) ?_
  simp
 exact FUb (Nat.le_trans this hl)
end Go.Rv
