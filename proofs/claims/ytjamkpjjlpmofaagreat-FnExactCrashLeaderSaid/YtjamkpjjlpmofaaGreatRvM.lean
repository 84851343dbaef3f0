/- Plain facts about loops and lists. No condition. -/
import Derived.Test.YtjamkpjjlpmofaaGreatRvL
namespace Go.Rv
theorem wrap64 {n : Int} (h0 : -9223372036854775808 ≤ n) (h1 : n < 9223372036854775808) : IntKind.wrap .i64 n = n := by
 have e : IntKind.wrap .i64 n = if n % 18446744073709551616 ≥ 9223372036854775808 then n % 18446744073709551616 - 18446744073709551616 else n % 18446744073709551616 := by
  simp [IntKind.wrap,IntKind.bits,IntKind.signed]
 rw [e]
 split <;> omega

theorem lenI_eq {α : Type} (xs : List α) : lenI xs = (xs.length : Int) := rfl
theorem geti_nat {α : Type} (xs : List α) (i : Nat) : geti xs (i : Int) = xs[i]? := by simp [geti]
theorem geti_lt {α : Type} (xs : List α) (i : Nat) (h : i < xs.length) : geti xs (i : Int) = some xs[i] := by simp [geti,h]

theorem lp_for {X R : Type} (P : Option R → Prop) (I : Nat → X → Prop) (len : Nat) {step : (X → Option R) → X → Option R}
  (h1 : ∀ i x,i < len → I i x → (∀ rec,P (step rec x)) ∨ ∃ x',I (i + 1) x' ∧ ∀ rec,step rec x = rec x') (h2 : ∀ x,I len x → ∀ rec,P (step rec x)) :
  ∀ n x,len < n → I 0 x → P (lp step n x) := by
 have key : ∀ k i n x,i + k = len → k < n → I i x → P (lp step n x) := by
  intro k
  induction k with
  | zero =>
   intro i n x hi hn hx
   cases n with
   | zero => omega
   | succ n => exact h2 x (by rw [show len = i from by omega]; exact hx) _
  | succ k ih =>
   intro i n x hi hn hx
   cases n with
   | zero => omega
   | succ n =>
    rcases h1 i x (by omega) hx with h | ⟨x',h3,h4⟩
    ·exact h _
    ·show P (step (lp step n) x)
     rw [h4]
     exact ih (i + 1) n x' (by omega) (by omega) h3
 intro n x hn hx
 exact key len 0 n x (by omega) hn hx

theorem FU_gt {n : Nat} (h : n ≤ 1048576) : n < FU := by unfold FU; omega

def bal (y : Int) : Bool := decide (0 ≤ y) && decide (y ≤ 1000)
def vlu (y : Int) : Bool := (y == 1) || (y == 2)

theorem set_step {α : Type} (xs : List α) (d : α) (i : Nat) (h : i < xs.length) : (xs.take i ++ List.replicate (xs.length - i) d).set i xs[i] = xs.take (i + 1) ++ List.replicate (xs.length - (i + 1)) d := by
 have e1 : xs.length - i = (xs.length - (i + 1)) + 1 := by omega
 rw [e1,List.replicate_succ,List.set_append,if_neg (by simp only [List.length_take]; omega),List.length_take,show i - min i xs.length = 0 from by omega,List.set_cons_zero,List.take_succ_eq_append_getElem h,List.append_assoc]
 rfl

abbrev SlotT := Int × (Int × (Int × ((Int × Int) × (List (Int × Int)))))

theorem wrap_next {i len : Nat} (h : i < len) (hl : len ≤ 1048576) : IntKind.wrap .i64 ((i : Int) + 1) = ((i + 1 : Nat) : Int) := by
 rw [wrap64 (by omega) (by omega)]; omega

theorem lt_lenI {α : Type} {xs : List α} {i : Nat} (h : i < xs.length) : decide ((i : Int) < lenI xs) = true := by simp [lenI_eq,h]
theorem ge_lenI {α : Type} {xs : List α} : decide ((xs.length : Int) < lenI xs) = false := by simp [lenI_eq]

theorem eq_loop {α : Type} (xs : List α) (f : α × α → Option Bool) (h : ∀ x ∈ xs,f (x,x) = some true) (hl : xs.length ≤ 1048576) :
  lp (fun rec (z : Int) => cond (decide (z < lenI xs)) ((geti xs z).bind fun y => (geti xs z).bind fun y' => (f (y,y')).bind fun r => cond (!r) (some false) (rec (IntKind.wrap .i64 (z + (1 : Int))))) (some true)) FU (0 : Int) = some true := by
 refine lp_for (fun r => r = some true) (fun i z => z = (i : Int)) xs.length (fun i z hi hz => ?_) (fun z hz rec => ?_) FU _ (FU_gt hl) rfl
 ·subst hz
  simp only [lt_lenI hi,cond_true,geti_lt xs i hi,Option.bind_some,h _ (List.getElem_mem hi),Bool.not_true,cond_false]
  exact .inr ⟨_,wrap_next hi hl,fun rec => rfl⟩
 ·subst hz
  simp only [ge_lenI,cond_false]

def SZ {α : Type} (f : α × Int → Option Int) (w : α → Nat) (x : α) : Prop := ∀ left : Int,0 ≤ left → left ≤ 1048576 → f (x,left) = some (-1) ∨ (f (x,left) = some (left - w x) ∧ (w x : Int) ≤ left)

theorem sz_loop {α : Type} (xs : List α) (f : α × Int → Option Int) (w : α → Nat) (h : ∀ x ∈ xs,SZ f w x) (hl : xs.length ≤ 1048576) (left : Int) (h0 : 0 ≤ left) (h1 : left ≤ 1048576) :
  (fun r => r = some (-1) ∨ (r = some (left - ((xs.map w).sum : Nat)) ∧ (((xs.map w).sum : Nat) : Int) ≤ left)) (lp (fun rec (z : Int × Int) => cond (decide (z.2 < lenI xs)) ((geti xs z.2).bind fun y => (f (y,z.1)).bind fun r => cond (decide (r < (0 : Int))) (some (-1 : Int)) (rec (r,IntKind.wrap .i64 (z.2 + (1 : Int))))) (some z.1)) FU (left,(0 : Int))) := by
 refine lp_for (fun r => r = some (-1) ∨ (r = some (left - ((xs.map w).sum : Nat)) ∧ (((xs.map w).sum : Nat) : Int) ≤ left)) (fun i z => z = (left - ((((xs.take i).map w).sum : Nat) : Int),(i : Int)) ∧ ((((xs.take i).map w).sum : Nat) : Int) ≤ left) xs.length (fun i z hi hz => ?_) (fun z hz rec => ?_) FU _ (FU_gt hl) (by simp [h0])
 ·obtain ⟨rfl,hz⟩ := hz
  have hsum : ((xs.take (i + 1)).map w).sum = ((xs.take i).map w).sum + w xs[i] := by
   rw [List.take_succ_eq_append_getElem hi,List.map_append,List.sum_append,List.map_cons,List.map_nil,List.sum_cons,List.sum_nil,Nat.add_zero]
  simp only [lt_lenI hi,cond_true,geti_lt xs i hi,Option.bind_some]
  rcases h _ (List.getElem_mem hi) (left - ((((xs.take i).map w).sum : Nat) : Int)) (by omega) (by omega) with h2 | ⟨h2,h3⟩
  ·rw [h2]; exact .inl fun rec => .inl rfl
  ·rw [h2]
   simp only [Option.bind_some]
   have hd : decide (left - ((((xs.take i).map w).sum : Nat) : Int) - (w xs[i] : Int) < 0) = false := decide_eq_false (by omega)
   rw [hd]
   refine .inr ⟨_,⟨?_,?_⟩,fun rec => rfl⟩
   ·rw [hsum,wrap_next hi hl]
    congr 1
    omega
   ·rw [hsum]; omega
 ·obtain ⟨rfl,hz⟩ := hz
  simp only [ge_lenI,cond_false]
  rw [List.take_length] at hz ⊢
  exact .inr ⟨rfl,hz⟩

theorem le_sum : ∀ (l : List Nat) (a : Nat),a ∈ l → a ≤ l.sum
 | [],a,h => by cases h
 | b :: l,a,h => by
  rw [List.sum_cons]
  rcases List.mem_cons.1 h with h | h
  ·omega
  ·have := le_sum l a h; omega
end Go.Rv
namespace Go.Rv
def B36 : Nat := 68719476736
theorem FUb {n : Nat} (h : n ≤ B36) : n < FU := by unfold FU B36 at *; omega
theorem nxt {i : Nat} (h : i ≤ B36) : IntKind.wrap .i64 ((i : Int) + 1) = ((i + 1 : Nat) : Int) := by unfold B36 at h; rw [wrap64 (by omega) (by omega)]; omega
theorem prv {i : Nat} (h : i ≤ B36) (h0 : 0 < i) : IntKind.wrap .i64 ((i : Int) - 1) = ((i - 1 : Nat) : Int) := by unfold B36 at h; rw [wrap64 (by omega) (by omega)]; omega

theorem lp_hit {α R : Type} (xs : List α) (p : α → Bool) (c fin : Option R) {step : (Int → Option R) → Int → Option R} (hl : xs.length ≤ B36)
  (h1 : ∀ (i : Nat) (hi : i < xs.length) rec,IntKind.wrap .i64 ((i : Int) + 1) = ((i + 1 : Nat) : Int) → step rec (i : Int) = cond (p xs[i]) c (rec ((i + 1 : Nat) : Int)))
  (h2 : ∀ rec,step rec (xs.length : Int) = fin) : lp step FU (0 : Int) = cond (xs.any p) c fin := by
 have key : ∀ (ys : List α) (i : Nat),xs.drop i = ys → i ≤ xs.length → ∀ n,ys.length < n → lp step n (i : Int) = cond (ys.any p) c fin := by
  intro ys
  induction ys with
  | nil =>
   intro i hd hle n hn
   cases n with
   | zero => cases hn
   | succ n =>
    have : i = xs.length := by
     have := List.drop_eq_nil_iff.1 hd
     omega
    subst this
    exact h2 _
  | cons y ys ih =>
   intro i hd hle n hn
   cases n with
   | zero => cases hn
   | succ n =>
    have hlt : i < xs.length := by
     rcases Nat.lt_or_ge i xs.length with h | h
     ·exact h
     ·rw [List.drop_eq_nil_of_le h] at hd; cases hd
    rw [List.drop_eq_getElem_cons hlt] at hd
    have q1 := (List.cons.inj hd).1
    have q2 := (List.cons.inj hd).2
    show step (lp step n) (i : Int) = _
    rw [h1 i hlt _ (nxt (by omega)),q1,List.any_cons]
    cases p y with
    | true => rfl
    | false => exact ih (i + 1) q2 hlt n (by simp only [List.length_cons] at hn; omega)
 exact key xs 0 rfl (Nat.zero_le _) FU (FUb hl)

theorem lp_place {α R : Type} (xs : List α) (p : α → Bool) (c : Nat → Option R) (fin : Option R) {step : (Int → Option R) → Int → Option R} (hl : xs.length ≤ B36)
  (h1 : ∀ (i : Nat) (hi : i < xs.length) rec,IntKind.wrap .i64 ((i : Int) + 1) = ((i + 1 : Nat) : Int) → step rec (i : Int) = cond (p xs[i]) (c i) (rec ((i + 1 : Nat) : Int)))
  (h2 : ∀ rec,step rec (xs.length : Int) = fin) : lp step FU (0 : Int) = match xs.findIdx? p with
   | some i => c i
   | none => fin := by
 have key : ∀ (ys : List α) (i : Nat),xs.drop i = ys → i ≤ xs.length → ∀ n,ys.length < n → lp step n (i : Int) = match ys.findIdx? p with
   | some j => c (i + j)
   | none => fin := by
  intro ys
  induction ys with
  | nil =>
   intro i hd hle n hn
   cases n with
   | zero => cases hn
   | succ n =>
    have : i = xs.length := by
     have := List.drop_eq_nil_iff.1 hd
     omega
    subst this
    exact h2 _
  | cons y ys ih =>
   intro i hd hle n hn
   cases n with
   | zero => cases hn
   | succ n =>
    have hlt : i < xs.length := by
     rcases Nat.lt_or_ge i xs.length with h | h
     ·exact h
     ·rw [List.drop_eq_nil_of_le h] at hd; cases hd
    rw [List.drop_eq_getElem_cons hlt] at hd
    have q1 := (List.cons.inj hd).1
    have q2 := (List.cons.inj hd).2
    show step (lp step n) (i : Int) = _
    rw [h1 i hlt _ (nxt (by omega)),q1,List.findIdx?_cons]
    cases p y with
    | true => rfl
    | false =>
     rw [cond_false,ih (i + 1) q2 hlt n (by simp only [List.length_cons] at hn; omega)]
     cases ys.findIdx? p with
     | none => rfl
     | some j => simp [Nat.add_comm,Nat.add_left_comm]
 have := key xs 0 rfl (Nat.zero_le _) FU (FUb hl)
 simpa using this

def fstI {α R : Type} (f : Nat → α → Option R) : Nat → List α → Option R
 | _,[] => none
 | i,x :: xs => match f i x with
  | some r => some r
  | none => fstI f (i + 1) xs

theorem lp_fst {α R : Type} (xs : List α) (f : Nat → α → Option R) (fin : Option R) {step : (Int → Option R) → Int → Option R} (hl : xs.length ≤ B36)
  (h1 : ∀ (i : Nat) (hi : i < xs.length) rec,IntKind.wrap .i64 ((i : Int) + 1) = ((i + 1 : Nat) : Int) → step rec (i : Int) = match f i xs[i] with
   | some r => some r
   | none => rec ((i + 1 : Nat) : Int))
  (h2 : ∀ rec,step rec (xs.length : Int) = fin) : lp step FU (0 : Int) = match fstI f 0 xs with
   | some r => some r
   | none => fin := by
 have key : ∀ (ys : List α) (i : Nat),xs.drop i = ys → i ≤ xs.length → ∀ n,ys.length < n → lp step n (i : Int) = match fstI f i ys with
   | some r => some r
   | none => fin := by
  intro ys
  induction ys with
  | nil =>
   intro i hd hle n hn
   cases n with
   | zero => cases hn
   | succ n =>
    have : i = xs.length := by
     have := List.drop_eq_nil_iff.1 hd
     omega
    subst this
    exact h2 _
  | cons y ys ih =>
   intro i hd hle n hn
   cases n with
   | zero => cases hn
   | succ n =>
    have hlt : i < xs.length := by
     rcases Nat.lt_or_ge i xs.length with h | h
     ·exact h
     ·rw [List.drop_eq_nil_of_le h] at hd; cases hd
    rw [List.drop_eq_getElem_cons hlt] at hd
    have q1 := (List.cons.inj hd).1
    have q2 := (List.cons.inj hd).2
    show step (lp step n) (i : Int) = _
    rw [h1 i hlt _ (nxt (by omega)),q1]
    simp only [fstI]
    cases f i y with
    | some r => rfl
    | none => exact ih (i + 1) q2 hlt n (by simp only [List.length_cons] at hn; omega)
 exact key xs 0 rfl (Nat.zero_le _) FU (FUb hl)

theorem copy_loop2 {α : Type} (xs : List α) (d : α) (f : α → Option α) (h : ∀ x ∈ xs,f x = some x) (hl : xs.length ≤ 1048576) :
  lp (fun rec (z : Int × List α) => cond (decide (z.1 < lenI xs)) ((geti xs z.1).bind fun y => (f y).bind fun r => (geti z.2 z.1).bind fun _ => (z.2[z.1.toNat]?).bind fun _ => rec (IntKind.wrap .i64 (z.1 + (1 : Int)),z.2.set z.1.toNat r)) (some z.2)) FU ((0 : Int),List.replicate (lenI xs).toNat d) = some xs := by
 refine lp_for (fun r => r = some xs) (fun i z => z = ((i : Int),xs.take i ++ List.replicate (xs.length - i) d)) xs.length (fun i z hi hz => ?_) (fun z hz rec => ?_) FU _ (FU_gt hl) (by simp [lenI_eq])
 ·subst hz
  have hlen : i < (xs.take i ++ List.replicate (xs.length - i) d).length := by simp; omega
  simp only [lt_lenI hi,cond_true,geti_lt xs i hi,Option.bind_some,h _ (List.getElem_mem hi),geti_lt _ i hlen,Int.toNat_natCast,List.getElem?_eq_getElem hlen]
  exact .inr ⟨_,by rw [set_step xs _ i hi,wrap_next hi hl],fun rec => rfl⟩
 ·subst hz
  simp only [ge_lenI,cond_false]
  simp

theorem same_self {α : Type} (x : Option α) : same x x = x := by unfold same; rw [if_pos rfl]
theorem dup_eq {α : Type} (x : Option α) : ∀ n,dup n x = x
 | 0 => rfl
 | n + 1 => by unfold dup; rw [dup_eq x n,same_self]

theorem clone_same {α : Type} (xs : List α) (y : Option (List α)) (h : y = some xs) : cond (List.isEmpty xs) (same (some []) y) y = some xs := by
 subst h
 cases xs with
 | nil => exact same_self _
 | cons x xs => rfl

def B40 : Int := 1099511627776

end Go.Rv
namespace Go.Rv
def badV (v : Int × Int) : Bool := !(v.1 == -1 && (v.2 == 0 && true)) && !(bal v.1 && vlu v.2)
def inB (a b c : Int) : Bool := decide (b ≤ a) && decide (a ≤ c)
def idB (a : Int) : Bool := inB a 1 1000000000
def shB (a : Int) : Bool := inB a 0 2
def votB (v : Int × Int) : Bool := bal v.1 && vlu v.2
def badP (u v : Int × Int) : Bool := decide (v.1 < u.1) || (v.1 == u.1 && !(v.2 == u.2))
def castGo : Option (Int × Int) → List (Int × Int) → Int
 | _,[] => 0
 | p,v :: r => cond (!(votB v)) 3 (cond (match p with | none => false | some u => badP u v) 1 (castGo (some v) r))
def lastV (xs : List (Int × Int)) : Int × Int := xs.getLast?.getD (-1,0)
def slotCode (s : SlotT) : Int :=
 cond (!(idB s.1 && (shB s.2.1 && inB s.2.2.1 (-1) 1000))) 3 (if s.2.2.2.2.length > 60 then 2 else if castGo none s.2.2.2.2 ≠ 0 then castGo none s.2.2.2.2
 else cond (!(s.2.2.2.1 == lastV s.2.2.2.2) || decide (s.2.2.2.1.1 > s.2.2.1)) 1 0)

def castF (xs : List (Int × Int)) (i : Nat) (v : Int × Int) : Option Int := cond (!(votB v)) (some 3) (cond (decide (0 < i) && badP (xs[i - 1]?.getD (0,0)) v) (some 1) none)

theorem cast_fst (xs : List (Int × Int)) : ∀ (ys : List (Int × Int)) (i : Nat) (p : Option (Int × Int)),xs.drop i = ys → (i = 0 ∧ p = none ∨ 0 < i ∧ p = xs[i - 1]? ∧ p.isSome) → (match fstI (castF xs) i ys with | some r => r | none => 0) = castGo p ys
 | [],i,p,_,_ => rfl
 | y :: ys,i,p,hd,hp => by
  have hlt : i < xs.length := by
   rcases Nat.lt_or_ge i xs.length with h | h
   ·exact h
   ·rw [List.drop_eq_nil_of_le h] at hd; cases hd
  rw [List.drop_eq_getElem_cons hlt] at hd
  have q1 := (List.cons.inj hd).1
  have q2 := (List.cons.inj hd).2
  have ih := cast_fst xs ys (i + 1) (some y) q2 (.inr ⟨by omega,by rw [Nat.add_sub_cancel,List.getElem?_eq_getElem hlt,q1],rfl⟩)
  simp only [fstI,castGo,castF]
  cases votB y with
  | false => rfl
  | true =>
   simp only [Bool.not_true,cond_false]
   rcases hp with ⟨rfl,rfl⟩ | ⟨h0,hp,hs⟩
   ·simp only [Nat.lt_irrefl,decide_false,Bool.false_and,cond_false]
    exact ih
   ·cases p with
    | none => cases hs
    | some u =>
     simp only [← hp,h0,decide_true,Bool.true_and,Option.getD_some]
     cases badP u y with
     | true => rfl
     | false => exact ih

theorem cast_all (xs : List (Int × Int)) : (match fstI (castF xs) 0 xs with | some r => r | none => 0) = castGo none xs := cast_fst xs xs 0 none rfl (.inl ⟨rfl,rfl⟩)

theorem chk_true {α : Type} {b : Bool} (h : b = true) (x : Option α) : chk b x = x := by rw [h]; rfl
theorem ble_mem {n k : Nat} (h : n * k ≤ maxBytes) : Nat.ble (n * k) maxBytes = true := by rw [Nat.ble_eq]; exact h

end Go.Rv
namespace Go.Rv
theorem wrapu64 {n : Int} (h0 : 0 ≤ n) (h1 : n < 18446744073709551616) : IntKind.wrap .u64 n = n := by
 have e : IntKind.wrap .u64 n = n % 18446744073709551616 := by simp [IntKind.wrap,IntKind.bits,IntKind.signed]
 rw [e]; omega
theorem mid_eq {a b : Nat} (ha : a ≤ B36) (hb : b ≤ B36) : IntKind.wrap .i64 (Int.fdiv (IntKind.wrap .u64 (IntKind.wrap .i64 ((a : Int) + (b : Int)))) (2 ^ (min (1 : Int).toNat 64))) = (((a + b) / 2 : Nat) : Int) := by
 unfold B36 at ha hb
 rw [wrap64 (n := (a : Int) + (b : Int)) (by omega) (by omega),wrapu64 (by omega) (by omega)]
 have e : (2 : Int) ^ (min (1 : Int).toNat 64) = 2 := rfl
 rw [e,Int.fdiv_eq_ediv_of_nonneg _ (by omega),wrap64 (by omega) (by omega)]
 omega
end Go.Rv
namespace Go.Rv
theorem lp_foldI {α σ X R : Type} (rs : List α) (g : σ → α → σ) (enc : Nat → σ → X) (fin : σ → Option R) (I : Nat → σ → Prop) {step : (X → Option R) → X → Option R} (hl : rs.length ≤ B36) (s0 : σ) (h0 : I 0 s0)
  (h1 : ∀ (i : Nat) (hi : i < rs.length) s,I i s → I (i + 1) (g s rs[i]) ∧ ∀ rec,step rec (enc i s) = rec (enc (i + 1) (g s rs[i])))
  (h2 : ∀ s,I rs.length s → ∀ rec,step rec (enc rs.length s) = fin s) : lp step FU (enc 0 s0) = fin (rs.foldl g s0) ∧ I rs.length (rs.foldl g s0) := by
 constructor
 ·refine lp_for (fun r => r = fin (rs.foldl g s0)) (fun i z => ∃ s,z = enc i s ∧ I i s ∧ rs.foldl g s0 = (rs.drop i).foldl g s) rs.length (fun i z hi hz => ?_) (fun z hz rec => ?_) FU _ (FUb hl) ⟨s0,rfl,h0,rfl⟩
  ·obtain ⟨s,rfl,hI,he⟩ := hz
   obtain ⟨q1,q2⟩ := h1 i hi s hI
   refine .inr ⟨_,⟨_,rfl,q1,?_⟩,q2⟩
   rw [he,List.drop_eq_getElem_cons hi]; rfl
  ·obtain ⟨s,rfl,hI,he⟩ := hz
   rw [h2 s hI,he,List.drop_length]; rfl
 ·have key : ∀ (ys : List α) (i : Nat) (s : σ),rs.drop i = ys → i ≤ rs.length → I i s → I rs.length (ys.foldl g s) := by
   intro ys
   induction ys with
   | nil =>
    intro i s hd hi hI
    have : i = rs.length := by
     have := congrArg List.length hd
     simp at this; omega
    subst this; exact hI
   | cons y ys ih =>
    intro i s hd hi hI
    have hil : i < rs.length := by
     rcases Nat.lt_or_ge i rs.length with h | h
     ·exact h
     ·rw [List.drop_eq_nil_of_le h] at hd; cases hd
    rw [List.drop_eq_getElem_cons hil] at hd
    simp only [List.cons.injEq] at hd
    obtain ⟨rfl,hd⟩ := hd
    exact ih (i + 1) _ hd hil (h1 i hil s hI).1
  exact key rs 0 s0 rfl (Nat.zero_le _) h0
end Go.Rv
namespace Go.Rv
theorem mlook_set1 (k : Kd) (hk : ∀ a b : k.ty,keqB k a b = true ↔ a = b) (m : List (k.ty × Int)) (y v : k.ty) (c : Int) :
  (mfind k m y < (mput k m y).length) ∧ mlook k (mset k (mput k m y) (mfind k m y) c) v = cond (keqB k v y) c (mlook k m v) := by
 induction m with
 | nil =>
  refine ⟨by simp [mfind,mput],?_⟩
  simp only [mfind,mput,List.findIdx_nil,List.getElem?_nil,List.nil_append,mset]
  simp only [mlook,mfind,List.modify_zero_cons,List.findIdx_cons]
  cases h : keqB k v y <;> simp
 | cons p m ih =>
  obtain ⟨p1,p2⟩ := p
  by_cases hy : keqB k y p1 = true
  ·have e1 : mfind k ((p1,p2) :: m) y = 0 := by simp [mfind,List.findIdx_cons,hy]
   have e2 : mput k ((p1,p2) :: m) y = (p1,p2) :: m := by simp [mput,e1]
   rw [e1,e2]
   refine ⟨by simp,?_⟩
   have hyp := (hk _ _).1 hy
   subst hyp
   simp only [mset,List.modify_zero_cons,mlook,mfind,List.findIdx_cons]
   cases h : keqB k v y <;> simp
  ·have hy' : keqB k y p1 = false := by simpa using hy
   have e1 : mfind k ((p1,p2) :: m) y = mfind k m y + 1 := by simp [mfind,List.findIdx_cons,hy']
   have e2 : mput k ((p1,p2) :: m) y = (p1,p2) :: mput k m y := by
    simp only [mput,e1,List.getElem?_cons_succ]
    cases m[mfind k m y]? <;> rfl
   rw [e1,e2]
   refine ⟨by simpa using ih.1,?_⟩
   have e3 : mset k ((p1,p2) :: mput k m y) (mfind k m y + 1) c = (p1,p2) :: mset k (mput k m y) (mfind k m y) c := by simp [mset]
   rw [e3]
   by_cases hv : keqB k v p1 = true
   ·have hvy : keqB k v y = false := by
     rw [(hk _ _).1 hv]
     cases h : keqB k p1 y with
     | false => rfl
     | true => exact absurd ((hk _ _).2 ((hk _ _).1 h).symm) hy
    simp [mlook,mfind,List.findIdx_cons,hv,hvy]
   ·have hv' : keqB k v p1 = false := by simpa using hv
    have := ih.2
    simpa [mlook,mfind,List.findIdx_cons,hv'] using this

theorem fstI_map {α R R' : Type} (f : Nat → α → Option R) (g : R → R') : ∀ (xs : List α) (i : Nat),fstI (fun i v => (f i v).map g) i xs = (fstI f i xs).map g
 | [],_ => rfl
 | x :: xs,i => by
  simp only [fstI,fstI_map f g xs (i + 1)]
  cases f i x <;> rfl

theorem nodup_ne {α : Type} {l : List α} (h : l.Nodup) {i j : Nat} (hij : i < j) (hj : j < l.length) : l[i] ≠ l[j] := List.pairwise_iff_getElem.1 h i j (by omega) hj hij
end Go.Rv
