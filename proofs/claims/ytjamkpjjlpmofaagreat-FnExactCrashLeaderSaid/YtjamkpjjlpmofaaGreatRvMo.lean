/- Slots: plain facts. No condition. -/
import Derived.Test.YtjamkpjjlpmofaaGreatRvM
namespace Go.Rv
def zS : (Int × Int) × SlotT := ((0,0),(0,(0,(0,((0,0),[])))))
def promR (s : SlotT) (b : Int) : Int × ((Int × Int) × SlotT) :=
 cond (!(slotCode s == 0)) (slotCode s,zS) (cond (!(bal b)) (3,zS) (cond (decide (b < s.2.2.1)) (8,zS) (0,(s.2.2.2.1,(s.1,(s.2.1,(b,s.2.2.2)))))))
theorem slotCode_zero {s : SlotT} (h : slotCode s = 0) : (idB s.1 = true ∧ shB s.2.1 = true ∧ inB s.2.2.1 (-1) 1000 = true) ∧ s.2.2.2.2.length ≤ 60 ∧ castGo none s.2.2.2.2 = 0 ∧ s.2.2.2.1 = lastV s.2.2.2.2 ∧ s.2.2.2.1.1 ≤ s.2.2.1 := by
 unfold slotCode at h
 cases h0 : (idB s.1 && (shB s.2.1 && inB s.2.2.1 (-1) 1000)) with
 | false => rw [h0] at h; simp at h
 | true =>
  rw [h0] at h
  simp only [Bool.and_eq_true] at h0
  simp only [Bool.not_true,cond_false] at h
  split at h
  ·exact absurd h (by decide)
  ·rename_i hl
   split at h
   ·rename_i hc; exact absurd h hc
   ·rename_i hc
    cases h1 : (!(s.2.2.2.1 == lastV s.2.2.2.2) || decide (s.2.2.2.1.1 > s.2.2.1)) with
    | true => rw [h1] at h; exact absurd h (by decide)
    | false =>
     simp only [Bool.or_eq_false_iff,Bool.not_eq_false',decide_eq_false_iff_not,beq_iff_eq] at h1
     exact ⟨h0,by omega,by omega,h1.1,by omega⟩

theorem slotCode_of {s : SlotT} (h0 : idB s.1 = true ∧ shB s.2.1 = true ∧ inB s.2.2.1 (-1) 1000 = true) (h1 : s.2.2.2.2.length ≤ 60) (h2 : castGo none s.2.2.2.2 = 0) (h3 : s.2.2.2.1 = lastV s.2.2.2.2) (h4 : s.2.2.2.1.1 ≤ s.2.2.1) : slotCode s = 0 := by
 unfold slotCode
 rw [h0.1,h0.2.1,h0.2.2,if_neg (by omega),if_neg (by omega),← h3]
 have : decide (s.2.2.2.1.1 > s.2.2.1) = false := decide_eq_false (by omega)
 simp [this]

end Go.Rv
namespace Go.Rv
theorem geti_set {α : Type} {L : List α} {i : Nat} (h : i < L.length) (a : α) : geti (L.set i a) (i : Int) = some a := by
 rw [geti_lt _ i (by simpa using h),List.getElem_set_self]
theorem gets_set {α : Type} {L : List α} {i : Nat} (h : i < L.length) (a : α) : (L.set i a)[i]? = some a := by
 rw [List.getElem?_eq_getElem (by simpa using h),List.getElem_set_self]

def wsum {α : Type} (w : α → Nat) (xs : List α) : Nat := (xs.map w).sum
theorem wsum_cons {α : Type} (w : α → Nat) (x : α) (xs : List α) : wsum w (x :: xs) = w x + wsum w xs := by simp [wsum]
theorem wsum_nil {α : Type} (w : α → Nat) : wsum w ([] : List α) = 0 := rfl
theorem wsum_mem {α : Type} (w : α → Nat) (xs : List α) (x : α) (h : x ∈ xs) : w x ≤ wsum w xs := le_sum _ _ (List.mem_map.2 ⟨x,h,rfl⟩)
theorem wsum_le {α : Type} (w v : α → Nat) (c : Nat) : ∀ (xs : List α),(∀ x ∈ xs,w x ≤ c * (v x + 1)) → wsum w xs ≤ c * (xs.length + wsum v xs)
 | [],_ => Nat.zero_le _
 | x :: xs,h => by
  have h1 := h x (List.mem_cons_self ..)
  have h2 := wsum_le w v c xs (fun y hy => h y (List.mem_cons_of_mem _ hy))
  rw [wsum_cons,wsum_cons,List.length_cons]
  have : c * (xs.length + 1 + (v x + wsum v xs)) = c * (v x + 1) + c * (xs.length + wsum v xs) := by rw [← Nat.mul_add]; congr 1; omega
  omega
theorem wsum_bnd {α : Type} (w : α → Nat) (c : Nat) : ∀ (xs : List α),(∀ x ∈ xs,w x ≤ c) → wsum w xs ≤ c * xs.length
 | [],_ => Nat.zero_le _
 | x :: xs,h => by
  have h1 := h x (List.mem_cons_self ..)
  have h2 := wsum_bnd w c xs (fun y hy => h y (List.mem_cons_of_mem _ hy))
  rw [wsum_cons,List.length_cons,Nat.mul_add,Nat.mul_one]
  omega

theorem mark_held {α : Type} (w : α → Nat) {mstep : (Int × (Int × List α) → Option (Int × List α)) → Int × (Int × List α) → Option (Int × List α)} {hstep : List α → (Int × Int → Option Int) → Int × Int → Option Int} :
  ∀ (xs : List α) (k : Int),xs.length ≤ B36 → 0 ≤ k → k + (wsum w xs : Int) ≤ B40 →
  (∀ (i : Nat) (k : Int) (x : α),x ∈ xs → i < xs.length → 0 ≤ k → k + (w x : Int) ≤ B40 → IntKind.wrap .i64 ((i : Int) + 1) = ((i + 1 : Nat) : Int) →
   ∃ x',(∀ (L : List α) (_ : i < L.length),geti L (i : Int) = some x → L[i]? = some x → ∀ rec,mstep rec (k,(i : Int),L) = rec (k + (w x : Int),((i + 1 : Nat) : Int),L.set i x')) ∧
    (∀ (L : List α) (_ : i < L.length),geti L (i : Int) = some x' → ∀ rec,hstep L rec (k,(i : Int)) = rec (k + (w x : Int),((i + 1 : Nat) : Int)))) →
  (∀ (k : Int) (L : List α) rec,mstep rec (k,(L.length : Int),L) = some (k,L)) →
  (∀ (k : Int) (L : List α) rec,hstep L rec (k,(L.length : Int)) = some k) →
  ∃ L : List α,L.length = xs.length ∧ lp mstep FU (k,(0 : Int),xs) = some (k + (wsum w xs : Int),L) ∧ lp (hstep L) FU (k,(0 : Int)) = some (k + (wsum w xs : Int)) := by
 intro xs k hl h0 hk h1 h2 h3
 have key : ∀ (ys : List α) (pre : List α) (k : Int) (n : Nat),pre.length + ys.length = xs.length → (∀ y ∈ ys,y ∈ xs) → 0 ≤ k → k + (wsum w ys : Int) ≤ B40 → ys.length < n →
   ∃ zs : List α,zs.length = ys.length ∧ lp mstep n (k,(pre.length : Int),pre ++ ys) = some (k + (wsum w ys : Int),pre ++ zs) ∧ lp (hstep (pre ++ zs)) n (k,(pre.length : Int)) = some (k + (wsum w ys : Int)) := by
  intro ys
  induction ys with
  | nil =>
   intro pre k n hlen hm hk0 hkb hn
   cases n with
   | zero => omega
   | succ n =>
    refine ⟨[],rfl,?_,?_⟩
    ·show mstep (lp mstep n) _ = _
     have e := h2 k (pre ++ []) (lp mstep n)
     rw [List.append_nil] at e ⊢
     rw [e,wsum_nil]
     simp
    ·show hstep _ (lp _ n) _ = _
     have e := h3 k (pre ++ []) (lp (hstep (pre ++ [])) n)
     rw [List.append_nil] at e ⊢
     rw [e,wsum_nil]
     simp
  | cons y ys ih =>
   intro pre k n hlen hm hk0 hkb hn
   cases n with
   | zero => omega
   | succ n =>
    rw [List.length_cons] at hlen hn
    rw [wsum_cons] at hkb
    have hi : pre.length < xs.length := by omega
    obtain ⟨y',m1,q1⟩ := h1 pre.length k y (hm y (List.mem_cons_self ..)) hi hk0 (by omega) (nxt (by omega))
    obtain ⟨zs,z1,z2,z3⟩ := ih (pre ++ [y']) (k + (w y : Int)) n (by rw [List.length_append,List.length_singleton]; omega) (fun z hz => hm z (List.mem_cons_of_mem _ hz)) (by omega) (by omega) (by omega)
    have e1 : pre ++ [y'] ++ zs = pre ++ y' :: zs := by rw [List.append_assoc]; rfl
    have e2 : pre ++ [y'] ++ ys = pre ++ y' :: ys := by rw [List.append_assoc]; rfl
    have e3 : ((pre ++ [y']).length : Int) = ((pre.length + 1 : Nat) : Int) := by rw [List.length_append,List.length_singleton]
    rw [e1,e2,e3] at z2
    rw [e1,e3] at z3
    refine ⟨y' :: zs,by rw [List.length_cons,List.length_cons,z1],?_,?_⟩
    ·show mstep (lp mstep n) _ = _
     have hh : pre.length < (pre ++ y :: ys).length := by rw [List.length_append,List.length_cons]; omega
     have hg : (pre ++ y :: ys)[pre.length]? = some y := by simp
     rw [m1 _ hh (by rw [geti_nat]; exact hg) hg]
     have es : (pre ++ y :: ys).set pre.length y' = pre ++ y' :: ys := by simp
     rw [es,z2,wsum_cons]
     congr 2
     omega
    ·show hstep _ (lp _ n) _ = _
     have hh : pre.length < (pre ++ y' :: zs).length := by rw [List.length_append,List.length_cons]; omega
     have hg : (pre ++ y' :: zs)[pre.length]? = some y' := by simp
     rw [q1 _ hh (by rw [geti_nat]; exact hg),z3,wsum_cons]
     congr 1
     omega
 obtain ⟨zs,z1,z2,z3⟩ := key xs [] k FU (by simp) (fun _ h => h) h0 hk (FUb hl)
 exact ⟨zs,z1,z2,z3⟩

theorem szl {α : Type} (xs : List α) (f : α × Int → Option Int) (w : α → Nat) (hl : xs.length ≤ maxLen) (h : ∀ x ∈ xs,SZ f w x) : SZ (fun (x : List α × Int) => cond (decide (IntKind.wrap .i64 (x.2 - lenI x.1) < (0 : Int))) (some (-1 : Int)) (lp (fun rec (z : Int × Int) => cond (decide (z.2 < lenI x.1)) ((geti x.1 z.2).bind fun y => (f (y,z.1)).bind fun r => cond (decide (r < (0 : Int))) (some (-1 : Int)) (rec (r,IntKind.wrap .i64 (z.2 + (1 : Int))))) (some z.1)) FU (IntKind.wrap .i64 (x.2 - lenI x.1),(0 : Int)))) (fun xs => xs.length + wsum w xs) xs := by
 intro left h0 h1
 have hm : maxLen = 9223372036854775807 := rfl
 have hw : IntKind.wrap .i64 (left - (xs.length : Int)) = left - (xs.length : Int) := wrap64 (by omega) (by omega)
 simp only [lenI_eq,hw]
 by_cases hh : left - (xs.length : Int) < 0
 ·left; simp [hh]
 ·have := sz_loop xs f w h (by omega) (left - (xs.length : Int)) (by omega) (by omega)
  simp only [hh,decide_false,cond_false]
  rcases this with h2 | ⟨h2,h3⟩
  ·exact .inl h2
  ·right
   refine ⟨?_,by unfold wsum; omega⟩
   rw [show left - ((xs.length + wsum w xs : Nat) : Int) = left - (xs.length : Int) - (((xs.map w).sum : Nat) : Int) from by unfold wsum; omega]
   exact h2

theorem szf {α : Type} (xs : List α) (hl : xs.length ≤ maxLen) : SZ (fun (x : List α × Int) => cond (decide (IntKind.wrap .i64 (x.2 - lenI x.1) < (0 : Int))) (some (-1 : Int)) (some (IntKind.wrap .i64 (x.2 - lenI x.1)))) (fun xs => xs.length) xs := by
 intro left h0 h1
 have hm : maxLen = 9223372036854775807 := rfl
 have hw : IntKind.wrap .i64 (left - (xs.length : Int)) = left - (xs.length : Int) := wrap64 (by omega) (by omega)
 simp only [lenI_eq,hw]
 by_cases hh : left - (xs.length : Int) < 0
 ·left; simp [hh]
 ·right; simp [hh]; omega

theorem copy_flat {α : Type} (xs : List α) (d : α) (hl : xs.length ≤ 1048576) :
  lp (fun rec (z : Int × List α) => cond (decide (z.1 < lenI xs)) ((geti xs z.1).bind fun y => (geti z.2 z.1).bind fun _ => (z.2[z.1.toNat]?).bind fun _ => rec (IntKind.wrap .i64 (z.1 + (1 : Int)),z.2.set z.1.toNat y)) (some z.2)) FU ((0 : Int),List.replicate (lenI xs).toNat d) = some xs := by
 have := copy_loop2 xs d some (fun _ _ => rfl) hl
 simp only [Option.bind_some] at this
 exact this
theorem eq_flat {α : Type} [BEq α] [ReflBEq α] (xs : List α) (hl : xs.length ≤ 1048576) :
  lp (fun rec (z : Int) => cond (decide (z < lenI xs)) ((geti xs z).bind fun y => (geti xs z).bind fun y' => cond (!(y == y')) (some false) (rec (IntKind.wrap .i64 (z + (1 : Int))))) (some true)) FU (0 : Int) = some true := by
 have := eq_loop xs (fun p => some (p.1 == p.2)) (fun x _ => by rw [beq_self_eq_true]) hl
 simp only [Option.bind_some] at this
 exact this
end Go.Rv
namespace Go.Rv
end Go.Rv
namespace Go.Rv
abbrev BalT := Int × (Int × Int)
abbrev LegT := Int × (Int × (Int × Int))
abbrev ConT := Int × List LegT
abbrev ShT := Int × ((List BalT) × ((List (Int × Int)) × ((List ConT) × ((List (Int × Int)) × (List Int)))))
abbrev TryT := Int × (Int × (Int × (Int × ((List Int) × (List (Int × Int))))))
abbrev HeardT := Int × (Int × (Int × (Int × Int)))
abbrev LeadT := Int × ((List TryT) × (List HeardT))
abbrev MsgT := Int × (Int × (Int × (Int × (Int × (Int × (Int × (Int × Int)))))))
abbrev CluT := (List ConT) × ((List ShT) × ((List (List SlotT)) × ((List LeadT) × (List MsgT))))
theorem lp_fstI {α R : Type} (xs : List α) (f : Nat → α → Option R) (fin : Option R) (I : Nat → Prop) {step : (Int → Option R) → Int → Option R} (hl : xs.length ≤ B36) (h0 : I 0)
  (h1 : ∀ (i : Nat) (hi : i < xs.length),I i → IntKind.wrap .i64 ((i : Int) + 1) = ((i + 1 : Nat) : Int) → (∀ rec,step rec (i : Int) = match f i xs[i] with
   | some r => some r
   | none => rec ((i + 1 : Nat) : Int)) ∧ (f i xs[i] = none → I (i + 1)))
  (h2 : ∀ rec,step rec (xs.length : Int) = fin) : lp step FU (0 : Int) = match fstI f 0 xs with
   | some r => some r
   | none => fin := by
 have key : ∀ (ys : List α) (i : Nat),xs.drop i = ys → i ≤ xs.length → I i → ∀ n,ys.length < n → lp step n (i : Int) = match fstI f i ys with
   | some r => some r
   | none => fin := by
  intro ys
  induction ys with
  | nil =>
   intro i hd hle _ n hn
   cases n with
   | zero => cases hn
   | succ n =>
    have : i = xs.length := by
     have := List.drop_eq_nil_iff.1 hd
     omega
    subst this
    exact h2 _
  | cons y ys ih =>
   intro i hd hle hI n hn
   cases n with
   | zero => cases hn
   | succ n =>
    have hlt : i < xs.length := by
     rcases Nat.lt_or_ge i xs.length with h | h
     ·exact h
     ·rw [List.drop_eq_nil_of_le h] at hd; cases hd
    rw [List.drop_eq_getElem_cons hlt] at hd
    have q1 := (List.cons.inj hd).1
    have q2 := (List.cons.inj hd).2
    show step (lp step n) (i : Int) = _
    obtain ⟨s1,s2⟩ := h1 i hlt hI (nxt (by omega))
    rw [s1,q1]
    rw [q1] at s2
    simp only [fstI]
    cases hf : f i y with
    | some r => rfl
    | none => exact ih (i + 1) q2 hlt (s2 hf) n (by simp only [List.length_cons] at hn; omega)
 exact key xs 0 rfl (Nat.zero_le _) h0 FU (FUb hl)
end Go.Rv
