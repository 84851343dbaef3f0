/- Engines: rows, tables, logs, writes as plain facts. No condition. -/
import Derived.Test.YtbeplmdadjgamaaGreatRvS7
import Derived.Test.YtbeplmdadjgamaaGreatRvM
namespace Go.Rv
open Go.Sort Go.Proofs Go.Shelf Go.RowKit Go.Lib
abbrev WriteT := ByteArray × (ByteArray × Bool)
abbrev LogT := List Int × List Int
abbrev EngT := LogT × (List RowT × (List (List RowT) × Int))
def byB (xs : List Int) : Prop := ∀ b ∈ xs, 0 ≤ b ∧ b < 256
theorem byB_wf {xs : List Int} (h : WFk (.sl none (.int .u8)) xs) : byB xs := fun b hb => by
  have := h.2 b hb
  have e1 : IntKind.u8.min = 0 := rfl
  have e2 : IntKind.u8.max = 255 := rfl
  simp [WFk, Lit.wf, e1, e2] at this
  omega
theorem byB_drop {xs : List Int} (h : byB xs) (k : Nat) : byB (xs.drop k) := fun b hb => h b (List.mem_of_mem_drop hb)
theorem byB_take {xs : List Int} (h : byB xs) (k : Nat) : byB (xs.take k) := fun b hb => h b (List.mem_of_mem_take hb)
theorem byB_app {xs ys : List Int} (h : byB xs) (h' : byB ys) : byB (xs ++ ys) := fun b hb => (List.mem_append.1 hb).elim (h b) (h' b)
theorem byB_cons {a : Int} {ys : List Int} (h : byB (a :: ys)) : (0 ≤ a ∧ a < 256) ∧ byB ys := ⟨h a List.mem_cons_self, fun b hb => h b (List.mem_cons_of_mem _ hb)⟩

def rowC (r : RowT) : Int := cond (!(inB ((r.1.size : Nat) : Int) 1 20) || (r.2.2.2 && !(r.2.2.1.toList == (⟨#[]⟩ : ByteArray).toList))) 1 (cond (decide (((r.2.2.1.size : Nat) : Int) > 100)) 2 (cond (!(inB r.2.1 1 1000000)) 3 0))
theorem rowC_zero {r : RowT} (h : rowC r = 0) : (1 ≤ r.1.size ∧ r.1.size ≤ 20) ∧ (r.2.2.2 = true → r.2.2.1.toList = (⟨#[]⟩ : ByteArray).toList) ∧ r.2.2.1.size ≤ 100 ∧ (1 ≤ r.2.1 ∧ r.2.1 ≤ 1000000) := by
  unfold rowC at h
  cases h1 : (!(inB ((r.1.size : Nat) : Int) 1 20) || (r.2.2.2 && !(r.2.2.1.toList == (⟨#[]⟩ : ByteArray).toList))) with
  | true => rw [h1] at h; simp at h
  | false =>
    rw [h1, cond_false] at h
    by_cases h2 : ((r.2.2.1.size : Nat) : Int) > 100
    · rw [decide_eq_true h2] at h; simp at h
    · rw [decide_eq_false h2, cond_false] at h
      cases h3 : inB r.2.1 1 1000000 with
      | false => rw [h3] at h; simp at h
      | true =>
        simp only [Bool.or_eq_false_iff, Bool.not_eq_false', Bool.and_eq_false_iff, inB, Bool.and_eq_true, decide_eq_true_eq] at h1 h3
        refine ⟨by omega, fun hd => ?_, by omega, by omega⟩
        rcases h1.2 with h4 | h4
        · rw [hd] at h4; cases h4
        · exact beq_iff_eq.1 h4

def tabStep (xs : List RowT) (i : Nat) (y : RowT) : Option Int := cond (!(rowC y == 0)) (some (rowC y)) (cond (decide (0 < i) && !(decide (cfRow (xs[i - 1]?.getD y) y < 0))) (some 1) none)
def tabC (xs : List RowT) : Int := if xs.length > 200 then 2 else (match fstI (tabStep xs) 0 xs with | some r => r | none => 0)

theorem fstI_none {α R : Type} (f : Nat → α → Option R) : ∀ (xs : List α) (k : Nat), fstI f k xs = none → ∀ (i : Nat) (h : i < xs.length), f (k + i) xs[i] = none
  | [], _, _, i, h => by simp at h
  | x :: xs, k, h, i, hi => by
    simp only [fstI] at h
    cases hf : f k x with
    | some r => rw [hf] at h; cases h
    | none =>
      rw [hf] at h
      cases i with
      | zero => simpa using hf
      | succ i => have := fstI_none f xs (k + 1) h i (by simpa using hi); rw [show k + (i + 1) = k + 1 + i by omega]; simpa using this
theorem fstI_some {α R : Type} (f : Nat → α → Option R) : ∀ (xs : List α) (k : Nat) (r : R), fstI f k xs = some r → ∃ (i : Nat) (h : i < xs.length), f (k + i) xs[i] = some r
  | [], _, _, h => by cases h
  | x :: xs, k, r, h => by
    simp only [fstI] at h
    cases hf : f k x with
    | some q => rw [hf] at h; exact ⟨0, by simp, by simpa using (hf.trans h)⟩
    | none =>
      rw [hf] at h
      obtain ⟨i, hi, he⟩ := fstI_some f xs (k + 1) r h
      exact ⟨i + 1, by simpa using hi, by rw [show k + (i + 1) = k + 1 + i by omega]; simpa using he⟩
theorem fstI_nz {α : Type} (f : Nat → α → Option Int) (h : ∀ i x r, f i x = some r → r ≠ 0) (xs : List α) : (match fstI f 0 xs with | some r => r | none => (0 : Int)) = 0 ↔ fstI f 0 xs = none := by
  cases he : fstI f 0 xs with
  | none => simp
  | some r =>
    obtain ⟨i, hi, hf⟩ := fstI_some f xs 0 r he
    simpa using h _ _ _ hf

theorem tabStep_nz (xs : List RowT) (i : Nat) (y : RowT) (r : Int) (h : tabStep xs i y = some r) : r ≠ 0 := by
  unfold tabStep at h
  cases h1 : (rowC y == 0) with
  | false => rw [h1] at h; simp only [Bool.not_false, cond_true, Option.some.injEq] at h; subst h; exact bne_iff_ne.1 (by simp [bne, h1])
  | true =>
    rw [h1] at h
    simp only [Bool.not_true, cond_false] at h
    cases h2 : (decide (0 < i) && !(decide (cfRow (xs[i - 1]?.getD y) y < 0))) with
    | true => rw [h2] at h; simp only [cond_true, Option.some.injEq] at h; omega
    | false => rw [h2] at h; cases h
theorem tabC_zero {xs : List RowT} (h : tabC xs = 0) : xs.length ≤ 200 ∧ ∀ r ∈ xs, rowC r = 0 := by
  unfold tabC at h
  split at h
  · omega
  · refine ⟨by omega, fun r hr => ?_⟩
    obtain ⟨i, hi, rfl⟩ := List.getElem_of_mem hr
    have h2 := fstI_none _ xs 0 ((fstI_nz _ (tabStep_nz xs) xs).1 h) i hi
    unfold tabStep at h2
    cases h3 : (rowC xs[i] == 0) with
    | true => exact beq_iff_eq.1 h3
    | false => rw [h3] at h2; cases h2

def maxV (xs : List RowT) : Int := xs.foldl (fun m r => if r.2.1 > m then r.2.1 else m) 0
def belowB (xs : List RowT) (v : Int) : Bool := xs.all fun r => decide (r.2.1 < v)
theorem maxV_go (v : Int) : ∀ (xs : List RowT) (m : Int), xs.foldl (fun m r => if r.2.1 > m then r.2.1 else m) m < v ↔ m < v ∧ ∀ r ∈ xs, r.2.1 < v
  | [], m => by simp
  | x :: xs, m => by
    rw [List.foldl_cons, maxV_go v xs]
    simp only [List.mem_cons, forall_eq_or_imp]
    by_cases h : x.2.1 > m
    · rw [if_pos h]; constructor
      · rintro ⟨a, b⟩; exact ⟨by omega, a, b⟩
      · rintro ⟨a, b, c⟩; exact ⟨b, c⟩
    · rw [if_neg h]; constructor
      · rintro ⟨a, b⟩; exact ⟨a, by omega, b⟩
      · rintro ⟨a, b, c⟩; exact ⟨a, c⟩
theorem maxV_lt (xs : List RowT) (v : Int) : maxV xs < v ↔ 0 < v ∧ belowB xs v = true := by
  unfold maxV belowB
  rw [maxV_go]
  simp

def chkF (a b : Int) : Int := Int.tmod (a * 257 + b + 1) 65521
def chkB (bs : List Int) : Int := bs.foldl chkF 1
def unfr : List Int → Option (List Int)
  | a :: b :: c :: d :: t => if (1 ≤ a * 256 + b ∧ a * 256 + b ≤ 500) ∧ a * 256 + b ≤ t.length ∧ chkB (t.take (a * 256 + b).toNat) = c * 256 + d then some (t.take (a * 256 + b).toNat) else none
  | _ => none
theorem unfr_some {r b : List Int} (h : unfr r = some b) : (1 ≤ b.length ∧ b.length ≤ 500) ∧ 4 + b.length ≤ r.length ∧ b = (r.drop 4).take b.length := by
  unfold unfr at h
  split at h
  · rename_i a b' c d t
    split at h
    · rename_i hc
      simp only [Option.some.injEq] at h
      subst h
      simp only [List.length_take, List.length_cons, List.drop_succ_cons, List.drop_zero]
      refine ⟨by omega, by omega, ?_⟩
      rw [show min (a * 256 + b').toNat t.length = (a * 256 + b').toNat by omega]
    · cases h
  · cases h
def recsG : Nat → List Int → List (List Int) × Nat
  | 0, _ => ([], 0)
  | n + 1, r => match unfr r with
    | none => ([], 0)
    | some b => (b :: (recsG n (r.drop (4 + b.length))).1, 4 + b.length + (recsG n (r.drop (4 + b.length))).2)
def recsL (d : List Int) : List (List Int) × Nat := recsG (d.length + 1) d
theorem recsG_ok : ∀ (n : Nat) (r : List Int), (recsG n r).2 ≤ r.length ∧ (recsG n r).1.length ≤ (recsG n r).2 ∧ ∀ b ∈ (recsG n r).1, (1 ≤ b.length ∧ b.length ≤ 500) ∧ ∀ x ∈ b, x ∈ r
  | 0, r => by simp [recsG]
  | n + 1, r => by
    unfold recsG
    cases h : unfr r with
    | none => simp
    | some b =>
      obtain ⟨h1, h2, h3⟩ := unfr_some h
      obtain ⟨q1, q2, q3⟩ := recsG_ok n (r.drop (4 + b.length))
      rw [List.length_drop] at q1
      refine ⟨by simp only; omega, by simp only [List.length_cons]; omega, fun x hx => ?_⟩
      simp only [List.mem_cons] at hx
      rcases hx with rfl | hx
      · exact ⟨h1, fun y hy => List.mem_of_mem_drop (i := 4) (List.mem_of_mem_take (i := x.length) (by rw [← h3]; exact hy))⟩
      · exact ⟨(q3 x hx).1, fun y hy => List.mem_of_mem_drop ((q3 x hx).2 y hy)⟩

def recI (D : List Int) (i : Nat) (s : List (List Int) × Nat) : Prop := (i ≤ s.2 ∧ s.2 ≤ D.length ∧ s.1.length ≤ s.2) ∧ recsL D = (s.1 ++ (recsG (D.length + 1 - i) (D.drop s.2)).1, s.2 + (recsG (D.length + 1 - i) (D.drop s.2)).2)
theorem recI_zero (D : List Int) : recI D 0 ([], 0) := ⟨⟨by simp, by simp, by simp⟩, by simp [recsL]⟩
theorem recI_stop {D : List Int} {i : Nat} {s : List (List Int) × Nat} (h : recI D i s) (hi : i ≤ D.length) (hu : unfr (D.drop s.2) = none) : recsL D = s := by
  obtain ⟨_, h2⟩ := h
  rw [show D.length + 1 - i = (D.length - i) + 1 by omega] at h2
  simp only [recsG, hu, List.append_nil, Nat.add_zero] at h2
  exact h2
theorem recI_next {D : List Int} {i : Nat} {s : List (List Int) × Nat} {b : List Int} (h : recI D i s) (hi : i ≤ D.length) (hu : unfr (D.drop s.2) = some b) : recI D (i + 1) (s.1 ++ [b], s.2 + (4 + b.length)) ∧ s.2 + (4 + b.length) ≤ D.length := by
  obtain ⟨⟨h1, h3, h4⟩, h2⟩ := h
  obtain ⟨q1, q2, q3⟩ := unfr_some hu
  rw [List.length_drop] at q2
  rw [show D.length + 1 - i = (D.length - i) + 1 by omega] at h2
  simp only [recsG, hu, List.drop_drop] at h2
  refine ⟨⟨⟨by simp only; omega, by simp only; omega, by simp only [List.length_append, List.length_cons, List.length_nil]; omega⟩, ?_⟩, by omega⟩
  rw [h2, show D.length + 1 - (i + 1) = D.length - i by omega]
  simp only [List.append_assoc, List.cons_append, List.nil_append, Nat.add_assoc]
theorem recI_end {D : List Int} {s : List (List Int) × Nat} (h : recI D D.length s) : unfr (D.drop s.2) = none := by
  rw [List.drop_eq_nil_of_le (by have := h.1; omega)]; rfl
end Go.Rv
namespace Go.Rv
open Go.Sort Go.Proofs Go.Shelf Go.RowKit Go.Lib
theorem strOf_list (xs : List Int) : (strOfNums xs).toList = xs.map fun n => UInt8.ofNat n.toNat := by
  rw [Go.ByteArray.toList_eq]; rfl
theorem strOf_eq {xs ys : List Int} (hx : byB xs) (hy : byB ys) : ((strOfNums xs).toList == (strOfNums ys).toList) = (xs == ys) := by
  rw [strOf_list, strOf_list, Bool.eq_iff_iff, beq_iff_eq, beq_iff_eq]
  constructor
  · intro h
    have key : ∀ (xs ys : List Int), byB xs → byB ys → (xs.map fun n => UInt8.ofNat n.toNat) = (ys.map fun n => UInt8.ofNat n.toNat) → xs = ys := by
      intro xs
      induction xs with
      | nil => intro ys _ _ h; cases ys with
        | nil => rfl
        | cons y ys => cases h
      | cons x xs ih =>
        intro ys hx hy h
        cases ys with
        | nil => cases h
        | cons y ys =>
          simp only [List.map_cons, List.cons.injEq] at h
          obtain ⟨a1, a2⟩ := byB_cons hx
          obtain ⟨b1, b2⟩ := byB_cons hy
          rw [ih ys a2 b2 h.2]
          congr 1
          have := congrArg UInt8.toNat h.1
          simp only [UInt8.toNat_ofNat'] at this
          omega
    exact key xs ys hx hy h
  · rintro rfl; rfl
theorem bytesNums_strOf {xs : List Int} (hx : byB xs) : bytesNums (strOfNums xs) = xs := by
  unfold bytesNums strOfNums
  simp only [List.map_map]
  conv => rhs; rw [← List.map_id xs]
  refine List.map_congr_left fun n hn => ?_
  have := hx n hn
  simp only [Function.comp, UInt8.toNat_ofNat', id]
  omega
theorem size_strOf (xs : List Int) : (strOfNums xs).size = xs.length := by
  unfold strOfNums; show Array.size _ = _; simp
theorem byB_bytes (t : ByteArray) : byB (bytesNums t) := fun b hb => by
  unfold bytesNums at hb
  obtain ⟨u, _, rfl⟩ := List.mem_map.1 hb
  have := u.toNat_lt
  omega
theorem len_bytes (t : ByteArray) : (bytesNums t).length = t.size := by
  unfold bytesNums; simp
theorem wrapu8 {n : Int} (h : 0 ≤ n) : IntKind.wrap .u8 n = n % 256 := by
  simp [IntKind.wrap, IntKind.bits, IntKind.signed]
theorem chkB_go : ∀ (bs : List Int) (a : Int), byB bs → 0 ≤ a → a < 65521 → 0 ≤ bs.foldl chkF a ∧ bs.foldl chkF a < 65521
  | [], a, _, h0, h1 => ⟨h0, h1⟩
  | b :: bs, a, hb, h0, h1 => by
    obtain ⟨a1, a2⟩ := byB_cons hb
    refine chkB_go bs _ a2 ?_ ?_ <;> unfold chkF <;> rw [Int.tmod_eq_emod_of_nonneg (by omega)] <;> omega
theorem chkB_ok {bs : List Int} (hb : byB bs) : 0 ≤ chkB bs ∧ chkB bs < 65521 := chkB_go bs 1 hb (by omega) (by omega)
theorem drop_cons {α : Type} {xs l : List α} {p : Nat} {a : α} (h : xs.drop p = a :: l) : (∃ hp : p < xs.length, xs[p] = a) ∧ xs.drop (p + 1) = l := by
  have hp : p < xs.length := by
    rcases Nat.lt_or_ge p xs.length with h' | h'
    · exact h'
    · rw [List.drop_eq_nil_of_le h'] at h; cases h
  rw [List.drop_eq_getElem_cons hp, List.cons.injEq] at h
  exact ⟨⟨hp, h.1⟩, h.2⟩
theorem geti_drop {α : Type} {xs l : List α} {p : Nat} {a : α} (h : xs.drop p = a :: l) : geti xs (p : Int) = some a := by
  obtain ⟨⟨hp, h1⟩, _⟩ := drop_cons h
  rw [geti_lt xs p hp, h1]
theorem cutL_nat {α : Type} (xs : List α) (a b : Nat) : cutL (some (a : Int)) (some (b : Int)) xs = (xs.drop a).take (b - a) := by simp [cutL]
theorem cutL_from {α : Type} (xs : List α) (a : Nat) (h : a ≤ xs.length) : cutL (some (a : Int)) none xs = xs.drop a := by
  simp only [cutL, Option.getD_some, Option.getD_none, Int.toNat_natCast]
  rw [List.take_of_length_le]; rw [List.length_drop]; omega
theorem bnd_nat (a b n : Nat) (h : a ≤ b) (h' : b ≤ n) : bndB (some (a : Int)) (some (b : Int)) none n = true := by simp [bndB]; omega
theorem bnd_from (a n : Nat) (h : a ≤ n) : bndB (some (a : Int)) none none n = true := by simp [bndB]; omega
end Go.Rv
namespace Go.Rv
theorem unfr_short {r : List Int} (h : r.length ≤ 4) : unfr r = none := by
  cases hu : unfr r with
  | none => rfl
  | some b => have := unfr_some hu; omega
theorem four {r : List Int} (h : 4 < r.length) : ∃ a b c d t, r = a :: b :: c :: d :: t := by
  match r, h with
  | a :: b :: c :: d :: t, _ => exact ⟨a, b, c, d, t, rfl⟩
theorem lp_recs {X R : Type} (D : List Int) (hl : D.length ≤ 1048576) (enc : List (List Int) × Nat → X) (out : List (List Int) × Nat → R) {step : (X → Option R) → X → Option R}
    (h : ∀ s : List (List Int) × Nat, s.2 ≤ D.length → s.1.length ≤ s.2 → ∀ rec, step rec (enc s) = match unfr (D.drop s.2) with
      | none => some (out s)
      | some b => rec (enc (s.1 ++ [b], s.2 + (4 + b.length)))) : lp step FU (enc ([], 0)) = some (out (recsL D)) := by
  refine lp_for (fun r => r = some (out (recsL D))) (fun i z => ∃ s, z = enc s ∧ recI D i s) (D.length + 1) (fun i z hi hz => ?_) (fun z hz rec => ?_) FU _ (by unfold FU; omega) ⟨_, rfl, recI_zero D⟩
  · obtain ⟨s, rfl, hI⟩ := hz
    have h1 := h s hI.1.2.1 hI.1.2.2
    cases hu : unfr (D.drop s.2) with
    | none =>
      refine .inl fun rec => ?_
      rw [h1 rec, hu, recI_stop hI (by omega) hu]
    | some b =>
      refine .inr ⟨_, ⟨_, rfl, (recI_next hI (by omega) hu).1⟩, fun rec => ?_⟩
      rw [h1 rec, hu]
  · obtain ⟨s, rfl, hI⟩ := hz
    have := hI.1
    omega
end Go.Rv
namespace Go.Rv
def numF (a b : Int) : Int := IntKind.wrap .u64 (IntKind.wrap .u64 (a * 256) + IntKind.wrap .u64 b)
def numB (bs : List Int) : Int := IntKind.wrap .i64 (bs.foldl numF 0)
def num8 (v : Int) : List Int := (List.range 8).map fun j => v / 2 ^ (8 * (7 - j)) % 256
theorem num8_len (v : Int) : (num8 v).length = 8 := by simp [num8]
theorem num8_get (v : Int) (i : Nat) (h : i < (num8 v).length) : (num8 v)[i] = v / 2 ^ (8 * (7 - i)) % 256 := by simp [num8]
theorem num8_eq (v : Int) : num8 v = [v / 72057594037927936 % 256, v / 281474976710656 % 256, v / 1099511627776 % 256, v / 4294967296 % 256, v / 16777216 % 256, v / 65536 % 256, v / 256 % 256, v / 1 % 256] := rfl
theorem byB_num8 (v : Int) : byB (num8 v) := fun b hb => by
  unfold num8 at hb
  obtain ⟨j, _, rfl⟩ := List.mem_map.1 hb
  omega
theorem numF_eq {a b : Int} (ha : 0 ≤ a) (ha' : a < 72057594037927936) (hb : 0 ≤ b ∧ b < 256) : numF a b = a * 256 + b := by
  unfold numF
  rw [wrapu64 (n := a * 256) (by omega) (by omega), wrapu64 (n := b) (by omega) (by omega), wrapu64 (by omega) (by omega)]
theorem eight {r : List Int} (h : r.length = 8) : ∃ a b c d e f g i, r = [a, b, c, d, e, f, g, i] := by
  match r, h with
  | [a, b, c, d, e, f, g, i], _ => exact ⟨a, b, c, d, e, f, g, i, rfl⟩
theorem numB_inv {bs : List Int} (hb : byB bs) (h8 : bs.length = 8) (h1 : 1 ≤ numB bs) : num8 (numB bs) = bs := by
  obtain ⟨a, b, c, d, e, f, g, i, rfl⟩ := eight h8
  have ha := hb a (by simp)
  have hbb := hb b (by simp)
  have hc := hb c (by simp)
  have hd := hb d (by simp)
  have he := hb e (by simp)
  have hf := hb f (by simp)
  have hg := hb g (by simp)
  have hi := hb i (by simp)
  have hs : [a, b, c, d, e, f, g, i].foldl numF 0 = ((((((a * 256 + b) * 256 + c) * 256 + d) * 256 + e) * 256 + f) * 256 + g) * 256 + i := by
    simp only [List.foldl_cons, List.foldl_nil]
    rw [numF_eq (a := 0) (by omega) (by omega) ha, numF_eq (by omega) (by omega) hbb, numF_eq (by omega) (by omega) hc, numF_eq (by omega) (by omega) hd, numF_eq (by omega) (by omega) he, numF_eq (by omega) (by omega) hf, numF_eq (by omega) (by omega) hg, numF_eq (by omega) (by omega) hi]
    omega
  unfold numB at h1 ⊢
  rw [hs] at h1 ⊢
  have hw : IntKind.wrap .i64 (((((((a * 256 + b) * 256 + c) * 256 + d) * 256 + e) * 256 + f) * 256 + g) * 256 + i) = ((((((a * 256 + b) * 256 + c) * 256 + d) * 256 + e) * 256 + f) * 256 + g) * 256 + i := by
    generalize hm : ((((((a * 256 + b) * 256 + c) * 256 + d) * 256 + e) * 256 + f) * 256 + g) * 256 + i = m at h1 ⊢
    have e : IntKind.wrap .i64 m = if m % 18446744073709551616 ≥ 9223372036854775808 then m % 18446744073709551616 - 18446744073709551616 else m % 18446744073709551616 := by
      simp [IntKind.wrap, IntKind.bits, IntKind.signed]
    rw [e] at h1 ⊢
    have hm0 : 0 ≤ m := by omega
    have hm1 : m < 18446744073709551616 := by omega
    rw [Int.emod_eq_of_lt hm0 hm1] at h1 ⊢
    split at h1
    · omega
    · rename_i h; rw [if_neg h]
  rw [hw, num8_eq]
  simp only [List.cons.injEq, and_true]
  refine ⟨?_, ?_, ?_, ?_, ?_, ?_, ?_, ?_⟩ <;> omega

def pT (t : ByteArray) : List Int := if t.size > 200 then [] else (t.size : Int) :: bytesNums t
theorem pT_len (t : ByteArray) : (pT t).length ≤ 201 := by
  unfold pT; split
  · simp
  · rw [List.length_cons, len_bytes]; omega
def packOne (w : WriteT) : List Int := [cond w.2.2 (1 : Int) 0] ++ (pT w.1 ++ cond w.2.2 [] (pT w.2.1))
def packF (acc : List Int) (w : WriteT) : List Int := acc ++ packOne w
def packL (v : Int) (ws : List WriteT) : List Int := ws.foldl packF (num8 v)
theorem packOne_len (w : WriteT) : (packOne w).length ≤ 403 := by
  have h1 := pT_len w.1
  have h2 := pT_len w.2.1
  unfold packOne
  cases w.2.2 <;> simp only [cond_true, cond_false, List.length_append, List.length_cons, List.length_nil] <;> omega
theorem byB_pT (t : ByteArray) : byB (pT t) := by
  unfold pT; split
  · intro b hb; cases hb
  · rename_i h
    intro b hb
    rcases List.mem_cons.1 hb with rfl | hb
    · omega
    · exact byB_bytes t b hb
theorem byB_packOne (w : WriteT) : byB (packOne w) := by
  unfold packOne
  refine byB_app (fun b hb => ?_) (byB_app (byB_pT _) ?_)
  · simp only [List.mem_cons, List.not_mem_nil, or_false] at hb
    subst hb
    cases w.2.2 <;> simp
  · cases w.2.2
    · exact byB_pT _
    · intro b hb; cases hb
theorem packL_go : ∀ (ws : List WriteT) (acc : List Int), ws.foldl packF acc = acc ++ ws.flatMap packOne
  | [], acc => by simp
  | w :: ws, acc => by rw [List.foldl_cons, packL_go ws]; unfold packF; rw [List.flatMap_cons, List.append_assoc]
theorem byB_packL (v : Int) (ws : List WriteT) : byB (packL v ws) := by
  unfold packL
  rw [packL_go]
  refine byB_app (byB_num8 v) fun b hb => ?_
  obtain ⟨w, _, hw⟩ := List.mem_flatMap.1 hb
  exact byB_packOne w b hw

def wrStep (ws : List WriteT) (i : Nat) (y : WriteT) : Option Int := cond (!(rowC (y.1, (1, y.2)) == 0)) (some (rowC (y.1, (1, y.2)))) (cond ((ws.take i).any fun u => u.1.toList == y.1.toList) (some 7) none)
def wrC (ws : List WriteT) : Int := if ws.length < 1 ∨ ws.length > 8 then 2 else (match fstI (wrStep ws) 0 ws with
  | some r => r
  | none => if (packL 1 ws).length > 500 then 2 else 0)
def packW (v : Int) (ws : List WriteT) : Int × List Int := cond (!(inB v 1 1000000)) (3, []) (cond (!(wrC ws == 0)) (wrC ws, []) (0, packL v ws))
theorem wrStep_nz (xs : List WriteT) (i : Nat) (y : WriteT) (r : Int) (h : wrStep xs i y = some r) : r ≠ 0 := by
  unfold wrStep at h
  cases h1 : (rowC (y.1, (1, y.2)) == 0) with
  | false => rw [h1] at h; simp only [Bool.not_false, cond_true, Option.some.injEq] at h; subst h; exact beq_eq_false_iff_ne.1 h1
  | true =>
    rw [h1] at h
    simp only [Bool.not_true, cond_false] at h
    cases h2 : ((xs.take i).any fun u => u.1.toList == y.1.toList) with
    | true => rw [h2] at h; simp only [cond_true, Option.some.injEq] at h; omega
    | false => rw [h2] at h; cases h
theorem wrC_zero {ws : List WriteT} (h : wrC ws = 0) : (1 ≤ ws.length ∧ ws.length ≤ 8) ∧ (∀ w ∈ ws, rowC (w.1, (1, w.2)) = 0) ∧ ws.Pairwise (fun a b => a.1 ≠ b.1) ∧ (packL 1 ws).length ≤ 500 := by
  unfold wrC at h
  split at h
  · omega
  · have hn : fstI (wrStep ws) 0 ws = none := by
      cases he : fstI (wrStep ws) 0 ws with
      | none => rfl
      | some r =>
        rw [he] at h
        obtain ⟨i, hi, hf⟩ := fstI_some _ ws 0 r he
        exact absurd h (wrStep_nz _ _ _ _ hf)
    rw [hn] at h
    simp only at h
    have hf := fstI_none _ ws 0 hn
    have hr : ∀ (i : Nat) (hi : i < ws.length), rowC (ws[i].1, (1, ws[i].2)) = 0 ∧ ((ws.take i).any fun u => u.1.toList == ws[i].1.toList) = false := fun i hi => by
      have h2 := hf i hi
      unfold wrStep at h2
      cases h3 : (rowC (ws[i].1, (1, ws[i].2)) == 0) with
      | false => rw [h3] at h2; cases h2
      | true =>
        rw [h3] at h2
        refine ⟨beq_iff_eq.1 h3, ?_⟩
        cases h4 : ((ws.take i).any fun u => u.1.toList == ws[i].1.toList) with
        | false => rfl
        | true => rw [Nat.zero_add, h4] at h2; cases h2
    refine ⟨by omega, fun w hw => ?_, List.pairwise_iff_getElem.2 fun i j hi hj hij he => ?_, by split at h <;> omega⟩
    · obtain ⟨i, hi, rfl⟩ := List.getElem_of_mem hw
      exact (hr i hi).1
    · have h5 := (hr j hj).2
      rw [List.any_eq_false] at h5
      exact h5 ws[i] (List.mem_take_iff_getElem.2 ⟨i, by omega, rfl⟩) (by rw [he]; exact beq_self_eq_true _)

def takeT : List Int → Option (ByteArray × List Int)
  | [] => none
  | a :: t => if (t.length : Int) < a then none else some (strOfNums (t.take a.toNat), t.drop a.toNat)
def takeW : List Int → Option (WriteT × List Int)
  | [] => none
  | f :: t => if f > 1 then none else match takeT t with
    | none => none
    | some (k, r) => if f = 1 then some ((k, ((⟨#[]⟩ : ByteArray), true)), r) else match takeT r with
      | none => none
      | some (v, r') => some ((k, (v, false)), r')
theorem takeT_some {d r : List Int} {k : ByteArray} (hb : byB d) (h : takeT d = some (k, r)) : (∃ a t, d = a :: t ∧ (0 ≤ a ∧ a ≤ t.length) ∧ k = strOfNums (t.take a.toNat) ∧ r = t.drop a.toNat) := by
  cases d with
  | nil => cases h
  | cons a t =>
    simp only [takeT] at h
    split at h
    · cases h
    · simp only [Option.some.injEq, Prod.mk.injEq] at h
      exact ⟨a, t, rfl, ⟨(byB_cons hb).1.1, by omega⟩, h.1.symm, h.2.symm⟩
theorem takeT_len {d r : List Int} {k : ByteArray} (hb : byB d) (h : takeT d = some (k, r)) : ∃ i, r = d.drop i ∧ 1 ≤ i ∧ i ≤ d.length := by
  obtain ⟨a, t, rfl, h1, rfl, rfl⟩ := takeT_some hb h
  exact ⟨a.toNat + 1, by simp, by omega, by rw [List.length_cons]; omega⟩
theorem takeT_inv {d r : List Int} {k : ByteArray} (hb : byB d) (h : takeT d = some (k, r)) (hk : k.size ≤ 200) : d = pT k ++ r := by
  obtain ⟨a, t, rfl, h1, rfl, rfl⟩ := takeT_some hb h
  unfold pT
  rw [if_neg (by omega), size_strOf, bytesNums_strOf (byB_take (byB_cons hb).2 _), List.length_take, List.cons_append, List.take_append_drop, show ((min a.toNat t.length : Nat) : Int) = a by omega]
theorem takeW_len {d r : List Int} {w : WriteT} (hb : byB d) (h : takeW d = some (w, r)) : ∃ i, r = d.drop i ∧ 1 ≤ i ∧ i ≤ d.length := by
  cases d with
  | nil => cases h
  | cons f t =>
    obtain ⟨_, hbt⟩ := byB_cons hb
    simp only [takeW] at h
    split at h
    · cases h
    · split at h
      · cases h
      · rename_i k r1 ht
        obtain ⟨i, rfl, h1, h2⟩ := takeT_len hbt ht
        split at h
        · simp only [Option.some.injEq, Prod.mk.injEq] at h
          exact ⟨i + 1, h.2.symm.trans (by simp), by omega, by rw [List.length_cons]; omega⟩
        · split at h
          · cases h
          · rename_i v r2 ht2
            simp only [Option.some.injEq, Prod.mk.injEq] at h
            obtain ⟨j, rfl, h3, h4⟩ := takeT_len (byB_drop hbt i) ht2
            rw [List.length_drop] at h4
            exact ⟨i + j + 1, h.2.symm.trans (by simp [List.drop_drop]), by omega, by rw [List.length_cons]; omega⟩
theorem takeW_inv {d r : List Int} {w : WriteT} (hb : byB d) (h : takeW d = some (w, r)) (hw : rowC (w.1, (1, w.2)) = 0) : d = packOne w ++ r := by
  obtain ⟨hk, _, hv, _⟩ := rowC_zero hw
  simp only at hk hv
  cases d with
  | nil => cases h
  | cons f t =>
    obtain ⟨hf, hbt⟩ := byB_cons hb
    simp only [takeW] at h
    split at h
    · cases h
    · split at h
      · cases h
      · rename_i k r1 ht
        split at h
        · rename_i hf1
          simp only [Option.some.injEq, Prod.mk.injEq] at h
          obtain ⟨rfl, rfl⟩ := h
          simp only at hk
          rw [takeT_inv hbt ht (by omega), hf1]
          simp [packOne]
        · split at h
          · cases h
          · rename_i hf1 _ _ v r2 ht2
            simp only [Option.some.injEq, Prod.mk.injEq] at h
            obtain ⟨rfl, rfl⟩ := h
            simp only at hk hv
            obtain ⟨i, hi, _⟩ := takeT_len hbt ht
            have hbr : byB r1 := by rw [hi]; exact byB_drop hbt i
            rw [takeT_inv hbt ht (by omega), takeT_inv hbr ht2 (by omega), show f = 0 by omega]
            simp [packOne]
def wrsG : Nat → List Int → Option (List WriteT)
  | 0, _ => some []
  | n + 1, d => if d = [] then some [] else match takeW d with
    | none => none
    | some (w, r) => (wrsG n r).map (w :: ·)
def wrsL (d : List Int) : Option (List WriteT) := wrsG (d.length + 1) d
theorem wrsG_inv : ∀ (n : Nat) (d : List Int) (ws : List WriteT), byB d → d.length < n → wrsG n d = some ws → (∀ w ∈ ws, rowC (w.1, (1, w.2)) = 0) → ws.flatMap packOne = d
  | 0, d, ws, _, hn, _, _ => by omega
  | n + 1, d, ws, hb, hn, h, hw => by
    simp only [wrsG] at h
    split at h
    · rename_i hd
      simp only [Option.some.injEq] at h
      subst h; subst hd; rfl
    · cases ht : takeW d with
      | none => rw [ht] at h; cases h
      | some p =>
        obtain ⟨w, r⟩ := p
        rw [ht] at h
        simp only at h
        obtain ⟨i, hi, h1, h2⟩ := takeW_len hb ht
        cases hr : wrsG n r with
        | none => rw [hr] at h; cases h
        | some us =>
          rw [hr] at h
          simp only [Option.map_some, Option.some.injEq] at h
          subst h
          have hbr : byB r := by rw [hi]; exact byB_drop hb i
          have hlr : r.length < n := by rw [hi, List.length_drop]; omega
          rw [List.flatMap_cons, wrsG_inv n r us hbr hlr hr (fun u hu => hw u (List.mem_cons_of_mem _ hu))]
          exact (takeW_inv hb ht (hw w List.mem_cons_self)).symm
theorem lp_wrs {X R : Type} (D : List Int) (hb : byB D) (hl : D.length ≤ 1048576) (enc : List WriteT × List Int → X) (out : Option (List WriteT) → Option R) {step : (X → Option R) → X → Option R}
    (h : ∀ s : List WriteT × List Int, (∃ k, s.2 = D.drop k ∧ k ≤ D.length ∧ s.1.length ≤ k) → ∀ rec, step rec (enc s) = if s.2 = [] then out (some s.1) else match takeW s.2 with
      | none => out none
      | some (w, r) => rec (enc (s.1 ++ [w], r))) : lp step FU (enc ([], D)) = out (wrsL D) := by
  refine lp_for (fun r => r = out (wrsL D)) (fun i z => ∃ s : List WriteT × List Int, z = enc s ∧ (∃ k, s.2 = D.drop k ∧ k ≤ D.length ∧ s.1.length ≤ k ∧ i ≤ k) ∧ wrsL D = (wrsG (D.length + 1 - i) s.2).map (s.1 ++ ·)) (D.length + 1) (fun i z hi hz => ?_) (fun z hz rec => ?_) FU _ (by unfold FU; omega) ⟨_, rfl, ⟨0, rfl, by omega, by simp, by omega⟩, ?_⟩
  · obtain ⟨s, rfl, ⟨k, hk1, hk2, hk3, hk4⟩, hw⟩ := hz
    have h1 := h s ⟨k, hk1, hk2, hk3⟩
    rw [show D.length + 1 - i = (D.length - i) + 1 by omega] at hw
    simp only [wrsG] at hw
    by_cases hd : s.2 = []
    · refine .inl fun rec => ?_
      rw [h1 rec, if_pos hd, hw, if_pos hd, Option.map_some, List.append_nil]
    · rw [if_neg hd] at hw
      cases ht : takeW s.2 with
      | none =>
        refine .inl fun rec => ?_
        rw [ht] at hw
        rw [h1 rec, if_neg hd, ht, hw]; rfl
      | some p =>
        obtain ⟨w, r⟩ := p
        rw [ht] at hw
        have hbs : byB s.2 := by rw [hk1]; exact byB_drop hb k
        obtain ⟨j, hj, h3, h4⟩ := takeW_len hbs ht
        rw [hk1, List.length_drop] at h4
        refine .inr ⟨_, ⟨(s.1 ++ [w], r), rfl, ⟨k + j, by rw [hj, hk1, List.drop_drop], by omega, by simp only [List.length_append, List.length_cons, List.length_nil]; omega, by omega⟩, ?_⟩, fun rec => ?_⟩
        · rw [hw, show D.length + 1 - (i + 1) = D.length - i by omega]
          simp only [Option.map_map]
          congr 1
          funext y
          simp
        · rw [h1 rec, if_neg hd, ht]
  · obtain ⟨s, rfl, ⟨k, _, _, _, _⟩, _⟩ := hz
    omega
  · rw [Nat.sub_zero]; unfold wrsL
    cases wrsG (D.length + 1) D <;> simp
def unpR (x : List Int) : Int × (List WriteT × Bool) := if x.length < 8 then (0, [], false) else match wrsL (x.drop 8) with
  | none => (0, [], false)
  | some ws => (numB (x.take 8), ws, (packW (numB (x.take 8)) ws).1 == 0)
theorem packW_zero {v : Int} {ws : List WriteT} (h : (packW v ws).1 = 0) : (1 ≤ v ∧ v ≤ 1000000) ∧ wrC ws = 0 ∧ (packW v ws).2 = packL v ws := by
  unfold packW at h ⊢
  cases h1 : inB v 1 1000000 with
  | false => rw [h1] at h; simp at h
  | true =>
    rw [h1] at h
    simp only [Bool.not_true, cond_false] at h ⊢
    cases h2 : (wrC ws == 0) with
    | false => rw [h2] at h; simp only [Bool.not_false, cond_true] at h; rw [h] at h2; simp at h2
    | true =>
      unfold inB at h1
      simp only [Bool.and_eq_true, decide_eq_true_eq] at h1
      exact ⟨h1, beq_iff_eq.1 h2, rfl⟩
theorem unp_same {x : List Int} {ws : List WriteT} (hb : byB x) (h8 : ¬ x.length < 8) (hw : wrsL (x.drop 8) = some ws) (h : (packW (numB (x.take 8)) ws).1 = 0) : (packW (numB (x.take 8)) ws).2 = x := by
  obtain ⟨h1, h2, h3⟩ := packW_zero h
  rw [h3]
  unfold packL
  rw [packL_go, numB_inv (byB_take hb 8) (by rw [List.length_take]; omega) h1.1, wrsG_inv _ _ _ (byB_drop hb 8) (by omega) hw (wrC_zero h2).2.1, List.take_append_drop]
theorem unpR_ok {x : List Int} (h : (unpR x).2.2 = true) : (1 ≤ (unpR x).1 ∧ (unpR x).1 ≤ 1000000) ∧ wrC (unpR x).2.1 = 0 := by
  unfold unpR at h ⊢
  by_cases h8 : x.length < 8
  · rw [if_pos h8] at h; cases h
  · rw [if_neg h8] at h ⊢
    cases hw : wrsL (x.drop 8) with
    | none => rw [hw] at h; cases h
    | some ws =>
      rw [hw] at h
      simp only [beq_iff_eq] at h ⊢
      exact ⟨(packW_zero h).1, (packW_zero h).2.1⟩
end Go.Rv
namespace Go.Rv
theorem wrsG_len : ∀ (n : Nat) (d : List Int) (ws : List WriteT), byB d → d.length < n → wrsG n d = some ws → ws.length ≤ d.length
  | 0, d, ws, _, hn, _ => by omega
  | n + 1, d, ws, hb, hn, h => by
    simp only [wrsG] at h
    split at h
    · simp only [Option.some.injEq] at h
      subst h; simp
    · cases ht : takeW d with
      | none => rw [ht] at h; cases h
      | some p =>
        obtain ⟨w, r⟩ := p
        rw [ht] at h
        simp only at h
        obtain ⟨i, hi, h1, h2⟩ := takeW_len hb ht
        cases hr : wrsG n r with
        | none => rw [hr] at h; cases h
        | some us =>
          rw [hr] at h
          simp only [Option.map_some, Option.some.injEq] at h
          subst h
          have hlr : r.length = d.length - i := by rw [hi, List.length_drop]
          have := wrsG_len n r us (by rw [hi]; exact byB_drop hb i) (by omega) hr
          rw [List.length_cons]; omega
theorem wrsL_len {d : List Int} {ws : List WriteT} (hb : byB d) (h : wrsL d = some ws) : ws.length ≤ d.length := wrsG_len _ _ _ hb (by omega) h
end Go.Rv
namespace Go.Rv
open Go.Sort Go.Proofs Go.Shelf Go.RowKit Go.Lib
theorem lp_opt {α σ X R : Type} (xs : List α) (g : σ → α → Option σ) (enc : Nat → σ → X) (fin : σ → Option R) (bad : Option R) (I : Nat → σ → Prop) {step : (X → Option R) → X → Option R} (hl : xs.length ≤ B36) (s0 : σ) (h0 : I 0 s0)
    (h1 : ∀ (i : Nat) (hi : i < xs.length) s, I i s → (∀ rec, step rec (enc i s) = (g s xs[i]).elim bad fun s' => rec (enc (i + 1) s')) ∧ ∀ s', g s xs[i] = some s' → I (i + 1) s')
    (h2 : ∀ s, I xs.length s → ∀ rec, step rec (enc xs.length s) = fin s) : lp step FU (enc 0 s0) = (xs.foldlM g s0).elim bad fin ∧ ∀ s, xs.foldlM g s0 = some s → I xs.length s := by
  constructor
  · refine lp_for (fun r => r = (xs.foldlM g s0).elim bad fin) (fun i z => ∃ s, z = enc i s ∧ I i s ∧ xs.foldlM g s0 = (xs.drop i).foldlM g s) xs.length (fun i z hi hz => ?_) (fun z hz rec => ?_) FU _ (FUb hl) ⟨s0, rfl, h0, rfl⟩
    · obtain ⟨s, rfl, hI, he⟩ := hz
      obtain ⟨q1, q2⟩ := h1 i hi s hI
      rw [List.drop_eq_getElem_cons hi, List.foldlM_cons] at he
      cases hg : g s xs[i] with
      | none =>
        refine .inl fun rec => ?_
        rw [q1 rec, hg, he, hg]; rfl
      | some s' =>
        refine .inr ⟨_, ⟨s', rfl, q2 s' hg, ?_⟩, fun rec => ?_⟩
        · rw [he, hg]; rfl
        · rw [q1 rec, hg]; rfl
    · obtain ⟨s, rfl, hI, he⟩ := hz
      rw [h2 s hI, he, List.drop_length]; rfl
  · have key : ∀ (ys : List α) (i : Nat) (s : σ), xs.drop i = ys → i ≤ xs.length → I i s → ∀ t, ys.foldlM g s = some t → I xs.length t := by
      intro ys
      induction ys with
      | nil =>
        intro i s hd hi hI t ht
        have : i = xs.length := by
          have := congrArg List.length hd
          simp at this; omega
        subst this
        have : s = t := by simpa using ht
        subst this; exact hI
      | cons y ys ih =>
        intro i s hd hi hI t ht
        have hil : i < xs.length := by
          rcases Nat.lt_or_ge i xs.length with h | h
          · exact h
          · rw [List.drop_eq_nil_of_le h] at hd; cases hd
        rw [List.drop_eq_getElem_cons hil] at hd
        simp only [List.cons.injEq] at hd
        obtain ⟨rfl, hd⟩ := hd
        rw [List.foldlM_cons] at ht
        cases hg : g s xs[i] with
        | none => rw [hg] at ht; cases ht
        | some s' =>
          rw [hg] at ht
          exact ih (i + 1) s' hd hil ((h1 i hil s hI).2 s' hg) t ht
    intro s hs
    exact key xs 0 s0 rfl (Nat.zero_le _) h0 s hs

theorem sorted_uniq {α : Type} (lt : α → α → Prop) (irr : ∀ a, ¬ lt a a) (asym : ∀ a b, lt a b → ¬ lt b a) : ∀ (xs ys : List α), xs.Pairwise lt → ys.Pairwise lt → (∀ v, v ∈ xs ↔ v ∈ ys) → xs = ys
  | [], [], _, _, _ => rfl
  | [], y :: ys, _, _, h => by have := (h y).2 List.mem_cons_self; cases this
  | x :: xs, [], _, _, h => by have := (h x).1 List.mem_cons_self; cases this
  | x :: xs, y :: ys, hx, hy, h => by
    rw [List.pairwise_cons] at hx hy
    have hxy : x = y := by
      rcases List.mem_cons.1 ((h x).1 List.mem_cons_self) with e | e
      · exact e
      · rcases List.mem_cons.1 ((h y).2 List.mem_cons_self) with e' | e'
        · exact e'.symm
        · exact absurd (hy.1 x e) (asym _ _ (hx.1 y e'))
    subst hxy
    rw [sorted_uniq lt irr asym xs ys hx.2 hy.2 fun v => ?_]
    constructor
    · intro hv
      rcases List.mem_cons.1 ((h v).1 (List.mem_cons_of_mem _ hv)) with e | e
      · subst e; exact absurd (hx.1 v hv) (irr v)
      · exact e
    · intro hv
      rcases List.mem_cons.1 ((h v).2 (List.mem_cons_of_mem _ hv)) with e | e
      · subst e; exact absurd (hy.1 v hv) (irr v)
      · exact e

theorem drop_while {α : Type} (p : α → Bool) : ∀ xs : List α, xs.take (xs.takeWhile p).length = xs.takeWhile p ∧ xs.drop (xs.takeWhile p).length = xs.dropWhile p
  | [] => by simp
  | x :: xs => by
    obtain ⟨h1, h2⟩ := drop_while p xs
    by_cases h : p x = true
    · simp [List.takeWhile_cons, List.dropWhile_cons, h, h1, h2]
    · simp [List.takeWhile_cons, List.dropWhile_cons, h]

def aheadR (r : RowT) (a : RowT) : Bool := decide (cfRow a r < 0)
def putAtR (xs : List RowT) (r : RowT) : Nat := (xs.takeWhile (aheadR r)).length
def putL (xs : List RowT) (r : RowT) : List RowT := cond (decide (putAtR xs r < xs.length) && !(decide (cfRow r (xs[putAtR xs r]?.getD r) < 0))) xs ((xs.take (putAtR xs r) ++ [r]) ++ xs.drop (putAtR xs r))
theorem putAtR_le (xs : List RowT) (r : RowT) : putAtR xs r ≤ xs.length := (List.takeWhile_sublist _).length_le
theorem putL_len (xs : List RowT) (r : RowT) : (putL xs r).length ≤ xs.length + 1 := by
  unfold putL
  cases (decide (putAtR xs r < xs.length) && !(decide (cfRow r (xs[putAtR xs r]?.getD r) < 0)))
  · have := putAtR_le xs r
    simp only [cond_false, List.length_append, List.length_take, List.length_drop, List.length_cons, List.length_nil]; omega
  · simp
theorem putF_len : ∀ (rs xs : List RowT), (rs.foldl putL xs).length ≤ xs.length + rs.length
  | [], xs => by simp
  | r :: rs, xs => by
    have h1 := putF_len rs (putL xs r)
    have h2 := putL_len xs r
    rw [List.foldl_cons, List.length_cons]; omega
theorem cfR_irr (a : RowT) : ¬ cfRow a a < 0 := by rw [cfRow_lt]; have := (cmpB_zero a.1 a.1).2 rfl; omega
theorem cfR_asym {a b : RowT} (h : cfRow a b < 0) : ¬ cfRow b a < 0 := by
  intro h2
  rw [cfRow_lt] at h
  rw [cfRow_swap] at h2
  omega
theorem cfR_tri {a b : RowT} (h : ¬ cfRow a b < 0) (h0 : cfRow a b ≠ 0) : cfRow b a < 0 := by
  rw [cfRow_swap]
  rw [cfRow_lt] at h
  rw [Ne, cfRow_zero] at h0
  omega
theorem putLR_ok {xs : List RowT} {r : RowT} (hs : xs.Pairwise fun a b => cfRow a b < 0) (hn : ∀ x ∈ xs, cfRow x r ≠ 0) : (putL xs r).Pairwise (fun a b => cfRow a b < 0) ∧ ∀ v, v ∈ putL xs r ↔ v = r ∨ v ∈ xs := by
  obtain ⟨h1, h2⟩ := drop_while (aheadR r) xs
  have hsplit : xs.takeWhile (aheadR r) ++ xs.dropWhile (aheadR r) = xs := List.takeWhile_append_dropWhile
  have hcond : (decide (putAtR xs r < xs.length) && !(decide (cfRow r (xs[putAtR xs r]?.getD r) < 0))) = false := by
    by_cases hlt : putAtR xs r < xs.length
    · rw [List.getElem?_eq_getElem hlt, Option.getD_some]
      have hnot : ¬ cfRow xs[putAtR xs r] r < 0 := by
        have := (takeWhile_at (aheadR r) xs).2.2 hlt
        unfold aheadR at this
        exact of_decide_eq_false this
      rw [decide_eq_true (cfR_tri hnot (hn _ (List.getElem_mem hlt))), Bool.not_true, Bool.and_false]
    · rw [decide_eq_false hlt, Bool.false_and]
  have e : putL xs r = (xs.takeWhile (aheadR r) ++ [r]) ++ xs.dropWhile (aheadR r) := by
    unfold putL
    rw [hcond, cond_false]
    unfold putAtR
    rw [h1, h2]
  rw [e]
  have hall : ∀ a ∈ xs.takeWhile (aheadR r), cfRow a r < 0 := fun a ha => by
    have := List.all_takeWhile (p := aheadR r) (l := xs)
    rw [List.all_eq_true] at this
    exact of_decide_eq_true (this a ha)
  have hs' := hs
  rw [← hsplit, List.pairwise_append] at hs'
  obtain ⟨s1, s2, s3⟩ := hs'
  have hrest : ∀ b ∈ xs.dropWhile (aheadR r), cfRow r b < 0 := by
    cases hd : xs.dropWhile (aheadR r) with
    | nil => intro b hb; cases hb
    | cons h t =>
      have hh : ¬ cfRow h r < 0 := by
        have hne : xs.dropWhile (aheadR r) ≠ [] := by rw [hd]; exact List.cons_ne_nil _ _
        have := List.head_dropWhile_not (aheadR r) (l := xs) hne
        simp only [hd, List.head_cons] at this
        unfold aheadR at this
        exact of_decide_eq_false this
      have hmem : h ∈ xs := by rw [← hsplit, hd]; exact List.mem_append_right _ List.mem_cons_self
      have hlt := cfR_tri hh (hn h hmem)
      intro b hb
      rcases List.mem_cons.1 hb with rfl | hb
      · exact hlt
      · rw [hd, List.pairwise_cons] at s2
        exact cfRow_trans hlt (s2.1 b hb)
  refine ⟨?_, fun v => ?_⟩
  · rw [List.pairwise_append, List.pairwise_append]
    refine ⟨⟨s1, List.pairwise_singleton _ _, fun a ha b hb => ?_⟩, s2, fun a ha b hb => ?_⟩
    · rw [List.mem_singleton] at hb; subst hb; exact hall a ha
    · rcases List.mem_append.1 ha with ha | ha
      · exact s3 a ha b hb
      · rw [List.mem_singleton] at ha; subst ha; exact hrest b hb
  · conv => rhs; rw [← hsplit]
    simp only [List.mem_append, List.mem_singleton]
    constructor
    · rintro ((h | h) | h)
      · exact .inr (.inl h)
      · exact .inl h
      · exact .inr (.inr h)
    · rintro (h | h | h)
      · exact .inl (.inr h)
      · exact .inl (.inl h)
      · exact .inr h
theorem putFR_ok : ∀ (rs xs : List RowT), xs.Pairwise (fun a b => cfRow a b < 0) → rs.Pairwise (fun a b => cfRow a b ≠ 0) → (∀ x ∈ xs, ∀ r ∈ rs, cfRow x r ≠ 0) → (rs.foldl putL xs).Pairwise (fun a b => cfRow a b < 0) ∧ ∀ v, v ∈ rs.foldl putL xs ↔ v ∈ rs ∨ v ∈ xs
  | [], xs, h1, _, _ => ⟨h1, by simp⟩
  | r :: rs, xs, h1, h2, h3 => by
    rw [List.pairwise_cons] at h2
    obtain ⟨q1, q2⟩ := putLR_ok h1 (r := r) (fun x hx => h3 x hx r List.mem_cons_self)
    obtain ⟨p1, p2⟩ := putFR_ok rs (putL xs r) q1 h2.2 (fun x hx s hs => by
      rcases (q2 x).1 hx with rfl | hx
      · exact h2.1 s hs
      · exact h3 x hx s (List.mem_cons_of_mem _ hs))
    refine ⟨p1, fun v => ?_⟩
    rw [List.foldl_cons, p2, q2, List.mem_cons]
    constructor
    · rintro (h | h | h)
      · exact .inl (.inr h)
      · exact .inl (.inl h)
      · exact .inr h
    · rintro ((h | h) | h)
      · exact .inr (.inl h)
      · exact .inl h
      · exact .inr (.inr h)
theorem sort_put {rs : List RowT} (hl : rs.length ≤ 1048576) (h : rs.Pairwise fun a b => cfRow a b ≠ 0) : sortRun okRow ((⟨#[]⟩ : ByteArray), ((0 : Int), ((⟨#[]⟩ : ByteArray), false))) rfl cfRow rs = some (rs.foldl putL []) := by
  obtain ⟨ys, h1, h2, h3⟩ := sortRun_some swoRow (d0 := ((⟨#[]⟩ : ByteArray), ((0 : Int), ((⟨#[]⟩ : ByteArray), false)))) (h0 := rfl) (xs := rs) (by omega) (fun _ _ => rfl)
  rw [h1]
  congr 1
  have hne : ys.Pairwise fun a b => cfRow a b ≠ 0 := (List.Perm.pairwise_iff (fun {a b} hab hba => hab (by rw [cfRow_zero] at hba ⊢; rw [cmpB_swap b.1 a.1]; omega)) h2).2 h
  have hlt : ys.Pairwise fun a b => cfRow a b < 0 := (h3.and hne).imp fun {a b} ⟨u1, u2⟩ => by
    rcases Decidable.em (cfRow a b < 0) with h | h
    · exact h
    · exact absurd (cfR_tri h u2) u1
  obtain ⟨p1, p2⟩ := putFR_ok rs [] List.Pairwise.nil h (fun x hx => by cases hx)
  exact sorted_uniq _ cfR_irr (fun _ _ => cfR_asym) ys _ hlt p1 fun v => by rw [p2, h2.mem_iff]; simp
def rowsW (v : Int) (ws : List WriteT) : List RowT := ws.map fun w => (w.1, (v, w.2))
def logF (nx : Int) (s : List RowT × Int) (r : List Int) : Option (List RowT × Int) := cond (!(unpR r).2.2 || (decide ((unpR r).1 ≥ nx) || decide ((unpR r).1 ≤ s.2))) none (some (s.1 ++ rowsW (unpR r).1 (unpR r).2.1, (unpR r).1))
def logI (i : Nat) (s : List RowT × Int) : Prop := s.1.length ≤ 8 * i ∧ (s.1.Pairwise fun a b => cfRow a b ≠ 0) ∧ ∀ r ∈ s.1, r.2.1 ≤ s.2
theorem logI_next {i : Nat} {nx : Int} {s s' : List RowT × Int} {r : List Int} (h : logI i s) (hf : logF nx s r = some s') : logI (i + 1) s' ∧ (unpR r).2.1.length ≤ 8 := by
  unfold logF at hf
  cases hc : (!(unpR r).2.2 || (decide ((unpR r).1 ≥ nx) || decide ((unpR r).1 ≤ s.2))) with
  | true => rw [hc] at hf; cases hf
  | false =>
    rw [hc] at hf
    simp only [cond_false, Option.some.injEq] at hf
    subst hf
    simp only [Bool.or_eq_false_iff, Bool.not_eq_false', decide_eq_false_iff_not] at hc
    obtain ⟨h1, h2, h3⟩ := h
    obtain ⟨q1, q2⟩ := unpR_ok hc.1
    obtain ⟨w1, w2, w3, w4⟩ := wrC_zero q2
    refine ⟨⟨by simp only [List.length_append, rowsW, List.length_map]; omega, ?_, ?_⟩, w1.2⟩
    · rw [List.pairwise_append]
      refine ⟨h2, ?_, fun a ha b hb he => ?_⟩
      · unfold rowsW
        rw [List.pairwise_map]
        exact w3.imp fun {a b} hab he => hab ((cmpB_zero _ _).1 ((cfRow_zero _ _).1 he).1)
      · unfold rowsW at hb
        obtain ⟨w, _, rfl⟩ := List.mem_map.1 hb
        have := h3 a ha
        have := ((cfRow_zero _ _).1 he).2
        simp only at this
        omega
    · intro a ha
      rcases List.mem_append.1 ha with ha | ha
      · have := h3 a ha; simp only; omega
      · unfold rowsW at ha
        obtain ⟨w, _, rfl⟩ := List.mem_map.1 ha
        simp
def logR (g : LogT) (nx : Int) : List RowT × Bool := if (recsL (g.1 ++ g.2)).2 < g.1.length + g.2.length then ([], false) else ((recsL (g.1 ++ g.2)).1.foldlM (logF nx) ([], 0)).elim ([], false) fun s => (s.1.foldl putL [], true)
def rowE (a b : RowT) : Bool := (a.1.toList == b.1.toList) && ((a.2.1 == b.2.1) && ((a.2.2.1.toList == b.2.2.1.toList) && ((a.2.2.2 == b.2.2.2) && true)))
def sameR (xs ys : List RowT) : Bool := (lenI xs == lenI ys) && !((xs.zip ys).any fun p => !(rowE p.1 p.2))
def engC (e : EngT) : Int :=
  if e.1.1.length + e.1.2.length > 6000 then 2 else if tabC e.2.1 ≠ 0 then tabC e.2.1 else if e.2.2.1.length > 6 then 2 else
    (fstI (fun _ t => cond (!(tabC t == 0)) (some (tabC t)) none) 0 e.2.2.1).getD
      (cond (!(inB e.2.2.2 1 1000000) || (!(belowB e.2.1 e.2.2.2) || (e.2.2.1.any fun t => !(belowB t e.2.2.2)))) 3
        (cond (!(logR e.1 e.2.2.2).2 || !(sameR (logR e.1 e.2.2.2).1 e.2.1)) 1
          (cond (e.2.1.any fun y => e.2.2.1.any fun t => !(belowB t y.2.1)) 1 0)))
theorem below_flat (tt : List (List RowT)) (v : Int) : belowB tt.flatten v = !(tt.any fun t => !(belowB t v)) := by
  unfold belowB
  rw [List.all_flatten, List.not_any_eq_all_not]
  simp
end Go.Rv
namespace Go.Rv
theorem recsL_ok {D : List Int} (hb : byB D) : (recsL D).2 ≤ D.length ∧ (recsL D).1.length ≤ (recsL D).2 ∧ ∀ b ∈ (recsL D).1, (1 ≤ b.length ∧ b.length ≤ 500) ∧ byB b := by
  obtain ⟨h1, h2, h3⟩ := recsG_ok (D.length + 1) D
  exact ⟨h1, h2, fun b hb' => ⟨(h3 b hb').1, fun x hx => hb x ((h3 b hb').2 x hx)⟩⟩
theorem tabs_len {tt : List (List RowT)} (h : fstI (fun _ t => cond (!(tabC t == 0)) (some (tabC t)) none) 0 tt = none) : ∀ t ∈ tt, t.length ≤ 200 := fun t ht => by
  obtain ⟨i, hi, rfl⟩ := List.getElem_of_mem ht
  have h2 := fstI_none _ tt 0 h i hi
  cases h3 : (tabC tt[i] == 0) with
  | true => exact (tabC_zero (beq_iff_eq.1 h3)).1
  | false => rw [h3] at h2; cases h2
theorem flat_len {tt : List (List RowT)} (h : ∀ t ∈ tt, t.length ≤ 200) : tt.flatten.length ≤ 200 * tt.length := by
  induction tt with
  | nil => simp
  | cons t tt ih =>
    have h1 := h t List.mem_cons_self
    have h2 := ih fun u hu => h u (List.mem_cons_of_mem _ hu)
    rw [List.flatten_cons, List.length_append, List.length_cons]; omega
theorem logF_len (nx : Int) : ∀ (rs : List (List Int)) (i : Nat) (s t : List RowT × Int), logI i s → rs.foldlM (logF nx) s = some t → logI (i + rs.length) t
  | [], i, s, t, hI, h => by
    have : s = t := by simpa using h
    subst this; exact hI
  | r :: rs, i, s, t, hI, h => by
    rw [List.foldlM_cons] at h
    cases hg : logF nx s r with
    | none => rw [hg] at h; cases h
    | some s' =>
      rw [hg] at h
      have := logF_len nx rs (i + 1) s' t (logI_next hI hg).1 h
      rw [List.length_cons, show i + (rs.length + 1) = i + 1 + rs.length by omega]
      exact this
theorem logR_len (g : LogT) (nx : Int) (hl : g.1.length + g.2.length ≤ 6000) : (logR g nx).1.length ≤ 48000 := by
  unfold logR
  split
  · simp
  · cases hf : (recsL (g.1 ++ g.2)).1.foldlM (logF nx) ([], 0) with
    | none => simp
    | some s =>
      have h1 := (logF_len nx _ 0 _ s ⟨by simp, by simp, by simp⟩ hf).1
      obtain ⟨q1, q2, _⟩ := recsG_ok ((g.1 ++ g.2).length + 1) (g.1 ++ g.2)
      have h2 := putF_len s.1 []
      rw [List.length_append] at q1
      simp only [Option.elim_some]
      unfold recsL at h1
      rw [List.length_append] at q2 h1
      simp only [List.length_nil] at h2
      omega
theorem old_same {own : List RowT} {tt : List (List RowT)} (hrow : ∀ r ∈ own, rowC r = 0) : (own.any fun y => decide (y.2.1 ≤ maxV tt.flatten)) = own.any fun y => tt.any fun t => !(belowB t y.2.1) := by
  have key : ∀ y ∈ own, decide (y.2.1 ≤ maxV tt.flatten) = tt.any fun t => !(belowB t y.2.1) := fun y hy => by
    have h1 := (rowC_zero (hrow y hy)).2.2.2.1
    have m := maxV_lt tt.flatten y.2.1
    rw [below_flat] at m
    cases hany : (tt.any fun t => !(belowB t y.2.1)) <;> simp only [hany, Bool.not_true, Bool.not_false] at m
    · exact decide_eq_false (by have := m.2 ⟨by omega, trivial⟩; omega)
    · refine decide_eq_true ?_
      rcases Int.lt_or_le (maxV tt.flatten) y.2.1 with h | h
      · exact absurd (m.1 h).2 (by decide)
      · exact h
  rw [Bool.eq_iff_iff, List.any_eq_true, List.any_eq_true]
  constructor
  · rintro ⟨y, hy, h⟩; exact ⟨y, hy, by rw [← key y hy]; exact h⟩
  · rintro ⟨y, hy, h⟩; exact ⟨y, hy, by rw [key y hy]; exact h⟩
end Go.Rv
namespace Go.Rv
theorem engC_zero {e : EngT} (h : engC e = 0) : e.1.1.length + e.1.2.length ≤ 6000 ∧ tabC e.2.1 = 0 ∧ e.2.2.1.length ≤ 6 ∧ ∀ t ∈ e.2.2.1, tabC t = 0 := by
  unfold engC at h
  by_cases c1 : e.1.1.length + e.1.2.length > 6000
  · rw [if_pos c1] at h; omega
  rw [if_neg c1] at h
  by_cases c2 : tabC e.2.1 = 0
  case neg => rw [if_pos c2] at h; exact absurd h c2
  rw [if_neg (fun h => h c2)] at h
  by_cases c3 : e.2.2.1.length > 6
  · rw [if_pos c3] at h; omega
  rw [if_neg c3] at h
  refine ⟨by omega, c2, by omega, fun t ht => ?_⟩
  cases hf : fstI (fun _ t => cond (!(tabC t == 0)) (some (tabC t)) none) 0 e.2.2.1 with
  | some r =>
    rw [hf] at h
    simp only [Option.getD_some] at h
    obtain ⟨i, hi, hq⟩ := fstI_some _ _ 0 r hf
    cases h3 : (tabC e.2.2.1[i] == 0) with
    | true => rw [h3] at hq; cases hq
    | false =>
      rw [h3] at hq
      simp only [Bool.not_false, cond_true, Option.some.injEq] at hq
      rw [hq, h] at h3
      simp at h3
  | none =>
    obtain ⟨i, hi, rfl⟩ := List.getElem_of_mem ht
    have h2 := fstI_none _ _ 0 hf i hi
    cases h3 : (tabC e.2.2.1[i] == 0) with
    | true => exact beq_iff_eq.1 h3
    | false => rw [h3] at h2; cases h2
def zE : Int × EngT := ((0 : Int), (([], []), ([], ([], (0 : Int)))))
def flushR (e : EngT) : Int × (Int × EngT) := cond (!(engC e == 0)) (engC e, zE) (cond (lenI e.2.1 == 0) (4, zE) (cond (decide (lenI e.2.2.1 ≥ 6)) (2, zE) (0, (0, (([], []), ([], (([e.2.1] ++ e.2.2.1), e.2.2.2)))))))
end Go.Rv
namespace Go.Rv
theorem recsG_sum : ∀ (n : Nat) (r : List Int), ((recsG n r).1.map List.length).sum ≤ (recsG n r).2
  | 0, r => by simp [recsG]
  | n + 1, r => by
    unfold recsG
    cases h : unfr r with
    | none => simp
    | some b =>
      have := recsG_sum n (r.drop (4 + b.length))
      simp only [List.map_cons, List.sum_cons]; omega
theorem unpR_len {x : List Int} (hb : byB x) : (unpR x).2.1.length ≤ x.length := by
  unfold unpR
  by_cases h8 : x.length < 8
  · rw [if_pos h8]; simp
  · rw [if_neg h8]
    cases hw : wrsL (x.drop 8) with
    | none => simp
    | some ws =>
      have := wrsL_len (byB_drop hb 8) hw
      rw [List.length_drop] at this
      simp only; omega
theorem logF_rows (nx : Int) : ∀ (rs : List (List Int)) (s t : List RowT × Int), (∀ b ∈ rs, byB b) → (∀ r ∈ s.1, rowC r = 0) → rs.foldlM (logF nx) s = some t → (∀ r ∈ t.1, rowC r = 0) ∧ t.1.length ≤ s.1.length + (rs.map List.length).sum
  | [], s, t, _, hs, h => by
    have : s = t := by simpa using h
    subst this; exact ⟨hs, by simp⟩
  | r :: rs, s, t, hb, hs, h => by
    rw [List.foldlM_cons] at h
    cases hg : logF nx s r with
    | none => rw [hg] at h; cases h
    | some s' =>
      rw [hg] at h
      unfold logF at hg
      cases hc : (!(unpR r).2.2 || (decide ((unpR r).1 ≥ nx) || decide ((unpR r).1 ≤ s.2))) with
      | true => rw [hc] at hg; cases hg
      | false =>
        rw [hc] at hg
        simp only [cond_false, Option.some.injEq] at hg
        simp only [Bool.or_eq_false_iff, Bool.not_eq_false'] at hc
        obtain ⟨q1, q2⟩ := unpR_ok hc.1
        obtain ⟨_, w2, _, _⟩ := wrC_zero q2
        have hl := unpR_len (hb r List.mem_cons_self)
        have hs' : ∀ y ∈ s'.1, rowC y = 0 := fun y hy => by
          rw [← hg] at hy
          rcases List.mem_append.1 hy with hy | hy
          · exact hs y hy
          · unfold rowsW at hy
            obtain ⟨w, hw, rfl⟩ := List.mem_map.1 hy
            have h1 := w2 w hw
            unfold rowC at h1 ⊢
            have e1 : inB 1 1 1000000 = true := rfl
            have e2 : inB (unpR r).1 1 1000000 = true := by unfold inB; rw [decide_eq_true q1.1, decide_eq_true q1.2]; rfl
            simp only [e1, e2] at h1 ⊢
            exact h1
        obtain ⟨p1, p2⟩ := logF_rows nx rs s' t (fun b hb' => hb b (List.mem_cons_of_mem _ hb')) hs' h
        refine ⟨p1, ?_⟩
        rw [← hg] at p2
        simp only [List.length_append, rowsW, List.length_map] at p2
        rw [List.map_cons, List.sum_cons]; omega
theorem putL_sub {xs : List RowT} {r v : RowT} (h : v ∈ putL xs r) : v = r ∨ v ∈ xs := by
  unfold putL at h
  cases hc : (decide (putAtR xs r < xs.length) && !(decide (cfRow r (xs[putAtR xs r]?.getD r) < 0))) with
  | true => rw [hc] at h; exact .inr h
  | false =>
    rw [hc] at h
    simp only [cond_false, List.mem_append, List.mem_singleton] at h
    rcases h with (h | h) | h
    · exact .inr (List.mem_of_mem_take h)
    · exact .inl h
    · exact .inr (List.mem_of_mem_drop h)
theorem putF_sub : ∀ (rs xs : List RowT) (v : RowT), v ∈ rs.foldl putL xs → v ∈ rs ∨ v ∈ xs
  | [], xs, v, h => .inr h
  | r :: rs, xs, v, h => by
    rcases putF_sub rs _ v h with h | h
    · exact .inl (List.mem_cons_of_mem _ h)
    · rcases putL_sub h with rfl | h
      · exact .inl List.mem_cons_self
      · exact .inr h
theorem logR_rows (g : LogT) (nx : Int) (hb : byB (g.1 ++ g.2)) : (∀ r ∈ (logR g nx).1, rowC r = 0) ∧ (logR g nx).1.length ≤ g.1.length + g.2.length := by
  unfold logR
  split
  · exact ⟨fun r hr => (by cases hr), by simp⟩
  · cases hf : (recsL (g.1 ++ g.2)).1.foldlM (logF nx) ([], 0) with
    | none => exact ⟨fun r hr => (by cases hr), by simp⟩
    | some s =>
      obtain ⟨q1, _, q3⟩ := recsL_ok hb
      obtain ⟨p1, p2⟩ := logF_rows nx _ ([], 0) s (fun b hb' => (q3 b hb').2) (fun r hr => by cases hr) hf
      have h2 := putF_len s.1 []
      have h3 := recsG_sum ((g.1 ++ g.2).length + 1) (g.1 ++ g.2)
      rw [List.length_append] at q1
      simp only [Option.elim_some]
      refine ⟨fun r hr => ?_, ?_⟩
      · rcases putF_sub s.1 [] r hr with h | h
        · exact p1 r h
        · cases h
      · unfold recsL at p2 q1
        rw [List.length_append] at p2 h3 q1
        simp only [List.length_nil] at h2 p2
        omega
def crashD (g : LogT) (k : Int) : List Int := g.1 ++ g.2.take k.toNat
def trimD (d : List Int) : List Int := d.take (recsL d).2
def crashR (e : EngT) (k : Int) : Int × (Int × EngT) := cond (!(engC e == 0)) (engC e, zE) (cond (!(inB k 0 (lenI e.1.2))) (3, zE)
  (0, (0, ((trimD (crashD e.1 k), []), ((logR (trimD (crashD e.1 k), []) e.2.2.2).1, (e.2.2.1, 1 + maxV ((logR (trimD (crashD e.1 k), []) e.2.2.2).1 ++ e.2.2.1.flatten)))))))
theorem lt_ext {a b : Int} (h : ∀ v, a < v ↔ b < v) : a = b := by
  have h1 := (h (b + 1)).2 (by omega)
  have h2 := (h (a + 1)).1 (by omega)
  omega
def maxF (m : Int) (r : RowT) : Int := if r.2.1 > m then r.2.1 else m
theorem maxV_app (xs ys : List RowT) : (if maxV ys > maxV xs then maxV ys else maxV xs) = maxV (xs ++ ys) := by
  refine lt_ext fun v => ?_
  have h1 := maxV_lt xs v
  have h2 := maxV_lt ys v
  have h3 := maxV_lt (xs ++ ys) v
  unfold belowB at h1 h2 h3
  rw [List.all_append, Bool.and_eq_true] at h3
  split
  · constructor
    · intro h; exact h3.2 ⟨(h2.1 h).1, (h1.1 (by omega)).2, (h2.1 h).2⟩
    · intro h; exact h2.2 ⟨(h3.1 h).1, (h3.1 h).2.2⟩
  · constructor
    · intro h; exact h3.2 ⟨(h1.1 h).1, (h1.1 h).2, (h2.1 (by omega)).2⟩
    · intro h; exact h1.2 ⟨(h3.1 h).1, (h3.1 h).2.1⟩
theorem maxV_bnd {xs : List RowT} (h : ∀ r ∈ xs, rowC r = 0) : 0 ≤ maxV xs ∧ maxV xs ≤ 1000000 := by
  have h1 := (maxV_lt xs 1000001).2 ⟨by omega, by
    unfold belowB
    rw [List.all_eq_true]
    intro r hr
    have := (rowC_zero (h r hr)).2.2.2.2
    exact decide_eq_true (by omega)⟩
  have h2 : ¬ maxV xs < 0 := fun h => by have := (maxV_lt xs 0).1 h; omega
  omega
theorem nextF (rs : List RowT) (h : ∀ r ∈ rs, rowC r = 0) : ∀ m : Int, rs.foldl (fun (s : Int) r => if s > r.2.1 + 1 then s else r.2.1 + 1) (1 + m) = 1 + rs.foldl maxF m := by
  induction rs with
  | nil => intro m; rfl
  | cons r rs ih =>
    intro m
    rw [List.foldl_cons, List.foldl_cons, show (if 1 + m > r.2.1 + 1 then 1 + m else r.2.1 + 1) = 1 + maxF m r by
      unfold maxF; split <;> split <;> omega]
    exact ih (fun x hx => h x (List.mem_cons_of_mem _ hx)) _
end Go.Rv
namespace Go.Rv
open Go.Sort Go.Proofs Go.Shelf Go.RowKit Go.Lib
theorem engC_more {e : EngT} (h : engC e = 0) : (1 ≤ e.2.2.2 ∧ e.2.2.2 ≤ 1000000) ∧ belowB e.2.1 e.2.2.2 = true := by
  obtain ⟨q1, q2, q3, q4⟩ := engC_zero h
  unfold engC at h
  rw [if_neg (by omega), if_neg (fun h => h q2), if_neg (by omega)] at h
  have hf : fstI (fun _ t => cond (!(tabC t == 0)) (some (tabC t)) none) 0 e.2.2.1 = none := by
    cases hf : fstI (fun _ t => cond (!(tabC t == 0)) (some (tabC t)) none) 0 e.2.2.1 with
    | none => rfl
    | some r =>
      obtain ⟨i, hi, hq⟩ := fstI_some _ _ 0 r hf
      rw [q4 _ (List.getElem_mem hi)] at hq
      cases hq
  rw [hf, Option.getD_none] at h
  cases h1 : inB e.2.2.2 1 1000000 with
  | false => rw [h1] at h; simp at h
  | true =>
    rw [h1] at h
    cases h2 : belowB e.2.1 e.2.2.2 with
    | false => rw [h2] at h; simp at h
    | true =>
      unfold inB at h1
      simp only [Bool.and_eq_true, decide_eq_true_eq] at h1
      exact ⟨h1, rfl⟩
theorem tabC_sorted {xs : List RowT} (h : tabC xs = 0) : xs.Pairwise fun a b => cfRow a b < 0 := by
  have hz := tabC_zero h
  unfold tabC at h
  rw [if_neg (by omega)] at h
  have hf := fstI_none _ xs 0 ((fstI_nz _ (tabStep_nz xs) xs).1 h)
  have hs : ∀ (i : Nat) (hi : i + 1 < xs.length), cfRow (xs[i]'(by omega)) xs[i + 1] < 0 := fun i hi => by
    have h2 := hf (i + 1) hi
    unfold tabStep at h2
    rw [hz.2 _ (List.getElem_mem hi), show 0 + (i + 1) - 1 = i by omega, List.getElem?_eq_getElem (by omega : i < xs.length), Option.getD_some, decide_eq_true (by omega : 0 < 0 + (i + 1))] at h2
    by_cases hc : cfRow (xs[i]'(by omega)) xs[i + 1] < 0
    · exact hc
    · rw [decide_eq_false hc] at h2; cases h2
  rw [List.pairwise_iff_getElem]
  intro i j hi hj hij
  obtain ⟨d, rfl⟩ : ∃ d, j = i + 1 + d := ⟨j - i - 1, by omega⟩
  clear hij
  induction d with
  | zero => exact hs i hj
  | succ d ih => exact cfRow_trans (ih (by omega)) (hs (i + 1 + d) hj)
def frameD (p : List Int) : List Int := ([(p.length : Int) / 256, (p.length : Int) % 256] ++ [chkB p / 256, chkB p % 256]) ++ p
theorem frameD_len (p : List Int) : (frameD p).length = p.length + 4 := by unfold frameD; simp
def writeR (e : EngT) (ws : List WriteT) (sync : Bool) : Int × (Int × EngT) :=
  cond (!(engC e == 0)) (engC e, zE) (cond (!(wrC ws == 0)) (wrC ws, zE) (cond (e.2.2.2 == 1000000) (3, zE)
    (cond (decide (e.1.1.length + (e.1.2 ++ frameD (packL e.2.2.2 ws)).length > 6000)) (2, zE)
      (cond (decide (lenI ((rowsW e.2.2.2 ws).foldl putL e.2.1) > 200)) (2, zE)
        (0, (e.2.2.2, (cond sync (e.1.1 ++ (e.1.2 ++ frameD (packL e.2.2.2 ws)), []) (e.1.1, e.1.2 ++ frameD (packL e.2.2.2 ws)), ((rowsW e.2.2.2 ws).foldl putL e.2.1, (e.2.2.1, e.2.2.2 + 1)))))))))
theorem packL_len (v : Int) (ws : List WriteT) : (packL v ws).length = (packL 1 ws).length ∧ 8 ≤ (packL v ws).length := by
  unfold packL
  rw [packL_go, packL_go, List.length_append, List.length_append, num8_len, num8_len]
  omega
theorem write_sort {e : EngT} {ws : List WriteT} (he : engC e = 0) (hw : wrC ws = 0) : sortRun okRow ((⟨#[]⟩ : ByteArray), ((0 : Int), ((⟨#[]⟩ : ByteArray), false))) rfl cfRow (e.2.1 ++ rowsW e.2.2.2 ws) = some ((rowsW e.2.2.2 ws).foldl putL e.2.1) := by
  obtain ⟨q1, q2, q3, q4⟩ := engC_zero he
  obtain ⟨m1, m2⟩ := engC_more he
  have hs := tabC_sorted q2
  obtain ⟨w1, w2, w3, w4⟩ := wrC_zero hw
  have hne : e.2.1.Pairwise fun a b => cfRow a b ≠ 0 := hs.imp fun h h0 => by omega
  have hnew : (rowsW e.2.2.2 ws).Pairwise fun a b => cfRow a b ≠ 0 := by
    unfold rowsW
    rw [List.pairwise_map]
    exact w3.imp fun {a b} hab he => hab ((cmpB_zero _ _).1 ((cfRow_zero _ _).1 he).1)
  have hl := (tabC_zero q2).1
  rw [sort_put (by rw [List.length_append]; unfold rowsW; rw [List.length_map]; omega) (by
    rw [List.pairwise_append]
    refine ⟨hne, hnew, fun a ha b hb h0 => ?_⟩
    unfold rowsW at hb
    obtain ⟨w, _, rfl⟩ := List.mem_map.1 hb
    have h1 := ((cfRow_zero _ _).1 h0).2
    simp only at h1
    unfold belowB at m2
    have := of_decide_eq_true (List.all_eq_true.1 m2 a ha)
    omega), List.foldl_append]
  obtain ⟨p1, p2⟩ := putFR_ok e.2.1 [] List.Pairwise.nil hne (fun x hx => (by cases hx))
  rw [sorted_uniq _ cfR_irr (fun _ _ => cfR_asym) _ e.2.1 p1 hs fun v => by rw [p2]; simp]
end Go.Rv
