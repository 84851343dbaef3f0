/- The order of rows of a table. No condition. -/
import Derived.Test.YtbeplmdadjgamaaGreatRvSv
import Derived.Test.YtbeplmdadjgamaaGreatRvL
namespace Go.Rv
open Go.Sort Go.Proofs Go.Shelf Go.RowKit Go.Lib
theorem cmpL_lt : ∀ (a b : List UInt8), compareBytes a b < 0 ↔ Op.bytesLess a b = true
  | [], [] => by simp [compareBytes, Op.bytesLess]
  | [], _ :: _ => by simp [compareBytes, Op.bytesLess]
  | _ :: _, [] => by simp [compareBytes, Op.bytesLess]
  | x :: a, y :: b => by
    have ih := cmpL_lt a b
    simp only [compareBytes, Op.bytesLess, Bool.or_eq_true, Bool.and_eq_true, decide_eq_true_eq, beq_iff_eq]
    by_cases h1 : x < y
    · simp [h1]
    · by_cases h2 : y < x
      · rw [if_neg h1, if_pos h2]
        constructor
        · intro h; omega
        · rintro (h | ⟨rfl, _⟩)
          · exact absurd h h1
          · exact absurd h2 h1
      · rw [if_neg h1, if_neg h2, ih]
        have : x = y := UInt8.le_antisymm (UInt8.not_lt.1 h2) (UInt8.not_lt.1 h1)
        subst this
        simp [h1]
theorem cmpL_zero : ∀ (a b : List UInt8), compareBytes a b = 0 ↔ a = b
  | [], [] => by simp [compareBytes]
  | [], _ :: _ => by simp [compareBytes]
  | _ :: _, [] => by simp [compareBytes]
  | x :: a, y :: b => by
    have ih := cmpL_zero a b
    simp only [compareBytes, List.cons.injEq]
    by_cases h1 : x < y
    · rw [if_pos h1]
      constructor
      · intro h; omega
      · rintro ⟨rfl, _⟩; exact absurd h1 (UInt8.lt_irrefl x)
    · by_cases h2 : y < x
      · rw [if_neg h1, if_pos h2]
        constructor
        · intro h; omega
        · rintro ⟨rfl, _⟩; exact absurd h2 (UInt8.lt_irrefl x)
      · rw [if_neg h1, if_neg h2, ih]
        have : x = y := UInt8.le_antisymm (UInt8.not_lt.1 h2) (UInt8.not_lt.1 h1)
        simp [this]
theorem cmpL_swap : ∀ (a b : List UInt8), compareBytes b a = - compareBytes a b
  | [], [] => by simp [compareBytes]
  | [], _ :: _ => by simp [compareBytes]
  | _ :: _, [] => by simp [compareBytes]
  | x :: a, y :: b => by
    have ih := cmpL_swap a b
    simp only [compareBytes]
    by_cases h1 : x < y
    · rw [if_pos h1, if_neg (fun h => UInt8.lt_irrefl x (UInt8.lt_trans h1 h)), if_pos h1]; rfl
    · by_cases h2 : y < x
      · rw [if_pos h2, if_neg h1, if_pos h2]
      · rw [if_neg h2, if_neg h1, if_neg h1, if_neg h2, ih]
theorem cmpL_trans : ∀ (a b c : List UInt8), compareBytes a b < 0 → compareBytes b c < 0 → compareBytes a c < 0
  | [], _, [], h1, h2 => by cases ‹List UInt8› <;> simp [compareBytes] at h1 h2
  | [], _, _ :: _, _, _ => by simp [compareBytes]
  | _ :: _, [], _, h1, _ => by simp [compareBytes] at h1
  | _ :: _, _ :: _, [], _, h2 => by simp [compareBytes] at h2
  | x :: a, y :: b, z :: c, h1, h2 => by
    have ih := cmpL_trans a b c
    simp only [compareBytes] at h1 h2 ⊢
    by_cases hxy : x < y
    · by_cases hyz : y < z
      · rw [if_pos (UInt8.lt_trans hxy hyz)]; decide
      · rw [if_neg hyz] at h2
        by_cases hzy : z < y
        · rw [if_pos hzy] at h2; omega
        · have : y = z := UInt8.le_antisymm (UInt8.not_lt.1 hzy) (UInt8.not_lt.1 hyz)
          subst this
          rw [if_pos hxy]; decide
    · rw [if_neg hxy] at h1
      by_cases hyx : y < x
      · rw [if_pos hyx] at h1; omega
      · rw [if_neg hyx] at h1
        have : x = y := UInt8.le_antisymm (UInt8.not_lt.1 hyx) (UInt8.not_lt.1 hxy)
        subst this
        by_cases hyz : x < z
        · rw [if_pos hyz]; decide
        · rw [if_neg hyz] at h2 ⊢
          by_cases hzy : z < x
          · rw [if_pos hzy] at h2; omega
          · rw [if_neg hzy] at h2 ⊢
            exact ih h1 h2
abbrev RowT := ByteArray × (Int × (ByteArray × Bool))
abbrev KRow : Kd := .pair .str (.pair (.int .i64) (.pair .str .bool))
def okRow (_ : RowT) : Bool := true
def cmpI (x y : Int) : Int := if x < y then -1 else if x > y then 1 else 0
def orI (x y : Int) : Int := if x = 0 then y else x
def cfRow (x y : RowT) : Int := orI (cmpB x.1 y.1) (cmpI y.2.1 x.2.1)
def encRow (x : RowT) : List Value := [.string x.1, .int .i64 x.2.1, .string x.2.2.1, .bool x.2.2.2]
theorem cfRow_lt (x y : RowT) : cfRow x y < 0 ↔ cmpB x.1 y.1 < 0 ∨ cmpB x.1 y.1 = 0 ∧ y.2.1 < x.2.1 := by
  unfold cfRow orI cmpI
  split
  · rename_i h
    rw [h]
    split
    · rename_i h2; simp [h2]
    · split <;> simp_all
  · rename_i h; simp [h]
theorem cfRow_zero (x y : RowT) : cfRow x y = 0 ↔ cmpB x.1 y.1 = 0 ∧ y.2.1 = x.2.1 := by
  unfold cfRow orI cmpI
  split
  · rename_i h
    rw [h]
    split
    · rename_i h2; simp; omega
    · split
      · simp; omega
      · simp; omega
  · rename_i h; simp [h]
theorem cmpB_swap (a b : ByteArray) : cmpB b a = - cmpB a b := cmpL_swap _ _
theorem cmpB_trans {a b c : ByteArray} (h1 : cmpB a b < 0) (h2 : cmpB b c < 0) : cmpB a c < 0 := cmpL_trans _ _ _ h1 h2
theorem cmpB_zero (a b : ByteArray) : cmpB a b = 0 ↔ a = b := by
  unfold cmpB
  rw [cmpL_zero]
  constructor
  · intro h
    cases a; cases b
    simp only at h
    congr
    exact Array.ext' h
  · rintro rfl; rfl
theorem cfRow_swap (x y : RowT) : cfRow y x < 0 ↔ cmpB x.1 y.1 > 0 ∨ cmpB x.1 y.1 = 0 ∧ x.2.1 < y.2.1 := by
  rw [cfRow_lt, cmpB_swap x.1 y.1]
  constructor <;> rintro (h | h) <;> first | (left; omega) | (right; omega)
theorem cfRow_trans {x y z : RowT} (h1 : cfRow x y < 0) (h2 : cfRow y z < 0) : cfRow x z < 0 := by
  rw [cfRow_lt] at *
  rcases h1 with h1 | ⟨e1, h1⟩ <;> rcases h2 with h2 | ⟨e2, h2⟩
  · exact .inl (cmpB_trans h1 h2)
  · rw [cmpB_zero] at e2; rw [← e2]; exact .inl h1
  · rw [cmpB_zero] at e1; rw [e1]; exact .inl h2
  · rw [cmpB_zero] at e1 e2
    rw [e1, e2]
    exact .inr ⟨(cmpB_zero _ _).2 rfl, by omega⟩
theorem cmpB_ntrans {a b c : ByteArray} (h1 : ¬ cmpB a b < 0) (h2 : ¬ cmpB b c < 0) : ¬ cmpB a c < 0 := by
  intro h
  have h1' : cmpB b a ≤ 0 := by rw [cmpB_swap a b]; omega
  have h2' : cmpB c b ≤ 0 := by rw [cmpB_swap b c]; omega
  by_cases e1 : cmpB b a = 0
  · rw [cmpB_zero] at e1; rw [e1] at h2; exact h2 h
  · by_cases e2 : cmpB c b = 0
    · rw [cmpB_zero] at e2; rw [← e2] at h1; exact h1 h
    · have h3 := cmpB_trans (show cmpB c b < 0 by omega) (show cmpB b a < 0 by omega)
      rw [cmpB_swap a c] at h3; omega
theorem swoRow : SWO (ltOf fun a b : {x : RowT // okRow x = true} => cfRow a.1 b.1) where
  irrefl x := by
    have : ¬ cfRow x.1 x.1 < 0 := by
      rw [cfRow_lt, (cmpB_zero x.1.1 x.1.1).2 rfl]; omega
    simpa [ltOf] using this
  trans x y z h1 h2 := by
    simp only [ltOf, decide_eq_true_eq] at *
    exact cfRow_trans h1 h2
  ntrans x y z h1 h2 := by
    simp only [ltOf, decide_eq_false_iff_not] at *
    rw [cfRow_lt] at *
    intro h
    have a1 : ¬ cmpB x.1.1 y.1.1 < 0 := fun h => h1 (.inl h)
    have a2 : ¬ cmpB y.1.1 z.1.1 < 0 := fun h => h2 (.inl h)
    rcases h with h | ⟨e, h⟩
    · exact cmpB_ntrans a1 a2 h
    · rw [cmpB_zero] at e
      have b1 : ¬ (cmpB x.1.1 y.1.1 = 0 ∧ y.1.2.1 < x.1.2.1) := fun h => h1 (.inr h)
      have b2 : ¬ (cmpB y.1.1 z.1.1 = 0 ∧ z.1.2.1 < y.1.2.1) := fun h => h2 (.inr h)
      have e0 : cmpB x.1.1 y.1.1 = 0 := by
        rw [e] at a1 ⊢
        rw [cmpB_swap y.1.1 z.1.1] at a1 ⊢
        omega
      rw [cmpB_zero] at e0
      have c1 : ¬ y.1.2.1 < x.1.2.1 := fun h' => b1 ⟨(cmpB_zero _ _).2 e0, h'⟩
      have c2 : ¬ z.1.2.1 < y.1.2.1 := fun h' => b2 ⟨(cmpB_zero _ _).2 (e0 ▸ e), h'⟩
      omega
theorem hencRow (w : World) (C : Col) (R : Nat → Prop) (i : Nat) (x : KRow.ty) (p : List Nat) (c : List Value) : Rp w C R i KRow x p c ↔ c = encRow x := by
  simp only [Rp, encRow]
  constructor
  · rintro ⟨c1, c2, rfl, rfl, c3, c4, rfl, rfl, c5, c6, rfl, rfl, rfl⟩; rfl
  · rintro rfl; exact ⟨_, _, rfl, rfl, _, _, rfl, rfl, _, _, rfl, rfl, rfl⟩
theorem get2a (W : World) (o1 o2 : Obj) : ((W.alloc o1).alloc o2).heap[W.heap.size]? = some o1 := by
  show ((W.heap.push o1).push o2)[W.heap.size]? = some o1
  rw [Array.getElem?_push, if_neg (by rw [Array.size_push]; omega), Array.getElem?_push, if_pos rfl]
theorem get2b (W : World) (o1 o2 : Obj) : ((W.alloc o1).alloc o2).heap[W.heap.size + 1]? = some o2 := by
  show ((W.heap.push o1).push o2)[W.heap.size + 1]? = some o2
  rw [Array.getElem?_push, if_pos (by rw [Array.size_push])]
theorem cell_of {W : World} {b j : Nat} {cs : Array Value} {t : TypeId} {v : Value} (h : W.heap[b]? = some (.cells cs t)) (hv : cs[j]? = some v) : W.cell? ⟨b, j, none⟩ = some v := by
  unfold World.cell?
  simp only [h]
  exact hv
theorem cellnew0 (W : World) (a b : Value) (t : TypeId) : (W.alloc (.cells #[a, b] t)).cell? ⟨W.heap.size, 0, none⟩ = some a := by
  refine cell_of (cs := #[a, b]) (t := t) ?_ rfl
  show (W.heap.push _)[W.heap.size]? = _
  rw [Array.getElem?_push, if_pos rfl]
theorem cellnew1 (W : World) (a b : Value) (t : TypeId) : (W.alloc (.cells #[a, b] t)).cell? ⟨W.heap.size, 1, none⟩ = some b := by
  refine cell_of (cs := #[a, b]) (t := t) ?_ rfl
  show (W.heap.push _)[W.heap.size]? = _
  rw [Array.getElem?_push, if_pos rfl]
end Go.Rv
