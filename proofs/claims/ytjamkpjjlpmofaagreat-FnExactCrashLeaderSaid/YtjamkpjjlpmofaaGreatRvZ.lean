/- Contracts over several shards: plain facts. No condition. -/
import Derived.Test.YtjamkpjjlpmofaaGreatRvMv
import Derived.Test.YtjamkpjjlpmofaaGreatRvU
import Derived.Test.YtjamkpjjlpmofaaGreatRvV
namespace Go.Rv
end Go.Rv
namespace Go.Rv
def put1 (xs : List Int) (a : Int) : List Int := match xs.findIdx? (fun y => !(decide (y < a))) with
 | some j => if xs[j]? = some a then xs else xs.take j ++ [a] ++ xs.drop j
 | none => xs ++ [a]
theorem put1_len (xs : List Int) (a : Int) : (put1 xs a).length ≤ xs.length + 1 := by
 unfold put1
 split
 ·split
  ·omega
  ·simp; omega
 ·simp
theorem put1_mem (xs : List Int) (a b : Int) : b ∈ put1 xs a ↔ b ∈ xs ∨ b = a := by
 unfold put1
 split
 ·rename_i j hj
  split
  ·rename_i h
   constructor
   ·exact .inl
   ·rintro (h1 | rfl)
    ·exact h1
    ·exact List.mem_of_getElem? h
  ·have e := List.take_append_drop j xs
   constructor
   ·intro h
    simp only [List.mem_append,List.mem_singleton] at h
    rcases h with (h | h) | h
    ·exact .inl (List.mem_of_mem_take h)
    ·exact .inr h
    ·exact .inl (List.mem_of_mem_drop h)
   ·rintro (h | h)
    ·rw [← e] at h
     simp only [List.mem_append,List.mem_singleton] at h ⊢
     rcases h with h | h
     ·exact .inl (.inl h)
     ·exact .inr h
    ·simp [h]
 ·simp
def shardsL (xs : List (Int × (Int × (Int × Int)))) : List Int := xs.foldl (fun s y => put1 s y.1) []
theorem fold_put (xs : List (Int × (Int × (Int × Int)))) : ∀ s : List Int,(xs.foldl (fun s y => put1 s y.1) s).length ≤ s.length + xs.length ∧ ∀ b,b ∈ xs.foldl (fun s y => put1 s y.1) s ↔ b ∈ s ∨ ∃ y ∈ xs,y.1 = b := by
 induction xs with
 | nil => intro s; simp
 | cons x xs ih =>
  intro s
  obtain ⟨h1,h2⟩ := ih (put1 s x.1)
  have h3 := put1_len s x.1
  refine ⟨by rw [List.foldl_cons,List.length_cons]; omega,fun b => ?_⟩
  rw [List.foldl_cons,h2,put1_mem]
  constructor
  ·rintro ((h | h) | ⟨y,hy,h⟩)
   ·exact .inl h
   ·exact .inr ⟨x,by simp,h.symm⟩
   ·exact .inr ⟨y,by simp [hy],h⟩
  ·rintro (h | ⟨y,hy,h⟩)
   ·exact .inl (.inl h)
   ·rcases List.mem_cons.1 hy with rfl | hy
    ·exact .inl (.inr h.symm)
    ·exact .inr ⟨y,hy,h⟩
theorem put1_up {xs : List Int} (h : xs.Pairwise (· < ·)) (a : Int) : (put1 xs a).Pairwise (· < ·) := by
 unfold put1
 have hlt : ∀ i j (hi : i < xs.length) (hj : j < xs.length),i < j → xs[i] < xs[j] := fun i j hi hj hij => (List.pairwise_iff_getElem.1 h) i j hi hj hij
 cases hf : xs.findIdx? (fun y => !(decide (y < a))) with
 | none =>
  simp only
  rw [List.findIdx?_eq_none_iff] at hf
  refine List.pairwise_append.2 ⟨h,by simp,fun x hx y hy => ?_⟩
  rw [List.mem_singleton.1 hy]
  simpa using hf x hx
 | some j =>
  simp only
  obtain ⟨hj,h1,h2⟩ := List.findIdx?_eq_some_iff_getElem.1 hf
  split
  ·exact h
  ·rename_i hne
   have hja : a < xs[j] := by
    have h3 : ¬ xs[j] < a := by simpa using h1
    have h4 : xs[j] ≠ a := fun e => hne (by rw [List.getElem?_eq_getElem hj,e])
    omega
   rw [List.append_assoc]
   refine List.pairwise_append.2 ⟨h.sublist (List.take_sublist _ _),?_,fun x hx y hy => ?_⟩
   ·refine List.pairwise_append.2 ⟨by simp,h.sublist (List.drop_sublist _ _),fun x hx y hy => ?_⟩
    rw [List.mem_singleton.1 hx]
    obtain ⟨k,hk,rfl⟩ := List.getElem_of_mem hy
    rw [List.getElem_drop]
    rw [List.length_drop] at hk
    rcases Nat.eq_zero_or_pos k with rfl | hp
    ·simpa using hja
    ·have := hlt j (j + k) hj (by omega) (by omega); omega
   ·obtain ⟨k,hk,rfl⟩ := List.getElem_of_mem hx
    rw [List.length_take] at hk
    rw [List.getElem_take]
    have hka : xs[k] < a := by have := h2 k (by omega); simpa using this
    rcases List.mem_append.1 hy with hy | hy
    ·rw [List.mem_singleton.1 hy]; exact hka
    ·obtain ⟨m,hm,rfl⟩ := List.getElem_of_mem hy
     rw [List.getElem_drop]
     rw [List.length_drop] at hm
     exact hlt k (j + m) (by omega) (by omega) (by omega)
end Go.Rv
