/- Sorting a row that is lent. No condition. -/
import Derived.Test.YtjamkpjjlpmofaaGreatRvL
namespace Go.Rv
theorem lst_enc {e : Kd} {enc : e.ty → List Value} {f : Nat → e.ty → List Value → Prop} (h : ∀ j x c,f j x c ↔ c = enc x) : ∀ (xs : List e.ty) (j : Nat) (fl : List Value),Lst f j xs fl ↔ fl = (xs.map enc).flatten
 | [],j,fl => by simp [Lst]
 | x :: xs,j,fl => by
  simp only [Lst,List.map_cons,List.flatten_cons]
  constructor
  ·rintro ⟨c,r,rfl,h1,h2⟩
   rw [(h _ _ _).1 h1,(lst_enc h xs (j + 1) r).1 h2]
  ·rintro rfl
   exact ⟨_,_,rfl,(h _ _ _).2 rfl,(lst_enc h xs (j + 1) _).2 rfl⟩

end Go.Rv
