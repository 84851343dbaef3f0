/- What is handed on through loops, joins and calls. No condition. -/
import Derived.Test.YtjamkpjjlpmofaaGreatRvC5
import Derived.Laws.IdiomStrings
namespace Go.Rv

mutual
def wfA (Q : Nat → Prop) : AVal → Prop
 | .ref i => Q i
 | .ptr i _ => Q i
 | .eptr i _ _ _ => Q i
 | .vw i _ _ _ => Q i
 | .sub _ ver _ _ _ => Q ver
 | .agg cs => wfAs Q cs
 | .tup cs => wfAs Q cs
 | .fn _ ps cs => wfAs Q ps ∧ wfAs Q cs
 | _ => True
def wfAs (Q : Nat → Prop) : List AVal → Prop
 | [] => True
 | c :: cs => wfA Q c ∧ wfAs Q cs
end

mutual
theorem AV.wf {w : World} {R Al : Nat → Prop} {H : Nat → Value} {Q : Nat → Prop} (hQ : ∀ i,Al i → Q i) : ∀ (x : AVal) (v : Value),AV w R Al H x v → wfA Q x
 | .undef,_,_ => by simp [wfA]
 | .int _ _,_,_ => by simp [wfA]
 | .bool _,_,_ => by simp [wfA]
 | .str _,_,_ => by simp [wfA]
 | .nil,_,_ => by simp [wfA]
 | .sl _ _,_,_ => by simp [wfA]
 | .pel _ _ _,_,_ => by simp [wfA]
 | .ref i,v,h => by simp only [AV] at h; simp only [wfA]; exact hQ i h.1
 | .ptr i o,v,h => by simp only [AV] at h; simp only [wfA]; exact hQ i h.1
 | .eptr i s j o,v,h => by simp only [AV] at h; simp only [wfA]; exact hQ i h.1
 | .vw i s lo n,v,h => by simp only [AV] at h; simp only [wfA]; exact hQ i h.1
 | .emp,_,_ => by simp [wfA]
 | .pnil,_,_ => by simp [wfA]
 | .sub i ver s j off,v,h => by simp only [AV] at h; simp only [wfA]; exact hQ ver h.1
 | .agg cs,v,h => by simp only [AV] at h; obtain ⟨vs,_,h⟩ := h; simp only [wfA]; exact AVs.wf hQ cs _ h
 | .tup cs,v,h => by simp only [AV] at h; obtain ⟨vs,_,h⟩ := h; simp only [wfA]; exact AVs.wf hQ cs _ h
 | .fn f ps cs,v,h => by simp only [AV] at h; obtain ⟨us,vs,_,h,h'⟩ := h; simp only [wfA]; exact ⟨AVs.wf hQ ps _ h,AVs.wf hQ cs _ h'⟩
theorem AVs.wf {w : World} {R Al : Nat → Prop} {H : Nat → Value} {Q : Nat → Prop} (hQ : ∀ i,Al i → Q i) : ∀ (xs : List AVal) (vs : List Value),AVs w R Al H xs vs → wfAs Q xs
 | [],_,_ => by simp [wfAs]
 | c :: cs,vs,h => by
  simp only [AVs] at h
  obtain ⟨v,r,_,h2,h3⟩ := h
  simp only [wfAs]
  exact ⟨AV.wf hQ c v h2,AVs.wf hQ cs r h3⟩
end

mutual
theorem AV.mono' {w w' : World} {R R' Al Al' : Nat → Prop} {H H' : Nat → Value} {Q : Nat → Prop} (hR : ∀ b,R b → R' b ∧ w'.heap[b]? = w.heap[b]?) (hA : ∀ i,Q i → Al i → Al' i ∧ H' i = H i) :
  ∀ (x : AVal) (v : Value),wfA Q x → AV w R Al H x v → AV w' R' Al' H' x v
 | .undef,_,_,_ => by simp [AV]
 | .int _ _,_,_,h => by simpa [AV] using h
 | .bool _,_,_,h => by simpa [AV] using h
 | .str _,_,_,h => by simpa [AV] using h
 | .nil,_,_,h => by simpa [AV] using h
 | .sl e xs,v,_,h => by
  simp only [AV] at h ⊢
  exact Rp.mono (C' := noC) (i' := 0) [] hR (fun b p hb => by simp [noC] at hb) _ _ [] _ h
 | .ref i,v,hq,h => by
  simp only [AV] at h ⊢
  simp only [wfA] at hq
  exact ⟨(hA i hq h.1).1,by rw [(hA i hq h.1).2]; exact h.2⟩
 | .ptr i o,v,hq,h => by
  simp only [AV] at h ⊢
  simp only [wfA] at hq
  exact ⟨(hA i hq h.1).1,by rw [(hA i hq h.1).2]; exact h.2⟩
 | .eptr i s j o,v,hq,h => by
  simp only [AV] at h ⊢
  simp only [wfA] at hq
  exact ⟨(hA i hq h.1).1,by rw [(hA i hq h.1).2]; exact h.2⟩
 | .vw i s lo n,v,hq,h => by
  simp only [AV] at h ⊢
  simp only [wfA] at hq
  exact ⟨(hA i hq h.1).1,by rw [(hA i hq h.1).2]; exact h.2⟩
 | .emp,v,_,h => by simpa [AV] using h
 | .pnil,v,_,h => by simpa [AV] using h
 | .sub i ver s j off,v,hq,h => by
  simp only [AV] at h ⊢
  simp only [wfA] at hq
  exact ⟨(hA ver hq h.1).1,h.2.1,by rw [(hA ver hq h.1).2]; exact h.2.2⟩
 | .pel e x o,v,_,h => by
  simp only [AV] at h ⊢
  obtain ⟨a,fl,h1,h2,h3⟩ := h
  exact ⟨a,fl,h1,h2.mono hR,Rp.mono (C' := noC) (i' := 0) [] hR (fun b p hb => by simp [noC] at hb) _ _ [] _ h3⟩
 | .agg cs,v,hq,h => by
  simp only [AV] at h ⊢
  simp only [wfA] at hq
  obtain ⟨vs,h1,h2⟩ := h
  exact ⟨vs,h1,AVs.mono' hR hA cs _ hq h2⟩
 | .tup cs,v,hq,h => by
  simp only [AV] at h ⊢
  simp only [wfA] at hq
  obtain ⟨vs,h1,h2⟩ := h
  exact ⟨vs,h1,AVs.mono' hR hA cs _ hq h2⟩
 | .fn f ps cs,v,hq,h => by
  simp only [AV] at h ⊢
  simp only [wfA] at hq
  obtain ⟨us,vs,h1,h2,h3⟩ := h
  exact ⟨us,vs,h1,AVs.mono' hR hA ps _ hq.1 h2,AVs.mono' hR hA cs _ hq.2 h3⟩
theorem AVs.mono' {w w' : World} {R R' Al Al' : Nat → Prop} {H H' : Nat → Value} {Q : Nat → Prop} (hR : ∀ b,R b → R' b ∧ w'.heap[b]? = w.heap[b]?) (hA : ∀ i,Q i → Al i → Al' i ∧ H' i = H i) :
  ∀ (xs : List AVal) (vs : List Value),wfAs Q xs → AVs w R Al H xs vs → AVs w' R' Al' H' xs vs
 | [],vs,_,h => by simpa [AVs] using h
 | c :: cs,vs,hq,h => by
  simp only [AVs] at h ⊢
  simp only [wfAs] at hq
  obtain ⟨v,r,h1,h2,h3⟩ := h
  exact ⟨v,r,h1,AV.mono' hR hA c v hq.1 h2,AVs.mono' hR hA cs r hq.2 h3⟩
end

section
variable {w : World} {S : Upd} {C C' : Col} {R Al Al' : Nat → Prop} {H H' : Nat → Value}

def Moves (C C' : Col) (H H' : Nat → Value) (ids : List (Option Nat)) (nx : Nat) : Prop :=
 ∀ q o,ids[q]? = some o → match o with
  | some j => (∀ b p,C b = some (j,p) → C' b = some (nx + q,p)) ∧ H' (nx + q) = H j
  | none => H' (nx + q) = Value.slice none 0 0

theorem Moves.left {a b : List (Option Nat)} {nx : Nat} (h : Moves C C' H H' (a ++ b) nx) : Moves C C' H H' a nx := fun q o hq => h q o (by
 rw [List.getElem?_append_left (List.getElem?_eq_some_iff.1 hq).1]; exact hq)
theorem Moves.right {a b : List (Option Nat)} {nx : Nat} (h : Moves C C' H H' (a ++ b) nx) : Moves C C' H H' b (nx + a.length) := fun q o hq => by
 have := h (a.length + q) o (by rw [List.getElem?_append_right (by omega)]; simpa using hq)
 rw [Nat.add_assoc]
 exact this

theorem getS_append_right {u S : Upd} {i : Nat} (h : ∀ p ∈ u,p.1 ≠ i) : getS (u ++ S) i = getS S i := by
 induction u with
 | nil => rfl
 | cons p u ih =>
  obtain ⟨d,e⟩ := p
  rw [List.cons_append,getS_cons_ne _ _ (fun he => h (d,e) (by simp) he.symm)]
  exact ih (fun p hp => h p (by simp [hp]))

theorem getS_append_left {u S : Upd} {i : Nat} (h : ∃ p ∈ u,p.1 = i) : getS (u ++ S) i = getS u i := by
 induction u with
 | nil => obtain ⟨p,hp,_⟩ := h; cases hp
 | cons p u ih =>
  obtain ⟨d,e⟩ := p
  by_cases hd : i = d
  ·subst hd
   rw [List.cons_append,getS_cons_self,getS_cons_self]
  ·rw [List.cons_append,getS_cons_ne _ _ hd,getS_cons_ne _ _ hd]
   obtain ⟨p,hp,he⟩ := h
   rcases List.mem_cons.1 hp with hp | hp
   ·subst hp; exact absurd he.symm hd
   ·exact ih ⟨p,hp,he⟩

theorem takeCells_res (hx : Ctx w C R Al H S) : ∀ (k : Kd) (cs : List AVal) (x : k.ty) (rest : List AVal) (ids : List (Option Nat)),takeCells S k cs = some (x,rest,ids) → ∀ (vs : List Value),AVs w R Al H cs vs →
  ∀ (nx : Nat),Moves C C' H H' ids nx → (∀ q,q < ids.length → Al' (nx + q)) →
  ∃ c r cs' u,resCells k x nx = (cs',u,nx + ids.length) ∧ vs = c ++ r ∧ AVs w R Al' H' cs' c ∧ AVs w R Al H rest r ∧ cs'.length = k.size ∧
   (∀ p ∈ u,nx ≤ p.1 ∧ p.1 < nx + ids.length) ∧ ∀ q,q < ids.length → (∃ p ∈ u,p.1 = nx + q) ∧ EntOK w C' R Al' H' (nx + q) (getS u (nx + q)) := by
 intro k
 induction k with
 | int k =>
  intro cs x rest ids h vs hv nx hm hal
  cases cs with
  | nil => simp [takeCells] at h
  | cons c cs =>
   simp only [AVs] at hv
   obtain ⟨v,r,h1,h2,h3⟩ := hv
   cases c <;> simp only [takeCells] at h <;> first | (cases h; done) | skip
   split at h
   ·rename_i hk
    subst hk
    simp only [Option.some.injEq,Prod.mk.injEq] at h
    obtain ⟨rfl,rfl,rfl⟩ := h
    simp only [AV] at h2
    subst h2
    exact ⟨[_],r,_,[],rfl,h1,by simp [AVs,AV],h3,rfl,by simp,by simp⟩
   ·cases h
 | bool =>
  intro cs x rest ids h vs hv nx hm hal
  cases cs with
  | nil => simp [takeCells] at h
  | cons c cs =>
   simp only [AVs] at hv
   obtain ⟨v,r,h1,h2,h3⟩ := hv
   cases c <;> simp only [takeCells] at h <;> first | (cases h; done) | skip
   simp only [Option.some.injEq,Prod.mk.injEq] at h
   obtain ⟨rfl,rfl,rfl⟩ := h
   simp only [AV] at h2
   subst h2
   exact ⟨[_],r,_,[],rfl,h1,by simp [AVs,AV],h3,rfl,by simp,by simp⟩
 | str =>
  intro cs x rest ids h vs hv nx hm hal
  cases cs with
  | nil => simp [takeCells] at h
  | cons c cs =>
   simp only [AVs] at hv
   obtain ⟨v,r,h1,h2,h3⟩ := hv
   cases c <;> simp only [takeCells] at h <;> first | (cases h; done) | skip
   simp only [Option.some.injEq,Prod.mk.injEq] at h
   obtain ⟨rfl,rfl,rfl⟩ := h
   simp only [AV] at h2
   subst h2
   exact ⟨[_],r,_,[],rfl,h1,by simp [AVs,AV],h3,rfl,by simp,by simp⟩
 | one a ih => intro cs x rest ids h vs hv nx hm hal; exact ih cs x rest ids h vs hv nx hm hal
 | pair a b iha ihb =>
  intro cs x rest ids h vs hv nx hm hal
  simp only [takeCells] at h
  split at h
  ·rename_i x1 r1 i1 h1
   split at h
   ·rename_i y r2 i2 h2
    simp only [Option.some.injEq,Prod.mk.injEq] at h
    obtain ⟨rfl,rfl,rfl⟩ := h
    simp only [List.length_append] at hal
    obtain ⟨c1,q1,cs1,u1,a1,a2,a3,a4,a5,a6,a7⟩ := iha _ _ _ _ h1 vs hv nx hm.left (fun q hq => hal q (by omega))
    obtain ⟨c2,q2,cs2,u2,b1,b2,b3,b4,b5,b6,b7⟩ := ihb _ _ _ _ h2 _ a4 (nx + i1.length) hm.right (fun q hq => by rw [Nat.add_assoc]; exact hal _ (by omega))
    refine ⟨c1 ++ c2,q2,cs1 ++ cs2,u2 ++ u1,?_,by rw [a2,b2,List.append_assoc],AVs.append _ _ _ _ a3 b3,b4,by simp [a5,b5,Kd.size],?_,?_⟩
    ·simp only [resCells,a1,b1,List.length_append,Nat.add_assoc]
    ·intro p hp
     simp only [List.length_append]
     rcases List.mem_append.1 hp with hp | hp
     ·have := b6 p hp; omega
     ·have := a6 p hp; omega
    ·intro q hq
     simp only [List.length_append] at hq
     by_cases hql : q < i1.length
     ·obtain ⟨⟨p,hp,hpe⟩,hent⟩ := a7 q hql
      refine ⟨⟨p,List.mem_append_right _ hp,hpe⟩,?_⟩
      rw [getS_append_right (fun p hp => by have := b6 p hp; omega)]
      exact hent
     ·obtain ⟨⟨p,hp,hpe⟩,hent⟩ := b7 (q - i1.length) (by omega)
      rw [show nx + i1.length + (q - i1.length) = nx + q from by omega] at hpe hent
      refine ⟨⟨p,List.mem_append_left _ hp,hpe⟩,?_⟩
      rw [getS_append_left ⟨p,hp,hpe⟩]
      exact hent
   ·cases h
  ·cases h
 | sl o e ih =>
  intro cs x rest ids h vs hv nx hm hal
  cases cs with
  | nil => simp [takeCells] at h
  | cons c cs =>
   simp only [AVs] at hv
   obtain ⟨v,r,h1,h2,h3⟩ := hv
   simp only [takeCells] at h
   split at h
   ·rename_i ys js hy
    simp only [Option.some.injEq,Prod.mk.injEq] at h
    obtain ⟨rfl,rfl,rfl⟩ := h
    cases o with
    | none =>
     obtain ⟨q1,q2⟩ := takeSl_ok hx h2 hy []
     subst q2
     exact ⟨[v],r,_,[],rfl,h1,by simp only [AVs,AV]; exact ⟨v,[],rfl,q1,rfl⟩,h3,rfl,by simp,by simp⟩
    | some t =>
     have fin : ∀ (v : Value) (ent : Ent) (js : List (Option Nat)) (u : Upd),js.length = u.length → (∀ q,q < js.length → u[q]?.map Prod.fst = some (nx + q) ∧ EntOK w C' R Al' H' (nx + q) (getS u (nx + q))) → (rowU nx t e ys) = (u,nx + js.length) → H' nx = v → 0 < js.length → (∀ q,q < js.length → Al' (nx + q)) → vs = v :: r →
       ∃ c r cs' u,resCells (.sl (some t) e) ys nx = (cs',u,nx + js.length) ∧ vs = c ++ r ∧ AVs w R Al' H' cs' c ∧ AVs w R Al H cs r ∧ cs'.length = (Kd.sl (some t) e).size ∧
        (∀ p ∈ u,nx ≤ p.1 ∧ p.1 < nx + js.length) ∧ ∀ q,q < js.length → (∃ p ∈ u,p.1 = nx + q) ∧ EntOK w C' R Al' H' (nx + q) (getS u (nx + q)) := by
      intro v ent js u hlen hq hru hv h0 hal' hvs
      refine ⟨[v],r,[.ref nx],u,by simp only [resCells,hru],hvs,?_,h3,rfl,fun p hp => ?_,fun q hql => ⟨?_,(hq q hql).2⟩⟩
      ·simp only [AVs,AV]
       exact ⟨_,[],rfl,⟨by simpa using hal' 0 h0,hv.symm⟩,rfl⟩
      ·obtain ⟨q,hqp⟩ := List.getElem?_of_mem hp
       have hql : q < js.length := by rw [hlen]; exact (List.getElem?_eq_some_iff.1 hqp).1
       have := (hq q hql).1
       rw [hqp] at this
       simp only [Option.map_some,Option.some.injEq] at this
       omega
      ·have := (hq q hql).1
       have hlt : q < u.length := by omega
       rw [List.getElem?_eq_getElem hlt] at this
       simp only [Option.map_some,Option.some.injEq] at this
       exact ⟨u[q],List.getElem_mem hlt,this⟩
     rcases takeSl_own hy with ⟨rfl,rfl,rfl⟩ | ⟨j,rfl,hro,hr,rfl⟩ | ⟨j,ver,rfl,hro,hr,rfl⟩
     ·simp only [AV] at h2
      subst h2
      cases hro : e.ro
      ·rw [hro] at hm hal
       simp only [cond_false] at hm hal ⊢
       have hm0 := hm 0 none rfl
       simp only [Nat.add_zero] at hm0
       refine fin _ .dead [none,none] [(nx,.nrow t e (nx + 1) []),(nx + 1,.ver)] rfl (fun q hq => ?_) (by simp only [rowU,hro]; rfl) hm0 (by simp) hal h1
       have hq' : q = 0 ∨ q = 1 := by simp only [List.length_cons,List.length_nil] at hq; omega
       rcases hq' with rfl | rfl
       ·refine ⟨rfl,?_⟩
        rw [Nat.add_zero,getS_cons_self]
        simp only [EntOK]
        rw [hm0]
        exact ⟨⟨_,[],rfl,Own.nil _ _ _ none,by simp [ownB],rfl⟩,hal 1 (by simp),(fun a h => by have := (hm 1 none rfl); rw [this] at h; cases h),fun g c N cur T o hv => by cases hv⟩
       ·refine ⟨rfl,?_⟩
        rw [getS_cons_ne _ _ (by omega),getS_cons_self]
        trivial
      ·rw [hro] at hm hal
       simp only [cond_true] at hm hal ⊢
       have hm0 := hm 0 none rfl
       simp only [Nat.add_zero] at hm0
       refine fin _ .dead [none] [(nx,.row t e [])] rfl (fun q hq => ?_) (by simp only [rowU,hro]; rfl) hm0 (by simp) hal h1
       have hq' : q = 0 := by simp only [List.length_cons,List.length_nil] at hq; omega
       subst hq'
       refine ⟨rfl,?_⟩
       rw [Nat.add_zero,getS_cons_self]
       simp only [EntOK]
       rw [hm0]
       exact ⟨_,[],rfl,Own.nil _ _ _ none,by simp [ownB],rfl⟩
     ·simp only [AV] at h2
      obtain ⟨h2a,rfl⟩ := h2
      have hent := hx.ent j
      rw [hr] at hent
      simp only [EntOK] at hent
      obtain ⟨hm1,hm2⟩ := hm 0 (some j) rfl
      simp only [Nat.add_zero] at hm1 hm2
      refine fin _ .dead [some j] [(nx,.row t e ys)] rfl (fun q hq => ?_) (by simp only [rowU,hro]; rfl) hm2 (by simp) hal h1
      have hq' : q = 0 := by simp only [List.length_cons,List.length_nil] at hq; omega
      subst hq'
      refine ⟨rfl,?_⟩
      rw [Nat.add_zero,getS_cons_self]
      simp only [EntOK]
      rw [hm2]
      exact Rp.mono [] (fun b hb => ⟨hb,rfl⟩) (fun b p hb => ⟨by simpa using hm1 b p hb,rfl⟩) _ _ [] _ hent
     ·simp only [AV] at h2
      obtain ⟨h2a,rfl⟩ := h2
      obtain ⟨_,hrp,hver,hhd⟩ := nrow_ok hx hr
      obtain ⟨hm1,hm2⟩ := hm 0 (some j) rfl
      obtain ⟨_,hm3⟩ := hm 1 (some ver) rfl
      simp only [Nat.add_zero] at hm1 hm2
      refine fin _ .dead [some j,some ver] [(nx,.nrow t e (nx + 1) ys),(nx + 1,.ver)] rfl (fun q hq => ?_) (by simp only [rowU,hro]; rfl) hm2 (by simp) hal h1
      have hq' : q = 0 ∨ q = 1 := by simp only [List.length_cons,List.length_nil] at hq; omega
      rcases hq' with rfl | rfl
      ·refine ⟨rfl,?_⟩
       rw [Nat.add_zero,getS_cons_self]
       simp only [EntOK]
       rw [hm2,hm3]
       exact ⟨Rp.mono [] (fun b hb => ⟨hb,rfl⟩) (fun b p hb => ⟨by simpa using hm1 b p hb,rfl⟩) _ _ [] _ hrp,hal 1 (by simp),hhd⟩
      ·refine ⟨rfl,?_⟩
       rw [getS_cons_ne _ _ (by omega),getS_cons_self]
       trivial
   ·cases h
end
end Go.Rv
namespace Go.Rv

def SOK (w0 : World) (L : Hnd) (R0 : Nat → Prop) (gs : List (AVal × Value)) (st : St) (a : Act) (w : World) : Prop :=
 ∃ C R Al H,Inv w0 L R0 st.sto w C R Al H ∧ (∀ t,AV w R Al H (getE st.env t) (a.tmps.getD t undef)) ∧ (∀ i,Al i → i < st.nxt) ∧ a.tmps.size = st.sz ∧ a.defers = [] ∧ ∀ p ∈ gs,AV w R Al H p.1 p.2

def Came (st0 st : St) : Prop := (∃ e,st.env = e ++ st0.env) ∧ (∃ u,st.sto = u ++ st0.sto) ∧ st0.nxt ≤ st.nxt ∧ st.sz = st0.sz

theorem Came.refl (st : St) : Came st st := ⟨⟨[],rfl⟩,⟨[],rfl⟩,Nat.le_refl _,rfl⟩
theorem Came.trans {a b c : St} (h : Came a b) (h' : Came b c) : Came a c := by
 obtain ⟨⟨e,he⟩,⟨u,hu⟩,hn,hs⟩ := h
 obtain ⟨⟨e',he'⟩,⟨u',hu'⟩,hn',hs'⟩ := h'
 exact ⟨⟨e' ++ e,by rw [he',he,List.append_assoc]⟩,⟨u' ++ u,by rw [hu',hu,List.append_assoc]⟩,Nat.le_trans hn hn',hs'.trans hs⟩

section
variable {w : World} {S : Upd} {C C1 : Col} {R Al Al1 : Nat → Prop} {H H1 : Nat → Value}

theorem valOf_ok {k : Kd} {v : AVal} {c : Value} {cs' : List AVal} (hv : AV w R Al H v c) (hH : ∀ i,Al i → (H i).oneCell' = true) (hag : k.agg = aggV v) (hso : solid v = true) (hcs : AVs w R Al1 H1 cs' c.cells.toList) (hl : cs'.length = k.size) : AV w R Al1 H1 (valOf k cs') c := by
 unfold valOf
 cases hk : k.agg
 ·simp only
  have h1 : k.size = 1 := by cases k <;> simp [Kd.agg] at hk <;> rfl
  rw [h1] at hl
  have hone : one1 v = true := by
   rw [hk] at hag
   cases v <;> first | rfl | (simp [solid] at hso; done) | (simp [aggV] at hag; done)
  have hc := (one1_ok hv hone hH).2
  rw [hc] at hcs
  match cs',hl with
  | [u],_ =>
   simp only [AVs] at hcs
   obtain ⟨v',r,e1,e2,_⟩ := hcs
   simp only [List.cons.injEq] at e1
   simp only
   rw [e1.1]
   exact e2
 ·simp only
  rw [hk] at hag
  cases v <;> simp [aggV] at hag
  simp only [AV] at hv
  obtain ⟨vs,rfl,_⟩ := hv
  simp only [AV]
  exact ⟨vs,rfl,hcs⟩

structure Good (w : World) (C1 : Col) (R Al1 : Nat → Prop) (H1 : Nat → Value) (a : Act) (cur : St) : Prop where
 env : ∀ t,AV w R Al1 H1 (getE cur.env t) (a.tmps.getD t undef)
 ent : ∀ i,EntOK w C1 R Al1 H1 i (getS cur.sto i)
 al : ∀ i,getS cur.sto i ≠ .dead → Al1 i

theorem getE_cons (e : Slots) (t d : Nat) (v : AVal) : getE ((d,v) :: e) t = if t = d then v else getE e t := by
 show cond (Nat.beq t d) v (getE e t) = _
 by_cases h : t = d
 ·rw [if_pos h,show Nat.beq t d = true from by rw [h]; exact Nat.beq_refl d]; rfl
 ·rw [if_neg h]
  cases hb : Nat.beq t d
  ·rfl
  ·exact absurd (Nat.eq_of_beq_eq_true hb) h

theorem inV_ok {st : St} {a : Act} (hx : Ctx w C R Al H st.sto) (he : ∀ t,AV w R Al H (getE st.env t) (a.tmps.getD t undef)) {l : LV} {x : l.kd.ty} {ids : List (Option Nat)} (h : outV st l = some (x,ids)) {cur : St} (hm : Moves C C1 H H1 ids cur.nxt)
  (hal : ∀ q,q < ids.length → Al1 (cur.nxt + q)) (hbx : ∀ i k,l = .box i k → Al1 i ∧ H1 i = H i ∧ i < cur.nxt ∧ ∀ b p,C b = some (i,p) → C1 b = some (i,p)) (hrw : ∀ i,l.ri = some i → Al1 i ∧ H1 i = H i ∧ ∀ b p,C b = some (i,p) → C1 b = some (i,p)) (hit : ∀ i m,l = .iter i m → Al m → Al1 m ∧ H1 m = H m) (hg : Good w C1 R Al1 H1 a cur) :
  Good w C1 R Al1 H1 a (inV cur l x) ∧ (inV cur l x).nxt = cur.nxt + ids.length ∧ (inV cur l x).sz = cur.sz ∧ Came cur (inV cur l x) := by
 have rows : ∀ (u : Upd),(∀ p ∈ u,cur.nxt ≤ p.1 ∧ p.1 < cur.nxt + ids.length) → (∀ q,q < ids.length → (∃ p ∈ u,p.1 = cur.nxt + q) ∧ EntOK w C1 R Al1 H1 (cur.nxt + q) (getS u (cur.nxt + q))) →
   (∀ i,EntOK w C1 R Al1 H1 i (getS (u ++ cur.sto) i)) ∧ (∀ i,getS (u ++ cur.sto) i ≠ .dead → Al1 i) := by
  intro u hu hq
  constructor
  ·intro i
   by_cases hi : ∃ p ∈ u,p.1 = i
   ·rw [getS_append_left hi]
    obtain ⟨p,hp,rfl⟩ := hi
    have := hu p hp
    have := (hq (p.1 - cur.nxt) (by omega)).2
    rw [show cur.nxt + (p.1 - cur.nxt) = p.1 from by omega] at this
    exact this
   ·rw [getS_append_right (fun p hp he => hi ⟨p,hp,he⟩)]
    exact hg.ent i
  ·intro i hd
   by_cases hi : ∃ p ∈ u,p.1 = i
   ·obtain ⟨p,hp,rfl⟩ := hi
    have := hu p hp
    have := hal (p.1 - cur.nxt) (by omega)
    rw [show cur.nxt + (p.1 - cur.nxt) = p.1 from by omega] at this
    exact this
   ·rw [getS_append_right (fun p hp he => hi ⟨p,hp,he⟩)] at hd
    exact hg.al i hd
 cases l with
 | slot t k =>
  simp only [outV] at h
  obtain ⟨h1,h2,h3⟩ := takeV_some h
  have hsc := solid_cells (he t) h3 (fun i hi => one_cells (hx.one i hi))
  obtain ⟨c,r,cs',u,e1,e2,e3,e4,e5,e6,e7⟩ := takeCells_res (C' := C1) (Al' := Al1) (H' := H1) hx k _ _ _ _ h1 _ hsc cur.nxt hm hal
  simp only [AVs] at e4
  subst e4
  rw [List.append_nil] at e2
  have hv := valOf_ok (k := k) (he t) hx.one h2 h3 (by rw [e2]; exact e3) e5
  obtain ⟨r1,r2⟩ := rows u e6 e7
  have hin : inV cur (.slot t k) x = ⟨(t,valOf k cs') :: cur.env,u ++ cur.sto,cur.nxt + ids.length,cur.sz⟩ := by
   simp only [inV,e1]
  rw [hin]
  refine ⟨⟨fun t' => ?_,r1,r2⟩,rfl,rfl,⟨⟨[_],rfl⟩,⟨u,rfl⟩,by simp,rfl⟩⟩
  rw [getE_cons]
  by_cases ht : t' = t
  ·rw [if_pos ht,ht]; exact hv
  ·rw [if_neg ht]; exact hg.env t'
 | box i k =>
  simp only [outV] at h
  split at h
  ·rename_i cs hcs
   split at h
   ·rename_i x' is htk
    simp only [Option.some.injEq] at h
    obtain ⟨rfl,rfl⟩ := h
    obtain ⟨hal0,b,cells,T,q1,q2,q3,q4⟩ := box_ok hx hcs
    obtain ⟨c,r,cs',u,e1,e2,e3,e4,e5,e6,e7⟩ := takeCells_res (C' := C1) (Al' := Al1) (H' := H1) hx k _ _ _ _ htk _ q4 cur.nxt hm hal
    simp only [AVs] at e4
    subst e4
    rw [List.append_nil] at e2
    obtain ⟨b1,b2,b3,b4⟩ := hbx i k rfl
    obtain ⟨r1,r2⟩ := rows u e6 e7
    have hin : inV cur (.box i k) x = ⟨cur.env,(i,.box cs') :: (u ++ cur.sto),cur.nxt + ids.length,cur.sz⟩ := by
     simp only [inV,e1]
    rw [hin]
    refine ⟨⟨hg.env,fun j => ?_,fun j hj => ?_⟩,rfl,rfl,⟨⟨[],rfl⟩,⟨(i,.box cs') :: u,rfl⟩,by simp,rfl⟩⟩
    ·by_cases hji : j = i
     ·subst hji
      rw [getS_cons_self]
      exact ⟨b,cells,T,by rw [b2]; exact q1,b4 _ _ q2,q3,by rw [e2]; exact e3⟩
     ·rw [getS_cons_ne _ _ hji]; exact r1 j
    ·by_cases hji : j = i
     ·rw [hji]; exact b1
     ·rw [getS_cons_ne _ _ hji] at hj; exact r2 j hj
   ·cases h
  ·cases h
 | row i t e =>
  simp only [outV] at h
  split at h
  ·rename_i t' e' xs' hr
   cases hb : (Nat.beq t' t && e.ro)
   ·rw [hb] at h; cases h
   ·rw [hb] at h
    simp only [cond_true] at h
    simp only [Bool.and_eq_true] at hb
    split at h
    ·rename_i ys hy
     obtain ⟨rfl,rfl⟩ := Prod.mk.inj (Option.some.inj h)
     obtain ⟨he',hys⟩ := castL_some hy
     subst he'
     simp only at hys
     subst hys
     have ht := Nat.eq_of_beq_eq_true hb.1
     subst ht
     obtain ⟨b1,b2,b3⟩ := hrw i rfl
     have hent := hx.ent i
     rw [hr] at hent
     have hin : inV cur (.row i t' e') xs' = ⟨cur.env,(i,Ent.row t' e' xs') :: cur.sto,cur.nxt,cur.sz⟩ := by simp only [inV,hb.2]
     rw [hin]
     refine ⟨⟨hg.env,fun j => ?_,fun j hj => ?_⟩,rfl,rfl,⟨⟨[],rfl⟩,⟨[_],rfl⟩,Nat.le_refl _,rfl⟩⟩
     ·show EntOK w C1 R Al1 H1 j (getS ((i,Ent.row t' e' xs') :: cur.sto) j)
      by_cases hji : j = i
      ·subst hji
       rw [getS_cons_self]
       simp only [EntOK] at hent ⊢
       rw [b2]
       exact Rp.mono [] (fun b hb => ⟨hb,rfl⟩) (fun b p hb => ⟨by simpa using b3 b p hb,rfl⟩) _ _ [] _ hent
      ·rw [getS_cons_ne _ _ hji]; exact hg.ent j
     ·have hj' : getS ((i,Ent.row t' e' xs') :: cur.sto) j ≠ .dead := hj
      by_cases hji : j = i
      ·rw [hji]; exact b1
      ·rw [getS_cons_ne _ _ hji] at hj'; exact hg.al j hj'
    ·cases h
  ·rename_i t' e' ver xs' hr
   cases hb : (Nat.beq t' t && !e.ro)
   ·rw [hb] at h; cases h
   ·rw [hb] at h
    simp only [cond_true] at h
    simp only [Bool.and_eq_true,Bool.not_eq_true'] at hb
    split at h
    ·rename_i ys hy
     obtain ⟨rfl,rfl⟩ := Prod.mk.inj (Option.some.inj h)
     obtain ⟨he',hys⟩ := castL_some hy
     subst he'
     simp only at hys
     subst hys
     have ht := Nat.eq_of_beq_eq_true hb.1
     subst ht
     obtain ⟨b1,b2,b3⟩ := hrw i rfl
     obtain ⟨_,hrp,hver,hhd⟩ := nrow_ok hx hr
     have hm1 := (hm 0 (some ver) rfl).2
     rw [Nat.add_zero] at hm1
     have hal0 := hal 0 (by simp)
     rw [Nat.add_zero] at hal0
     have hin : inV cur (.row i t' e') xs' = ⟨cur.env,(i,Ent.nrow t' e' cur.nxt xs') :: (cur.nxt,.ver) :: cur.sto,cur.nxt + 1,cur.sz⟩ := by simp only [inV,hb.2]
     rw [hin]
     refine ⟨⟨hg.env,fun j => ?_,fun j hj => ?_⟩,rfl,rfl,⟨⟨[],rfl⟩,⟨[_,_],rfl⟩,Nat.le_succ _,rfl⟩⟩
     ·show EntOK w C1 R Al1 H1 j (getS ((i,Ent.nrow t' e' cur.nxt xs') :: (cur.nxt,.ver) :: cur.sto) j)
      by_cases hji : j = i
      ·subst hji
       rw [getS_cons_self]
       simp only [EntOK]
       rw [b2,hm1]
       exact ⟨Rp.mono [] (fun b hb => ⟨hb,rfl⟩) (fun b p hb => ⟨by simpa using b3 b p hb,rfl⟩) _ _ [] _ hrp,hal0,hhd⟩
      ·rw [getS_cons_ne _ _ hji]
       by_cases hjn : j = cur.nxt
       ·rw [hjn,getS_cons_self]; trivial
       ·rw [getS_cons_ne _ _ hjn]; exact hg.ent j
     ·have hj' : getS ((i,Ent.nrow t' e' cur.nxt xs') :: (cur.nxt,.ver) :: cur.sto) j ≠ .dead := hj
      by_cases hji : j = i
      ·rw [hji]; exact b1
      ·rw [getS_cons_ne _ _ hji] at hj'
       by_cases hjn : j = cur.nxt
       ·rw [hjn]; exact hal0
       ·rw [getS_cons_ne _ _ hjn] at hj'; exact hg.al j hj'
    ·cases h
  ·cases h
 | map i k v =>
  simp only [outV] at h
  split at h
  ·rename_i k' v' kvs hr
   split at h
   ·rename_i hk
    obtain ⟨rfl,rfl⟩ := hk
    obtain ⟨rfl,rfl⟩ := Prod.mk.inj (Option.some.inj h)
    obtain ⟨b1,b2,b3⟩ := hrw i rfl
    have hent := hx.ent i
    rw [hr] at hent
    refine ⟨⟨hg.env,fun j => ?_,fun j hj => ?_⟩,rfl,rfl,⟨⟨[],rfl⟩,⟨[_],rfl⟩,Nat.le_refl _,rfl⟩⟩
    ·show EntOK w C1 R Al1 H1 j (getS ((i,Ent.mp k' v' kvs) :: cur.sto) j)
     by_cases hji : j = i
     ·subst hji
      rw [getS_cons_self]
      obtain ⟨g,es,h1,h2,h3⟩ := hent
      exact ⟨g,es,by rw [b2]; exact h1,b3 _ _ h2,h3⟩
     ·rw [getS_cons_ne _ _ hji]; exact hg.ent j
    ·have hj' : getS ((i,Ent.mp k' v' kvs) :: cur.sto) j ≠ .dead := hj
     by_cases hji : j = i
     ·rw [hji]; exact b1
     ·rw [getS_cons_ne _ _ hji] at hj'; exact hg.al j hj'
   ·cases h
  ·cases h
 | iter i m =>
  simp only [outV] at h
  split at h
  ·rename_i m' n seen hr
   split at h
   ·rename_i hk
    subst hk
    obtain ⟨rfl,rfl⟩ := Prod.mk.inj (Option.some.inj h)
    obtain ⟨b1,b2,b3⟩ := hrw i rfl
    have hent := hx.ent i
    rw [hr] at hent
    refine ⟨⟨hg.env,fun j => ?_,fun j hj => ?_⟩,rfl,rfl,⟨⟨[],rfl⟩,⟨[_],rfl⟩,Nat.le_refl _,rfl⟩⟩
    ·show EntOK w C1 R Al1 H1 j (getS ((i,Ent.it m' n seen) :: cur.sto) j)
     by_cases hji : j = i
     ·subst hji
      rw [getS_cons_self]
      obtain ⟨b,g,h1,h2,h3,h4,h5⟩ := hent
      obtain ⟨m1,m2⟩ := hit j m' rfl h3
      exact ⟨b,g,by rw [b2]; exact h1,b3 _ _ h2,m1,by rw [m2]; exact h4,h5⟩
     ·rw [getS_cons_ne _ _ hji]; exact hg.ent j
    ·have hj' : getS ((i,Ent.it m' n seen) :: cur.sto) j ≠ .dead := hj
     by_cases hji : j = i
     ·rw [hji]; exact b1
     ·rw [getS_cons_ne _ _ hji] at hj'; exact hg.al j hj'
   ·cases h
  ·cases h
 | bld i t e =>
  simp only [outV] at h
  split at h
  ·rename_i t' e' s hr
   split at h
   ·rename_i hk
    obtain ⟨rfl,rfl⟩ := hk
    obtain ⟨rfl,rfl⟩ := Prod.mk.inj (Option.some.inj h)
    obtain ⟨b1,b2,b3⟩ := hrw i rfl
    have hent := hx.ent i
    rw [hr] at hent
    refine ⟨⟨hg.env,fun j => ?_,fun j hj => ?_⟩,rfl,rfl,⟨⟨[],rfl⟩,⟨[_],rfl⟩,Nat.le_refl _,rfl⟩⟩
    ·show EntOK w C1 R Al1 H1 j (getS ((i,Ent.bld t' e' s) :: cur.sto) j)
     by_cases hji : j = i
     ·subst hji
      rw [getS_cons_self]
      obtain ⟨b,p,v,h1,h2,h3,h4,h5,h6⟩ := hent
      exact ⟨b,p,v,by rw [b2]; exact h1,b3 _ _ h2,h3,h4,h5,fun g hg => b3 _ _ (h6 g hg)⟩
     ·rw [getS_cons_ne _ _ hji]; exact hg.ent j
    ·have hj' : getS ((i,Ent.bld t' e' s) :: cur.sto) j ≠ .dead := hj
     by_cases hji : j = i
     ·rw [hji]; exact b1
     ·rw [getS_cons_ne _ _ hji] at hj'; exact hg.al j hj'
   ·cases h
  ·cases h

theorem ins_ok {st : St} {a : Act} (hx : Ctx w C R Al H st.sto) (he : ∀ t,AV w R Al H (getE st.env t) (a.tmps.getD t undef)) : ∀ (vs : List LV) (x : Tup (vs.map LV.kd)) (ids : List (Option Nat)),outs st vs = some (x,ids) →
  ∀ (cur : St),Moves C C1 H H1 ids cur.nxt → (∀ q,q < ids.length → Al1 (cur.nxt + q)) → (∀ i k,.box i k ∈ vs → Al1 i ∧ H1 i = H i ∧ i < cur.nxt ∧ ∀ b p,C b = some (i,p) → C1 b = some (i,p)) → (∀ l ∈ vs,∀ i,l.ri = some i → Al1 i ∧ H1 i = H i ∧ ∀ b p,C b = some (i,p) → C1 b = some (i,p)) → (∀ i m,.iter i m ∈ vs → Al m → Al1 m ∧ H1 m = H m) → Good w C1 R Al1 H1 a cur →
  Good w C1 R Al1 H1 a (ins cur vs x) ∧ (ins cur vs x).nxt = cur.nxt + ids.length ∧ (ins cur vs x).sz = cur.sz ∧ Came cur (ins cur vs x)
 | [],x,ids,h,cur,_,_,_,_,_,hg => by
  simp only [outs,Option.some.injEq,Prod.mk.injEq] at h
  obtain ⟨rfl,rfl⟩ := h
  exact ⟨hg,rfl,rfl,Came.refl _⟩
 | [l],x,ids,h,cur,hm,hal,hbx,hrw,hit,hg => inV_ok (l := l) hx he h hm hal (fun i k hl => hbx i k (by simp [hl])) (fun i hl => hrw l (by simp) i hl) (fun i m hl => hit i m (by simp [hl])) hg
 | l :: l' :: r,x,ids,h,cur,hm,hal,hbx,hrw,hit,hg => by
  simp only [outs] at h
  split at h
  ·rename_i y is h1
   split at h
   ·rename_i z js h2
    simp only [Option.some.injEq,Prod.mk.injEq] at h
    obtain ⟨rfl,rfl⟩ := h
    simp only [List.length_append] at hal
    obtain ⟨g1,g2,g3,g4⟩ := inV_ok (l := l) hx he h1 hm.left (fun q hq => hal q (by omega)) (fun i k hl => hbx i k (by simp [hl])) (fun i hl => hrw l (by simp) i hl) (fun i m hl => hit i m (by simp [hl])) hg
    obtain ⟨k1,k2,k3,k4⟩ := ins_ok hx he (l' :: r) z js h2 (inV cur l y) (by rw [g2]; exact hm.right) (fun q hq => by rw [g2,Nat.add_assoc]; exact hal _ (by omega))
     (fun i k hi => by
      obtain ⟨b1,b2,b3,b4⟩ := hbx i k (by simp only [List.mem_cons] at hi ⊢; exact .inr hi)
      exact ⟨b1,b2,by rw [g2]; omega,b4⟩) (fun l2 hl2 i hi => hrw l2 (List.mem_cons_of_mem _ hl2) i hi) (fun i m hi => hit i m (by simp only [List.mem_cons] at hi ⊢; exact .inr hi)) g1
    refine ⟨k1,?_,k3.trans g3,g4.trans k4⟩
    show (ins (inV cur l y) (l' :: r) z).nxt = _
    rw [k2,g2,List.length_append,Nat.add_assoc]
   ·cases h
  ·cases h
end
end Go.Rv
namespace Go.Rv

theorem getE_append_right {e S : Slots} {t : Nat} (h : ∀ p ∈ e,p.1 ≠ t) : getE (e ++ S) t = getE S t := by
 induction e with
 | nil => rfl
 | cons p e ih =>
  obtain ⟨d,v⟩ := p
  rw [List.cons_append,getE_cons,if_neg (fun he => h (d,v) (by simp) he.symm)]
  exact ih (fun p hp => h p (by simp [hp]))

theorem getE_forget (l : List Nat) (e : Slots) (t : Nat) : getE (forget l e) t = if t ∈ l then .undef else getE e t := by
 induction l with
 | nil => simp [forget]
 | cons d l ih =>
  simp only [forget,List.foldr_cons] at ih ⊢
  rw [getE_cons,ih]
  by_cases h : t = d
  ·simp [h]
  ·simp [h]

theorem getS_deads (l : List Nat) (S : Upd) (i : Nat) : getS (deads l S) i = if i ∈ l then .dead else getS S i := by
 induction l with
 | nil => simp [deads]
 | cons d l ih =>
  simp only [deads,List.foldr_cons] at ih ⊢
  by_cases h : i = d
  ·rw [h,getS_cons_self]; simp
  ·rw [getS_cons_ne _ _ h,ih]; simp [h]

theorem forget_append (l : List Nat) (e : Slots) : ∃ f,forget l e = f ++ e := by
 induction l with
 | nil => exact ⟨[],rfl⟩
 | cons d l ih => obtain ⟨f,hf⟩ := ih; exact ⟨(d,.undef) :: f,by simp only [forget,List.foldr_cons] at hf ⊢; rw [hf]; rfl⟩

theorem deads_append (l : List Nat) (S : Upd) : ∃ f,deads l S = f ++ S := by
 induction l with
 | nil => exact ⟨[],rfl⟩
 | cons d l ih => obtain ⟨f,hf⟩ := ih; exact ⟨(d,.dead) :: f,by simp only [deads,List.foldr_cons] at hf ⊢; rw [hf]; rfl⟩

theorem came_back (fg : List Nat) (vs : List LV) (st0 : St) (x : Tup (vs.map LV.kd)) : Came st0 (back fg vs st0 x) := by
 have hins : ∀ (vs : List LV) (x : Tup (vs.map LV.kd)) (cur : St),Came cur (ins cur vs x) := by
  have hin : ∀ (l : LV) (x : l.kd.ty) (cur : St),Came cur (inV cur l x) := by
   have hres : ∀ (k : Kd) (x : k.ty) (n : Nat),n ≤ (resCells k x n).2.2 := by
    intro k
    induction k with
    | int k => intro x n; exact Nat.le_refl _
    | bool => intro x n; exact Nat.le_refl _
    | str => intro x n; exact Nat.le_refl _
    | one a ih => intro x n; exact ih x n
    | pair a b iha ihb =>
     intro x n
     simp only [resCells]
     exact Nat.le_trans (iha x.1 n) (ihb x.2 _)
    | sl o e ih => intro x n; cases o <;> simp only [resCells,rowU] <;> first | exact Nat.le_refl _ | (split <;> simp only <;> omega)
   intro l x cur
   cases l with
   | slot t k => exact ⟨⟨[_],rfl⟩,⟨(resCells k x cur.nxt).2.1,rfl⟩,hres k x cur.nxt,rfl⟩
   | box i k => exact ⟨⟨[],rfl⟩,⟨_ :: (resCells k x cur.nxt).2.1,rfl⟩,hres k x cur.nxt,rfl⟩
   | row i t e =>
    simp only [inV]
    split
    ·exact ⟨⟨[],rfl⟩,⟨[_],rfl⟩,Nat.le_refl _,rfl⟩
    ·exact ⟨⟨[],rfl⟩,⟨[_,_],rfl⟩,Nat.le_succ _,rfl⟩
   | map i k v => exact ⟨⟨[],rfl⟩,⟨[_],rfl⟩,Nat.le_refl _,rfl⟩
   | iter i m => exact ⟨⟨[],rfl⟩,⟨[_],rfl⟩,Nat.le_refl _,rfl⟩
   | bld i t e => exact ⟨⟨[],rfl⟩,⟨[_],rfl⟩,Nat.le_refl _,rfl⟩
  intro vs
  induction vs with
  | nil => intro x cur; exact Came.refl _
  | cons l r ih =>
   intro x cur
   cases r with
   | nil => exact hin l x cur
   | cons l' r => exact (hin l x.1 cur).trans (ih x.2 _)
 refine Came.trans ?_ (hins vs x _)
 obtain ⟨f1,h1⟩ := forget_append (slotsV vs) st0.env
 obtain ⟨f2,h2⟩ := forget_append fg (forget (slotsV vs) st0.env)
 obtain ⟨g1,k1⟩ := deads_append (boxesV vs) st0.sto
 obtain ⟨g2,k2⟩ := deads_append (gone st0 vs) (deads (boxesV vs) st0.sto)
 exact ⟨⟨f2 ++ f1,by rw [List.append_assoc,← h1]; exact h2⟩,⟨g2 ++ g1,by rw [List.append_assoc,← k1]; exact k2⟩,Nat.le_refl _,rfl⟩

theorem mem_slotsV {vs : List LV} {t : Nat} (h : vs.any (LV.slotB t) = true) : t ∈ slotsV vs := by
 induction vs with
 | nil => simp at h
 | cons l r ih =>
  simp only [List.any_cons,Bool.or_eq_true] at h
  cases l with
  | slot t' k =>
   simp only [slotsV,List.mem_cons]
   rcases h with h | h
   ·exact .inl (Nat.eq_of_beq_eq_true h)
   ·exact .inr (ih h)
  | box i k =>
   simp only [slotsV]
   rcases h with h | h
   ·simp [LV.slotB] at h
   ·exact ih h
  | row i k e =>
   simp only [slotsV]
   rcases h with h | h
   ·simp [LV.slotB] at h
   ·exact ih h
  | map i k v =>
   simp only [slotsV]
   rcases h with h | h
   ·simp [LV.slotB] at h
   ·exact ih h
  | iter i m =>
   simp only [slotsV]
   rcases h with h | h
   ·simp [LV.slotB] at h
   ·exact ih h
  | bld i t e =>
   simp only [slotsV]
   rcases h with h | h
   ·simp [LV.slotB] at h
   ·exact ih h

theorem mem_boxesV {vs : List LV} {i : Nat} (h : vs.any (LV.boxB i) = true) : i ∈ boxesV vs := by
 induction vs with
 | nil => simp at h
 | cons l r ih =>
  simp only [List.any_cons,Bool.or_eq_true] at h
  cases l with
  | box i' k =>
   simp only [boxesV,List.mem_cons]
   rcases h with h | h
   ·exact .inl (Nat.eq_of_beq_eq_true h)
   ·exact .inr (ih h)
  | row i' k e =>
   simp only [boxesV,List.mem_cons]
   rcases h with h | h
   ·exact .inl (Nat.eq_of_beq_eq_true h)
   ·exact .inr (ih h)
  | slot t k =>
   simp only [boxesV]
   rcases h with h | h
   ·simp [LV.boxB] at h
   ·exact ih h
  | map i' k v =>
   simp only [boxesV,List.mem_cons]
   rcases h with h | h
   ·exact .inl (Nat.eq_of_beq_eq_true h)
   ·exact .inr (ih h)
  | iter i' m =>
   simp only [boxesV,List.mem_cons]
   rcases h with h | h
   ·exact .inl (Nat.eq_of_beq_eq_true h)
   ·exact .inr (ih h)
  | bld i' t e =>
   simp only [boxesV,List.mem_cons]
   rcases h with h | h
   ·exact .inl (Nat.eq_of_beq_eq_true h)
   ·exact .inr (ih h)

def WF (n : Nat) (gs : List (AVal × Value)) (st : St) : Prop := (∀ t,wfA (· < st.nxt) (getE st.env t)) ∧ (∀ i cs,getS st.sto i = .box cs → wfAs (· < st.nxt) cs) ∧ (∀ i,getS st.sto i ≠ .dead → i < st.nxt) ∧ n ≤ st.nxt ∧ (∀ p ∈ gs,wfA (· < st.nxt) p.1) ∧ (∀ i t,∀ (e : Kd) (v : Nat) (ys : List e.ty),getS st.sto i = .nrow t e v ys → v < st.nxt) ∧ ∀ i m n seen,getS st.sto i = .it m n seen → m < st.nxt

theorem Inv.pins {w0 w : World} {L : Hnd} {R0 : Nat → Prop} {S : Upd} {C : Col} {R Al : Nat → Prop} {H : Nat → Value} (h : Inv w0 L R0 S w C R Al H) {n : Nat} (hn : ∀ i,Al i → i < n) : L.vals.length ≤ n := by
 cases hl : L.vals.length with
 | zero => omega
 | succ m =>
  have := hn m (h.pin m L.vals[m] (List.getElem?_eq_getElem (by omega))).1
  omega

theorem SOK.wf {w0 w : World} {L : Hnd} {R0 : Nat → Prop} {gs : List (AVal × Value)} {st : St} {a : Act} (h : SOK w0 L R0 gs st a w) : WF L.vals.length gs st := by
 obtain ⟨C,R,Al,H,hi,he,hn,_,_,hgs⟩ := h
 refine ⟨fun t => AV.wf hn _ _ (he t),fun i cs hb => ?_,fun i hd => hn i (hi.al i hd),hi.pins hn,fun p hp => AV.wf hn _ _ (hgs p hp),fun i t e v ys hr => hn v (nrow_ok hi.ctx hr).2.2.1,fun i m n seen hr => by
  have := hi.ent i
  rw [hr] at this
  obtain ⟨_,_,_,_,h3,_⟩ := this
  exact hn m h3⟩
 obtain ⟨_,b,cells,T,_,_,_,q4⟩ := box_ok hi.ctx hb
 exact AVs.wf hn _ _ q4

theorem outV_row {st : St} {l : LV} {x : l.kd.ty} {ids : List (Option Nat)} (h : outV st l = some (x,ids)) : (∀ j,some j ∈ ids → IsRow st.sto j) ∧ (∀ i k,l = .box i k → ∃ cs,getS st.sto i = .box cs) ∧ ∀ i,l.ri = some i → getS st.sto i ≠ .dead := by
 cases l with
 | slot t k => exact ⟨takeCells_row' _ _ _ _ _ (takeV_some h).1,fun i k hl => (by cases hl),fun i hl => (by cases hl)⟩
 | box i k =>
  simp only [outV] at h
  split at h
  ·rename_i cs hcs
   split at h
   ·rename_i y is htk
    have h := Option.some.inj h
    have h2 := congrArg Prod.snd h
    simp only at h2
    rw [← h2]
    exact ⟨takeCells_row' _ _ _ _ _ htk,fun i' k' hl => (by cases hl; exact ⟨cs,hcs⟩),fun i hl => (by cases hl)⟩
   ·cases h
  ·cases h
 | row i t e =>
  simp only [outV] at h
  split at h
  ·rename_i t' e' xs' hr
   cases hb : (Nat.beq t' t && e.ro)
   ·rw [hb] at h; cases h
   ·rw [hb] at h
    simp only [cond_true] at h
    split at h
    ·obtain ⟨_,rfl⟩ := Prod.mk.inj (Option.some.inj h)
     exact ⟨fun j hj => (by cases hj),fun i k hl => (by cases hl),fun i' hl => (by cases hl; rw [hr]; simp)⟩
    ·cases h
  ·rename_i t' e' ver xs' hr
   cases hb : (Nat.beq t' t && !e.ro)
   ·rw [hb] at h; cases h
   ·rw [hb] at h
    simp only [cond_true] at h
    split at h
    ·obtain ⟨_,rfl⟩ := Prod.mk.inj (Option.some.inj h)
     exact ⟨fun j hj => (by
      simp only [List.mem_singleton,Option.some.injEq] at hj
      rw [hj]; exact .inr (.inr ⟨_,_,_,_,hr⟩)),fun i k hl => (by cases hl),fun i' hl => (by cases hl; rw [hr]; simp)⟩
    ·cases h
  ·cases h
 | map i k v =>
  simp only [outV] at h
  split at h
  ·rename_i k' v' kvs hr
   split at h
   ·obtain ⟨_,rfl⟩ := Prod.mk.inj (Option.some.inj h)
    exact ⟨fun j hj => (by cases hj),fun i k hl => (by cases hl),fun i' hl => (by cases hl; rw [hr]; simp)⟩
   ·cases h
  ·cases h
 | iter i m =>
  simp only [outV] at h
  split at h
  ·rename_i m' n seen hr
   split at h
   ·obtain ⟨_,rfl⟩ := Prod.mk.inj (Option.some.inj h)
    exact ⟨fun j hj => (by cases hj),fun i k hl => (by cases hl),fun i' hl => (by cases hl; rw [hr]; simp)⟩
   ·cases h
  ·cases h
 | bld i t e =>
  simp only [outV] at h
  split at h
  ·rename_i t' e' s hr
   split at h
   ·obtain ⟨_,rfl⟩ := Prod.mk.inj (Option.some.inj h)
    exact ⟨fun j hj => (by cases hj),fun i k hl => (by cases hl),fun i' hl => (by cases hl; rw [hr]; simp)⟩
   ·cases h
  ·cases h

theorem outs_row {st : St} : ∀ (vs : List LV) (x : Tup (vs.map LV.kd)) (ids : List (Option Nat)),outs st vs = some (x,ids) → (∀ j,some j ∈ ids → IsRow st.sto j) ∧ (∀ i k,.box i k ∈ vs → ∃ cs,getS st.sto i = .box cs) ∧ ∀ l ∈ vs,∀ i,l.ri = some i → getS st.sto i ≠ .dead
 | [],x,ids,h => by
  simp only [outs,Option.some.injEq,Prod.mk.injEq] at h
  rw [← h.2]
  exact ⟨fun j hj => by (cases hj),fun i k hl => by (cases hl),fun l hl => by (cases hl)⟩
 | [l],x,ids,h => by
  obtain ⟨h1,h2,h3⟩ := outV_row (l := l) h
  exact ⟨h1,fun i k hl => h2 i k (List.mem_singleton.1 hl).symm,fun l2 hl i hi => h3 i (by rw [← List.mem_singleton.1 hl]; exact hi)⟩
 | l :: l' :: r,x,ids,h => by
  simp only [outs] at h
  split at h
  ·rename_i y is h1
   split at h
   ·rename_i z js h2
    simp only [Option.some.injEq,Prod.mk.injEq] at h
    rw [← h.2]
    obtain ⟨a1,a2,a3⟩ := outV_row (l := l) h1
    obtain ⟨b1,b2,b3⟩ := outs_row (l' :: r) z js h2
    refine ⟨fun j hj => ?_,fun i k hl => ?_,fun l2 hl i hi => ?_⟩
    ·rcases List.mem_append.1 hj with hj | hj
     ·exact a1 j hj
     ·exact b1 j hj
    ·rcases List.mem_cons.1 hl with hl | hl
     ·exact a2 i k hl.symm
     ·exact b2 i k hl
    ·rcases List.mem_cons.1 hl with hl | hl
     ·exact a3 i (by rw [← hl]; exact hi)
     ·exact b3 l2 hl i hi
   ·cases h
  ·cases h

theorem take_sub {α : Type} {e r : List α} : (e ++ r).take ((e ++ r).length - r.length) = e := by
 rw [List.length_append,Nat.add_sub_cancel,List.take_left]

theorem back_ok {w0 w : World} {L : Hnd} {R0 : Nat → Prop} {gs : List (AVal × Value)} {st0 st : St} {a : Act} (hwf : WF L.vals.length gs st0) (h : SOK w0 L R0 gs st a w) (hcame : Came st0 st) {fg : List Nat} {vs : List LV} {x : Tup (vs.map LV.kd)} {ids : List (Option Nat)}
  (ho : outs st vs = some (x,ids)) (hb : okBack fg vs st0 st ids = true) : SOK w0 L R0 gs (back fg vs st0 x) a w := by
 obtain ⟨C,R,Al,H,hi,he,hn,hsz,hdf,hgs⟩ := h
 obtain ⟨⟨e,hee⟩,⟨u,huu⟩,hnx,hss⟩ := hcame
 unfold okBack at hb
 simp only [Bool.and_eq_true] at hb
 obtain ⟨⟨⟨⟨b1,b2⟩,b3⟩,b4⟩,b5⟩ := hb
 rw [hee,take_sub] at b1
 rw [huu,take_sub] at b2
 simp only [List.all_eq_true,Bool.or_eq_true] at b1 b2 b3 b4
 have honce : (ids.filterMap id).Nodup := of_decide_eq_true b5
 -- the new owners,paths and heads
 let N := st0.nxt
 let C1 : Col := fun b => match C b with
  | some (j,p) => match ids.idxOf? (some j) with
   | some q => some (N + q,p)
   | none => if j < N then some (j,p) else none
  | none => none
 let Al1 : Nat → Prop := fun i => (i < N ∧ Al i) ∨ (N ≤ i ∧ i < N + ids.length)
 let H1 : Nat → Value := fun i => if i < N then H i else match ids[i - N]? with
  | some (some j) => H j
  | _ => .slice none 0 0
 have idx : ∀ q j,ids[q]? = some (some j) → ids.idxOf? (some j) = some q := by
  have gen : ∀ (l : List (Option Nat)),(l.filterMap id).Nodup → ∀ q j,l[q]? = some (some j) → l.idxOf? (some j) = some q := by
   intro l
   induction l with
   | nil => intro _ q j h; simp at h
   | cons o r ih =>
    intro hnd q j h
    cases q with
    | zero =>
     simp only [List.getElem?_cons_zero,Option.some.injEq] at h
     subst h
     simp [List.idxOf?_cons]
    | succ q =>
     simp only [List.getElem?_cons_succ] at h
     have hmem : j ∈ r.filterMap id := List.mem_filterMap.2 ⟨some j,List.mem_of_getElem? h,rfl⟩
     have hne : o ≠ some j := by
      intro ho
      subst ho
      simp only [List.filterMap_cons,id,List.nodup_cons] at hnd
      exact hnd.1 hmem
     have hnd' : (r.filterMap id).Nodup := by
      cases o with
      | none => simpa using hnd
      | some o => simp only [List.filterMap_cons,id,List.nodup_cons] at hnd; exact hnd.2
     rw [List.idxOf?_cons,if_neg (by simpa using hne),ih hnd' q j h]
     rfl
  exact gen ids honce
 have idx' : ∀ j q,ids.idxOf? (some j) = some q → ids[q]? = some (some j) := by
  have gen : ∀ (l : List (Option Nat)) j q,l.idxOf? (some j) = some q → l[q]? = some (some j) := by
   intro l
   induction l with
   | nil => intro j q h; simp at h
   | cons o r ih =>
    intro j q h
    rw [List.idxOf?_cons] at h
    by_cases ho : o = some j
    ·rw [if_pos (by simpa using ho)] at h
     simp only [Option.some.injEq] at h
     subst h ho
     rfl
    ·rw [if_neg (by simpa using ho)] at h
     cases hr : r.idxOf? (some j) with
     | none => rw [hr] at h; simp at h
     | some q' =>
      rw [hr] at h
      simp only [Option.map_some,Option.some.injEq] at h
      subst h
      simpa using ih j q' hr
  exact gen ids
 have hmv : Moves C C1 H H1 ids N := by
  intro q o hq
  have hlt := (List.getElem?_eq_some_iff.1 hq).1
  cases o with
  | none =>
   simp only [H1]
   rw [if_neg (by omega),show N + q - N = q from by omega,hq]
  | some j =>
   refine ⟨fun b p hb => ?_,?_⟩
   ·simp only [C1,hb,idx q j hq]
   ·simp only [H1]
    rw [if_neg (by omega),show N + q - N = q from by omega,hq]
 have hR : ∀ b,R b → R b ∧ w.heap[b]? = w.heap[b]? := fun b hb => ⟨hb,rfl⟩
 have hA : ∀ i,i < N → Al i → Al1 i ∧ H1 i = H i := fun i hi hal => ⟨.inl ⟨hi,hal⟩,by simp only [H1]; rw [if_pos hi]⟩
 have hgl : ∀ i,i < N → (∀ j,some j ∈ ids → j = i → i ∈ gone st0 vs) := by
  intro i hi j hj hji
  have := b4 _ hj
  simp only [Bool.or_eq_true] at this
  rcases this with h | h
  ·have := Nat.le_of_ble_eq_true h; omega
  ·rw [← hji]; simpa using h
 have hgood : Good w C1 R Al1 H1 a ⟨forget fg (forget (slotsV vs) st0.env),deads (gone st0 vs) (deads (boxesV vs) st0.sto),st0.nxt,st0.sz⟩ := by
  refine ⟨fun t => ?_,fun i => ?_,fun i hi' => ?_⟩
  ·simp only
   rw [getE_forget,getE_forget]
   by_cases h1 : t ∈ fg
   ·rw [if_pos h1]; simp [AV]
   ·rw [if_neg h1]
    by_cases h2 : t ∈ slotsV vs
    ·rw [if_pos h2]; simp [AV]
    ·rw [if_neg h2]
     have hsame : getE st.env t = getE st0.env t := by
      rw [hee]
      refine getE_append_right (fun p hp hpt => ?_)
      rcases b1 p hp with h | h
      ·exact h1 (by rw [← hpt]; simpa using h)
      ·exact h2 (by rw [← hpt]; exact mem_slotsV h)
     have := he t
     rw [hsame] at this
     exact AV.mono' hR hA _ _ (hwf.1 t) this
  ·simp only
   rw [getS_deads,getS_deads]
   by_cases h1 : i ∈ gone st0 vs
   ·rw [if_pos h1]; trivial
   ·rw [if_neg h1]
    by_cases h2 : i ∈ boxesV vs
    ·rw [if_pos h2]; trivial
    ·rw [if_neg h2]
     by_cases hdead : getS st0.sto i = .dead
     ·rw [hdead]; trivial
     ·by_cases hin : i < N
      ·have hsame : getS st.sto i = getS st0.sto i := by
        rw [huu]
        refine getS_append_right (fun p hp hpi => ?_)
        rcases b2 p hp with (h | h) | h
        ·have := Nat.le_of_ble_eq_true h; rw [hpi] at this; omega
        ·exact h2 (by rw [← hpi]; exact mem_boxesV h)
        ·exact h1 (by rw [← hpi]; simpa using h)
       have hent := hi.ent i
       rw [hsame] at hent
       have hali : Al i := hi.al i (by rw [hsame]; exact hdead)
       have hCi : ∀ b p,C b = some (i,p) → C1 b = some (i,p) := by
        intro b p hb
        simp only [C1,hb]
        cases hq : ids.idxOf? (some i) with
        | none => simp only; rw [if_pos hin]
        | some q => exact absurd (hgl i hin i (List.mem_of_getElem? (idx' i q hq)) rfl) h1
       have hHi : H1 i = H i := (hA i hin hali).2
       cases hent0 : getS st0.sto i with
       | dead => trivial
       | box cs =>
        rw [hent0] at hent
        obtain ⟨b,cells,T,q1,q2,q3,q4⟩ := hent
        exact ⟨b,cells,T,by rw [hHi]; exact q1,hCi _ _ q2,q3,AVs.mono' hR hA _ _ (hwf.2.1 i cs hent0) q4⟩
       | row t e xs =>
        rw [hent0] at hent
        simp only [EntOK] at hent ⊢
        rw [hHi]
        exact Rp.mono [] hR (fun b p hb => ⟨by simpa using hCi b p hb,rfl⟩) _ _ [] _ hent
       | fro e xs =>
        rw [hent0] at hent
        simp only [EntOK] at hent ⊢
        rw [hHi]
        exact hent
       | nrow t e ver xs =>
        rw [hent0] at hent
        simp only [EntOK] at hent ⊢
        have hvN : ver < N := hwf.2.2.2.2.2.1 i t e ver xs hent0
        rw [hHi,(hA ver hvN hent.2.1).2]
        exact ⟨Rp.mono [] hR (fun b p hb => ⟨by simpa using hCi b p hb,rfl⟩) _ _ [] _ hent.1,(hA ver hvN hent.2.1).1,hent.2.2⟩
       | ver => trivial
       | mp k v kvs =>
        rw [hent0] at hent
        obtain ⟨g,es,h1',h2',h3'⟩ := hent
        exact ⟨g,es,by rw [hHi]; exact h1',hCi _ _ h2',h3'⟩
       | it m n seen =>
        rw [hent0] at hent
        obtain ⟨b,g,h1',h2',h3',h4',h5'⟩ := hent
        have hmN : m < N := hwf.2.2.2.2.2.2 i m n seen hent0
        exact ⟨b,g,by rw [hHi]; exact h1',hCi _ _ h2',(hA m hmN h3').1,by rw [(hA m hmN h3').2]; exact h4',h5'⟩
       | bld t e s =>
        rw [hent0] at hent
        obtain ⟨b,p,v,h1',h2',h3',h4',h5',h6'⟩ := hent
        exact ⟨b,p,v,by rw [hHi]; exact h1',hCi _ _ h2',h3',h4',h5',fun g hg => hCi _ _ (h6' g hg)⟩
       | fbx k x =>
        rw [hent0] at hent
        obtain ⟨b,fl,h1',h2'⟩ := hent
        exact ⟨b,fl,by rw [hHi]; exact h1',h2'⟩
      ·exact absurd (hwf.2.2.1 i hdead) hin
  ·simp only at hi'
   rw [getS_deads,getS_deads] at hi'
   by_cases h1 : i ∈ gone st0 vs
   ·rw [if_pos h1] at hi'; exact absurd rfl hi'
   ·rw [if_neg h1] at hi'
    by_cases h2 : i ∈ boxesV vs
    ·rw [if_pos h2] at hi'; exact absurd rfl hi'
    ·rw [if_neg h2] at hi'
     have hin : i < N := hwf.2.2.1 i hi'
     have hsame : getS st.sto i = getS st0.sto i := by
      rw [huu]
      refine getS_append_right (fun p hp hpi => ?_)
      rcases b2 p hp with (h | h) | h
      ·have := Nat.le_of_ble_eq_true h; rw [hpi] at this; omega
      ·exact h2 (by rw [← hpi]; exact mem_boxesV h)
      ·exact h1 (by rw [← hpi]; simpa using h)
     exact .inl ⟨hin,hi.al i (by rw [hsame]; exact hi')⟩
 obtain ⟨g1,g2,g3,g4⟩ := ins_ok (Al1 := Al1) hi.ctx he vs x ids ho ⟨forget fg (forget (slotsV vs) st0.env),deads (gone st0 vs) (deads (boxesV vs) st0.sto),st0.nxt,st0.sz⟩ hmv (fun q hq => Or.inr ⟨by simp only [N]; omega,by simp only [N]; omega⟩) (fun i k hl => by
  have hlt : i < N := by
   have := b3 _ hl
   simpa [Nat.blt_eq] using this
  obtain ⟨cs,hcs⟩ := (outs_row vs x ids ho).2.1 i k hl
  have hali : Al i := hi.al i (by rw [hcs]; simp)
  refine ⟨.inl ⟨hlt,hali⟩,(hA i hlt hali).2,hlt,fun b p hb => ?_⟩
  simp only [C1,hb]
  cases hq : ids.idxOf? (some i) with
  | none => simp only; rw [if_pos hlt]
  | some q =>
   exact absurd hcs (IsRow.not_box hi.ctx ((outs_row vs x ids ho).1 i (List.mem_of_getElem? (idx' i q hq))))) (fun l hl i hri => by
  have hb3 : i < N ∧ ids.contains (some i) = false := by
   have hb3 := b3 _ hl
   cases l <;> simp only [LV.ri,Option.some.injEq] at hri <;> first | (cases hri; done) | skip
   all_goals
    subst hri
    simp only [Bool.and_eq_true,Bool.not_eq_true',Nat.blt_eq] at hb3
   ·exact hb3
   ·exact hb3
   ·exact hb3.1
   ·exact hb3
  have hlt : i < N := hb3.1
  have hali : Al i := hi.al i ((outs_row vs x ids ho).2.2 l hl i hri)
  refine ⟨.inl ⟨hlt,hali⟩,(hA i hlt hali).2,fun b p hb => ?_⟩
  simp only [C1,hb]
  cases hq : ids.idxOf? (some i) with
  | none => simp only; rw [if_pos hlt]
  | some q =>
   have hmem : some i ∈ ids := List.mem_of_getElem? (idx' i q hq)
   have := hb3.2
   simp only [List.contains_eq_mem,decide_eq_false_iff_not] at this
   exact absurd hmem this) (fun i m hl hal => by
  have hb3 := b3 _ hl
  simp only [Bool.and_eq_true,Nat.blt_eq] at hb3
  exact hA m hb3.2 hal) hgood
 refine ⟨C1,R,Al1,H1,⟨hi.os,hi.tape,hi.output,hi.size,hi.frame,?_,?_,hi.rd0,g1.ent,g1.al,?_,fun q b hq => ?_⟩,g1.env,?_,?_,hdf,fun p hp => AV.mono' hR hA _ _ (hwf.2.2.2.2.1 p hp) (hgs p hp)⟩
 ·intro b i p hb
  simp only [C1] at hb
  cases hc : C b with
  | none => rw [hc] at hb; cases hb
  | some jp =>
   obtain ⟨j,p'⟩ := jp
   rw [hc] at hb
   simp only at hb
   have hcol := hi.col b j p' hc
   cases hq : ids.idxOf? (some j) with
   | some q =>
    rw [hq] at hb
    simp only [Option.some.injEq,Prod.mk.injEq] at hb
    have hlt := (List.getElem?_eq_some_iff.1 (idx' j q hq)).1
    exact ⟨.inr ⟨by omega,by omega⟩,hcol.2⟩
   | none =>
    rw [hq] at hb
    simp only at hb
    by_cases hj : j < N
    ·rw [if_pos hj] at hb
     simp only [Option.some.injEq,Prod.mk.injEq] at hb
     rw [← hb.1]
     exact ⟨.inl ⟨hj,hcol.1⟩,hcol.2⟩
    ·rw [if_neg hj] at hb; cases hb
 ·intro b hb
  have := hi.rd b hb
  refine ⟨this.1,?_,this.2.2⟩
  simp only [C1,this.2.1]
 ·intro i hal
  rcases hal with ⟨h1,h2⟩ | ⟨h1,h2⟩
  ·simp only [H1]; rw [if_pos h1]; exact hi.one i h2
  ·simp only [H1]
   rw [if_neg (by omega)]
   cases hq : ids[i - N]? with
   | none => rfl
   | some o =>
    cases o with
    | none => rfl
    | some j =>
     simp only
     exact hi.one j (IsRow.al hi.ctx ((outs_row vs x ids ho).1 j (List.mem_of_getElem? hq)))
 ·have hqN : q < N := Nat.lt_of_lt_of_le (List.getElem?_eq_some_iff.1 hq).1 hwf.2.2.2.1
  obtain ⟨p1,p2⟩ := hi.pin q b hq
  obtain ⟨p3,p4⟩ := hA q hqN p1
  exact ⟨p3,p4.trans p2⟩
 ·intro i hal
  show i < (ins _ vs x).nxt
  rw [g2]
  simp only
  rcases hal with ⟨h1,_⟩ | ⟨_,h2⟩
  ·simp only [N] at h1; omega
  ·simp only [N] at h2; omega
 ·show a.tmps.size = (ins _ vs x).sz
  rw [g3]
  exact hsz.trans hss
end Go.Rv
namespace Go.Rv
section
variable {w : World} {S : Upd} {C : Col} {R Al : Nat → Prop} {H : Nat → Value}

def Shaped (k : Kd) (v : Value) : Prop := match k.agg with
 | true => ∃ cs,v = .agg cs
 | false => v.oneCell' = true

def ArgOK (w : World) (R : Nat → Prop) (D : Col) (q : Nat) : (p : PK) → p.kd.ty → Value → List Value → Prop
 | .val k,x,v,hs => hs = [] ∧ k.ro = true ∧ Shaped k v ∧ Rp w noC R 0 k x [] v.cells.toList
 | .box k,x,v,hs => hs = [v] ∧ k.ro = true ∧ ∃ b cells T,v = .pointer (some ⟨b,0,none⟩) ∧ D b = some (q,[]) ∧ w.heap[b]? = some (.cells cells T (0,0)) ∧ Rp w noC R 0 k x [] cells.toList
 | .row t e,x,v,hs => hs = [v] ∧ Rp w D R q (.sl (some t) e) x [] [v]
 | .own t e,x,v,hs => hs = [v] ∧ Rp w D R q (.sl (some t) e) x [] [v]
 | .fn g,x,v,hs => hs = [] ∧ x = true ∧ v = .func (.func g) #[] #[]
 | .fbox g k,x,v,hs => ∃ u,hs = [u] ∧ k.ro = true ∧ v = .func (.func g) #[] #[u] ∧ ∃ b cells T,u = .pointer (some ⟨b,0,none⟩) ∧ D b = some (q,[]) ∧ w.heap[b]? = some (.cells cells T (0,0)) ∧ Rp w noC R 0 k x [] cells.toList
 | .rp k,x,v,hs => hs = [] ∧ k.ro = true ∧ ∃ a fl,v = .pointer (some a) ∧ At w R a fl ∧ Rp w noC R 0 k x [] fl

def ArgsOK (w : World) (R : Nat → Prop) (D : Col) : (q : Nat) → (ps : List PK) → Tup (ps.map PK.kd) → List Value → List Value → Prop
 | _,[],_,vs,hs => vs = [] ∧ hs = []
 | q,[p],x,vs,hs => ∃ v,vs = [v] ∧ ArgOK w R D q p x v hs
 | q,p :: p' :: ps,x,vs,hs => ∃ v vs' h1 h2,vs = v :: vs' ∧ hs = h1 ++ h2 ∧ ArgOK w R D q p x.1 v h1 ∧ ArgsOK w R D (q + h1.length) (p' :: ps) x.2 vs' h2

structure ResAt (w w' : World) (R : Nat → Prop) (D : Col) (hs : List Value) (F : FSpec) (r : Tup (F.rs ++ boxes F.ps)) (v : Value) (nx : Nat) (is : List Nat) (C : Col) (H : Nat → Value) (R' : Nat → Prop) : Prop where
 nxt : nx ≤ (results F.rs (hands F.ps) is r nx).2.2
 col : ∀ b i p,C b = some (i,p) → ((nx ≤ i ∧ i < (results F.rs (hands F.ps) is r nx).2.2) ∨ i ∈ is) ∧ b < w'.heap.size ∧ (w.heap.size ≤ b ∨ ∃ q p',D b = some (q,p'))
 hd : ∀ (q i : Nat) (u : Value),is[q]? = some i → hs[q]? = some u → H i = u
 rd : ∀ b,R' b → ((shareF F = true ∧ R b) ∨ (w.heap.size ≤ b ∧ b < w'.heap.size) ∨ ∃ q p,D b = some (q,p)) ∧ C b = none
 ent : ∀ i,(nx ≤ i ∧ i < (results F.rs (hands F.ps) is r nx).2.2) ∨ i ∈ is → EntOK w' C R' (fun i => (nx ≤ i ∧ i < (results F.rs (hands F.ps) is r nx).2.2) ∨ i ∈ is) H i (getS (results F.rs (hands F.ps) is r nx).2.1 i)
 keys : ∀ p ∈ (results F.rs (hands F.ps) is r nx).2.1,(nx ≤ p.1 ∧ p.1 < (results F.rs (hands F.ps) is r nx).2.2) ∨ p.1 ∈ is
 full : ∀ i,(nx ≤ i ∧ i < (results F.rs (hands F.ps) is r nx).2.2) ∨ i ∈ is → ∃ p ∈ (results F.rs (hands F.ps) is r nx).2.1,p.1 = i
 one : ∀ i,nx ≤ i → i < (results F.rs (hands F.ps) is r nx).2.2 → (H i).oneCell' = true
 val : AV w' R' (fun i => (nx ≤ i ∧ i < (results F.rs (hands F.ps) is r nx).2.2) ∨ i ∈ is) H (packV (results F.rs (hands F.ps) is r nx).1) v

def ResOK (w w' : World) (R : Nat → Prop) (D : Col) (hs : List Value) (F : FSpec) (r : Tup (F.rs ++ boxes F.ps)) (v : Value) : Prop :=
 w'.os = w.os ∧ w'.tape = w.tape ∧ w'.output = w.output ∧ w.heap.size ≤ w'.heap.size ∧ (∀ b,b < w.heap.size → D b = none → w'.heap[b]? = w.heap[b]?) ∧
 ∀ (nx : Nat) (is : List Nat),is.length = hs.length → is.Nodup → (∀ i ∈ is,i < nx) → ∃ C H R',ResAt w w' R D hs F r v nx is C H R'

def Keeps (P : Program) (w : World) (R : Nat → Prop) : Prop := ∀ g, P.globalNamed "internal/strconv.uint64pow10" = some g → R g ∧ w.var? P "internal/strconv.uint64pow10" = some (((List.range 20).map fun i => Value.int .u64 ((10 ^ i : Nat) : Int)).toArray)

def Kept (P : Program) (w : World) (L : Hnd) (R : Nat → Prop) : Prop := Keeps P w R ∧ ∀ b,R b → b < w.heap.size ∧ b ∉ L

theorem Keeps.mono {P : Program} {w w' : World} {R R' : Nat → Prop} (h : Keeps P w R) (hR : ∀ b,R b → R' b ∧ w'.heap[b]? = w.heap[b]?) : Keeps P w' R' := by
 intro g hg
 obtain ⟨h1,h2⟩ := h g hg
 refine ⟨(hR g h1).1,?_⟩
 unfold World.var? at h2 ⊢
 rw [hg] at h2 ⊢
 simp only [Option.bind_some] at h2 ⊢
 rw [(hR g h1).2]
 exact h2

theorem Kept.now {P : Program} {w0 w : World} {L : Hnd} {R0 : Nat → Prop} {S : Upd} {C : Col} {R Al : Nat → Prop} {H : Nat → Value} (h : Kept P w0 L R0) (hi : Inv w0 L R0 S w C R Al H) : Keeps P w R :=
 h.1.mono fun b hb => ⟨hi.rd0 b hb,hi.frame b (h.2 b hb).1 (h.2 b hb).2⟩

def Sound (P : Program) (f : Nat) (F : FSpec) : Prop :=
 ∀ (w : World) (R : Nat → Prop) (vs : List Value) (x : Tup (F.ps.map PK.kd)) (D : Col) (hs : List Value),ArgsOK w R D 0 F.ps x vs hs → (∀ b,R b → b < w.heap.size ∧ D b = none) → (∀ b q p,D b = some (q,p) → b < w.heap.size ∧ q < hs.length) → Keeps P w R →
  ∀ r,F.run x = some r → Calls P f vs.toArray w fun e w' => ∃ v,e = .returned v ∧ ResOK w w' R D hs F r v

theorem readSl_rp (hx : Ctx w C R Al H S) {e : Kd} (hro : e.ro = true) {v : AVal} {cv : Value} (ha : AV w (Rows S C R) Al H v cv) {xs : List e.ty} (h : readSl S e v = some xs) (p : List Nat) : Rp w noC (Rows S C R) 0 (.sl none e) xs p [cv] := by
 by_cases hsl : ∃ e' ys,v = .sl e' ys
 ·obtain ⟨e',ys,rfl⟩ := hsl
  simp only [readSl] at h
  obtain ⟨he,hxs⟩ := castL_some h
  subst he
  simp only at hxs
  subst hxs
  simp only [AV] at ha
  exact noC_path _ _ _ _ _ ha
 ·-- it leads to an entry,or nowhere
  have ha' : AV w R Al H v cv := by
   cases v <;> first | (exact absurd ⟨_,_,rfl⟩ hsl) | (simp [AV]; done) | (simpa [AV] using ha) | (simp [readSl] at h)
  obtain ⟨A,n,c,fl,h1,h2,h3,h4,h5⟩ := readSl_cells hx hro ha' h
  have hl : Lst (fun j x c => Rp w noC (Rows S C R) 0 e x (j :: p) c) 0 xs fl := Lst.imp (fun j x c hx => Rp.ro (fun b hb => ⟨.inl hb,rfl⟩) e hro x _ _ c hx) _ _ _ h4
  refine ⟨A,n,c,fl,by rw [h1],h2,h3,hl,?_⟩
  rcases h5 with ⟨_,h5⟩ | h5 | ⟨a,q1,q2,q3,q4⟩
  ·exact .inl h5
  ·exact .inl h5
  ·refine .inr ⟨a,q1,q2,?_,q4⟩
   rcases q3 with q3 | ⟨i,t,es,q3,q5⟩
   ·exact .inl q3
   ·exact .inr ⟨i,[],q3,IsRow.row q5⟩

theorem readD_rp (hx : Ctx w C R Al H S) {e : Kd} (hro : e.ro = true) {v : AVal} {cv : Value} (ha : AV w (Rows S C R) Al H v cv) {xs : List e.ty} (h : readD S e v = some xs) (p : List Nat) : Rp w noC (Rows S C R) 0 (.sl none e) xs p [cv] := by
 unfold readD at h
 split at h
 ·rename_i i
  split at h
  ·rename_i t e' ver ys hr
   obtain ⟨he,hxs⟩ := castR_some h
   subst he
   subst hxs
   simp only [AV] at ha
   obtain ⟨_,rfl⟩ := ha
   exact Rp.read (R' := Rows S C R) (fun b hb => .inl hb) (fun b p hb => .inr ⟨i,p,hb,IsRow.nrow hr⟩) (.sl (some t) e') ys [] p _ (nrow_ok hx hr).2.1
  ·exact readSl_rp hx hro ha h p
 ·exact readSl_rp hx hro ha h p

theorem ofCells_ok (hx : Ctx w C R Al H S) : ∀ (k : Kd) (_ : k.ro = true) (cs : List AVal) (x : k.ty) (rest : List AVal),ofCells S k cs = some (x,rest) → ∀ (vs : List Value),AVs w (Rows S C R) Al H cs vs →
  ∃ c r,vs = c ++ r ∧ (∀ p,Rp w noC (Rows S C R) 0 k x p c) ∧ AVs w (Rows S C R) Al H rest r := by
 intro k
 induction k with
 | int k =>
  intro _ cs x rest h vs hv
  cases cs with
  | nil => simp [ofCells] at h
  | cons c cs =>
   simp only [AVs] at hv
   obtain ⟨v,r,h1,h2,h3⟩ := hv
   cases c <;> simp only [ofCells] at h <;> first | (cases h; done) | skip
   split at h
   ·rename_i hk
    subst hk
    simp only [Option.some.injEq,Prod.mk.injEq] at h
    obtain ⟨rfl,rfl⟩ := h
    simp only [AV] at h2
    exact ⟨[v],r,h1,fun _ => by rw [h2]; rfl,h3⟩
   ·cases h
 | bool =>
  intro _ cs x rest h vs hv
  cases cs with
  | nil => simp [ofCells] at h
  | cons c cs =>
   simp only [AVs] at hv
   obtain ⟨v,r,h1,h2,h3⟩ := hv
   cases c <;> simp only [ofCells] at h <;> first | (cases h; done) | skip
   simp only [Option.some.injEq,Prod.mk.injEq] at h
   obtain ⟨rfl,rfl⟩ := h
   simp only [AV] at h2
   exact ⟨[v],r,h1,fun _ => by rw [h2]; rfl,h3⟩
 | str =>
  intro _ cs x rest h vs hv
  cases cs with
  | nil => simp [ofCells] at h
  | cons c cs =>
   simp only [AVs] at hv
   obtain ⟨v,r,h1,h2,h3⟩ := hv
   cases c <;> simp only [ofCells] at h <;> first | (cases h; done) | skip
   simp only [Option.some.injEq,Prod.mk.injEq] at h
   obtain ⟨rfl,rfl⟩ := h
   simp only [AV] at h2
   exact ⟨[v],r,h1,fun _ => by rw [h2]; rfl,h3⟩
 | one a ih => intro hr cs x rest h vs hv; exact ih hr cs x rest h vs hv
 | pair a b iha ihb =>
  intro hr cs x rest h vs hv
  have hr' : a.ro = true ∧ b.ro = true := by
   simp only [Kd.ro] at hr
   cases ha : a.ro <;> simp_all
  simp only [ofCells] at h
  split at h
  ·rename_i x1 r1 h1
   split at h
   ·rename_i y r2 h2
    simp only [Option.some.injEq,Prod.mk.injEq] at h
    obtain ⟨rfl,rfl⟩ := h
    obtain ⟨c1,q1,e1,f1,g1⟩ := iha hr'.1 _ _ _ h1 vs hv
    obtain ⟨c2,q2,e2,f2,g2⟩ := ihb hr'.2 _ _ _ h2 _ g1
    refine ⟨c1 ++ c2,q2,by rw [e1,e2,List.append_assoc],fun p => ⟨c1,c2,rfl,f1 _,f2 _⟩,g2⟩
   ·cases h
  ·cases h
 | sl o e ih =>
  intro hr cs x rest h vs hv
  cases o with
  | some t => simp [Kd.ro] at hr
  | none =>
   cases cs with
   | nil => simp [ofCells] at h
   | cons c cs =>
    simp only [AVs] at hv
    obtain ⟨v,r,h1,h2,h3⟩ := hv
    simp only [ofCells] at h
    split at h
    ·rename_i ys hy
     simp only [Option.some.injEq,Prod.mk.injEq] at h
     obtain ⟨rfl,rfl⟩ := h
     exact ⟨[v],r,h1,fun p => readD_rp (e := e) hx (show e.ro = true from hr) h2 hy p,h3⟩
    ·cases h

theorem shaped_of {R1 : Nat → Prop} {k : Kd} {v : AVal} {c : Value} (h1 : ∀ i,Al i → (H i).oneCell' = true) (hv : AV w R1 Al H v c) (hag : k.agg = aggV v) (hso : solid v = true) : Shaped k c := by
 unfold Shaped
 cases hk : k.agg
 ·simp only
  rw [hk] at hag
  have hone : one1 v = true := by cases v <;> first | rfl | (simp [solid] at hso; done) | (simp [aggV] at hag; done)
  exact (one1_ok hv hone h1).1
 ·simp only
  rw [hk] at hag
  cases v <;> simp [aggV] at hag
  simp only [AV] at hv
  obtain ⟨vs,rfl,_⟩ := hv
  exact ⟨vs,rfl⟩

theorem argRow_ok (hx : Ctx w C R Al H S) {R1 : Nat → Prop} (hR1 : ∀ b,R b → R1 b) {t : Nat} {e : Kd} {v : AVal} {c : Value} (hv : AV w R1 Al H v c) {x : List e.ty} {is : List Nat} (h : argRow S t e v = some (x,is)) :
  ∃ i,is = [i] ∧ Al i ∧ H i = c ∧ IsRow S i ∧ ∀ (D : Col) (q : Nat),(∀ b p,C b = some (i,p) → D b = some (q,p)) → Rp w D R1 q (.sl (some t) e) x [] [c] := by
 have mv : ∀ {i : Nat} (D : Col) (q : Nat),(∀ b p,C b = some (i,p) → D b = some (q,p)) → Rp w C R i (.sl (some t) e) x [] [H i] → Rp w D R1 q (.sl (some t) e) x [] [H i] := fun D q hD hr =>
  Rp.mono [] (fun b hb => ⟨hR1 b hb,rfl⟩) (fun b p hb => ⟨by simpa using hD b p hb,rfl⟩) _ _ [] _ hr
 unfold argRow at h
 split at h
 ·rename_i i
  simp only [AV] at hv
  obtain ⟨hal,rfl⟩ := hv
  split at h
  ·rename_i t' e' ys hr
   cases hb : (Nat.beq t' t && e.ro)
   ·rw [hb] at h; cases h
   ·rw [hb] at h
    simp only [cond_true] at h
    simp only [Bool.and_eq_true] at hb
    have ht := Nat.eq_of_beq_eq_true hb.1
    split at h
    ·rename_i zs hz
     simp only [Option.some.injEq,Prod.mk.injEq] at h
     obtain ⟨rfl,rfl⟩ := h
     obtain ⟨he,hzs⟩ := castL_some hz
     subst he ht
     simp only at hzs
     subst hzs
     have hent := hx.ent i
     rw [hr] at hent
     exact ⟨i,rfl,hal,rfl,IsRow.row hr,fun D q hD => mv D q hD hent⟩
    ·cases h
  ·rename_i t' e' ver ys hr
   cases hb : (Nat.beq t' t && !e.ro)
   ·rw [hb] at h; cases h
   ·rw [hb] at h
    simp only [cond_true] at h
    simp only [Bool.and_eq_true] at hb
    have ht := Nat.eq_of_beq_eq_true hb.1
    split at h
    ·rename_i zs hz
     simp only [Option.some.injEq,Prod.mk.injEq] at h
     obtain ⟨rfl,rfl⟩ := h
     obtain ⟨he,hzs⟩ := castL_some hz
     subst he ht
     simp only at hzs
     subst hzs
     exact ⟨i,rfl,hal,rfl,IsRow.nrow hr,fun D q hD => mv D q hD (nrow_ok hx hr).2.1⟩
    ·cases h
  ·cases h
 ·cases h

def RRd (any : Bool) (S : Upd) (C : Col) (R : Nat → Prop) : Nat → Prop := match any with | true => Rows S C R | false => R

theorem RRd.of {any : Bool} {b : Nat} (h : R b) : RRd any S C R b := by cases any; exact h; exact .inl h

theorem arg_ok (hx : Ctx w C R Al H S) {any : Bool} {p : PK} {v : AVal} {c : Value} (hv : AV w (RRd any S C R) Al H v c) {x : p.kd.ty} {is : List Nat} (h : arg any S p v = some (x,is)) :
  is.length = (hands [p]).length ∧ (∀ i ∈ is,Al i ∧ (IsRow S i ∨ ∃ cs,getS S i = .box cs)) ∧ ∀ (D : Col) (q : Nat),(∀ (l i : Nat),is[l]? = some i → ∀ b p,C b = some (i,p) → D b = some (q + l,p)) → ∃ hs,ArgOK w (RRd any S C R) D q p x c hs ∧ hs = is.map H := by
 have rowcase : ∀ (t : Nat) (e : Kd) (y : List e.ty),argRow S t e v = some (y,is) → is.length = 1 ∧ (∀ i ∈ is,Al i ∧ (IsRow S i ∨ ∃ cs,getS S i = .box cs)) ∧ ∀ (D : Col) (q : Nat),(∀ (l i : Nat),is[l]? = some i → ∀ b p,C b = some (i,p) → D b = some (q + l,p)) → ([c] : List Value) = is.map H ∧ Rp w D (RRd any S C R) q (.sl (some t) e) y [] [c] := by
  intro t e y hy
  obtain ⟨i,rfl,h1,h2,h3,h4⟩ := argRow_ok hx (R1 := RRd any S C R) (fun b hb => RRd.of hb) hv hy
  refine ⟨rfl,fun j hj => by rw [List.mem_singleton.1 hj]; exact ⟨h1,.inl h3⟩,fun D q hD => ⟨by simp [h2],h4 D q fun b p hb => by simpa using hD 0 i rfl b p hb⟩⟩
 cases p with
 | val k =>
  simp only [arg] at h
  split at h
  ·rename_i hro
   split at h
   ·split at h
    ·rename_i y hy
     obtain ⟨rfl,rfl⟩ := Prod.mk.inj (Option.some.inj h)
     unfold datum at hy
     split at hy
     ·rename_i z hz
      cases hb : (k.agg == aggV v && solid v)
      ·rw [hb] at hy; cases hy
      ·rw [hb] at hy
       simp only [cond_true,Option.some.injEq] at hy
       subst hy
       simp only [Bool.and_eq_true,beq_iff_eq] at hb
       obtain ⟨cc,r,e1,e2,e3⟩ := ofCells_ok hx k hro _ _ _ hz _ (solid_cells hv hb.2 (fun i hi => one_cells (hx.one i hi)))
       simp only [AVs] at e3
       subst e3
       rw [List.append_nil] at e1
       exact ⟨rfl,by simp,fun D q _ => ⟨[],⟨rfl,hro,shaped_of hx.one hv hb.1 hb.2,by rw [e1]; exact e2 []⟩,rfl⟩⟩
     ·cases hy
    ·cases h
   ·split at h
    ·rename_i y js hy
     obtain ⟨rfl,rfl⟩ := Prod.mk.inj (Option.some.inj h)
     obtain ⟨h1,h2,h3⟩ := takeV_some hy
     exact ⟨rfl,by simp,fun D q _ => ⟨[],⟨rfl,hro,shaped_of hx.one hv h2 h3,takeV_ro hx hro hy hv []⟩,rfl⟩⟩
    ·cases h
  ·cases h
 | box k =>
  simp only [arg] at h
  split at h
  ·rename_i hro
   split at h
   ·rename_i i
    split at h
    ·rename_i cs hcs
     split at h
     ·rename_i y js hy
      obtain ⟨rfl,rfl⟩ := Prod.mk.inj (Option.some.inj h)
      obtain ⟨hal,b,cells,T,q1,q2,q3,q4⟩ := box_ok hx hcs
      simp only [AV] at hv
      obtain ⟨_,b',e1,e2⟩ := hv
      rw [q1] at e1
      simp only [Value.pointer.injEq,Option.some.injEq,Addr.mk.injEq,and_true] at e1
      subst e1
      obtain ⟨cc,r,f1,f2,f3⟩ := takeCells_ro hx k hro _ _ _ _ hy _ q4
      simp only [AVs] at f3
      subst f3
      rw [List.append_nil] at f1
      refine ⟨rfl,fun j hj => by rw [List.mem_singleton.1 hj]; exact ⟨hal,.inr ⟨cs,hcs⟩⟩,fun D q hD => ⟨[c],⟨rfl,hro,b,cells,T,e2,by simpa using hD 0 i rfl b [] q2,q3,?_⟩,by rw [e2]; simp [q1]⟩⟩
      rw [f1]
      exact Rp.ro (fun b hb => ⟨RRd.of hb,rfl⟩) k hro y _ _ _ (f2 [])
     ·cases h
    ·cases h
   ·cases h
  ·cases h
 | row t e =>
  obtain ⟨h1,h2,h3⟩ := rowcase t e x h
  exact ⟨h1,h2,fun D q hD => ⟨[c],⟨rfl,(h3 D q hD).2⟩,(h3 D q hD).1⟩⟩
 | own t e =>
  obtain ⟨h1,h2,h3⟩ := rowcase t e x h
  exact ⟨h1,h2,fun D q hD => ⟨[c],⟨rfl,(h3 D q hD).2⟩,(h3 D q hD).1⟩⟩
 | fn g =>
  simp only [arg] at h
  split at h
  ·rename_i g'
   cases hb : Nat.beq g' g
   ·rw [hb] at h; cases h
   ·rw [hb] at h
    obtain ⟨rfl,rfl⟩ := Prod.mk.inj (Option.some.inj h)
    have hg := Nat.eq_of_beq_eq_true hb
    subst hg
    simp only [AV,AVs] at hv
    obtain ⟨us,vs,rfl,h1,h2⟩ := hv
    have h1 : us = #[] := by apply Array.ext'; simpa using h1
    have h2 : vs = #[] := by apply Array.ext'; simpa using h2
    subst h1 h2
    exact ⟨rfl,by simp,fun D q _ => ⟨[],⟨rfl,rfl,rfl⟩,rfl⟩⟩
  ·cases h
 | fbox g k =>
  simp only [arg] at h
  split at h
  ·rename_i g' v1
   split at h
   ·rename_i hbb
    rw [Bool.and_eq_true] at hbb
    have hg := Nat.eq_of_beq_eq_true hbb.1
    have hro := hbb.2
    subst hg
    split at h
    ·rename_i i
     split at h
     ·rename_i cs hcs
      split at h
      ·rename_i y js hy
       obtain ⟨rfl,rfl⟩ := Prod.mk.inj (Option.some.inj h)
       obtain ⟨hal,b,cells,T,q1,q2,q3,q4⟩ := box_ok hx hcs
       simp only [AV,AVs] at hv
       obtain ⟨us,vs,rfl,h1,u,r,h2,⟨_,b',e1,e2⟩,h3⟩ := hv
       have h1 : us = #[] := by apply Array.ext'; simpa using h1
       have h2 : vs = #[u] := by apply Array.ext'; simpa [h3] using h2
       subst h1 h2
       rw [q1] at e1
       simp only [Value.pointer.injEq,Option.some.injEq,Addr.mk.injEq,and_true] at e1
       subst e1
       obtain ⟨cc,r,f1,f2,f3⟩ := takeCells_ro hx k hro _ _ _ _ hy _ q4
       simp only [AVs] at f3
       subst f3
       rw [List.append_nil] at f1
       refine ⟨rfl,fun j hj => by rw [List.mem_singleton.1 hj]; exact ⟨hal,.inr ⟨cs,hcs⟩⟩,fun D q hD => ⟨[u],⟨u,rfl,hro,rfl,b,cells,T,e2,by simpa using hD 0 i rfl b [] q2,q3,?_⟩,by rw [e2]; simp [q1]⟩⟩
       rw [f1]
       exact Rp.ro (fun b hb => ⟨RRd.of hb,rfl⟩) k hro y _ _ _ (f2 [])
      ·cases h
     ·cases h
    ·cases h
   ·cases h
  ·cases h
 | rp k =>
  simp only [arg] at h
  split at h
  ·rename_i hro
   split at h
   ·rename_i i
    split at h
    ·rename_i k' y hen
     split at h
     ·rename_i hk
      subst hk
      obtain ⟨rfl,rfl⟩ := Prod.mk.inj (Option.some.inj h)
      have hent := hx.ent i
      rw [hen] at hent
      obtain ⟨b,fl,q1,q2,q3⟩ := hent
      simp only [AV] at hv
      obtain ⟨_,b',e1,e2⟩ := hv
      rw [q1] at e1
      simp only [Value.pointer.injEq,Option.some.injEq,Addr.mk.injEq,and_true] at e1
      subst e1
      exact ⟨rfl,by simp,fun D q _ => ⟨[],⟨rfl,hro,_,fl,e2,q2.mono fun b hb => ⟨RRd.of hb,rfl⟩,Rp.ro (fun b hb => ⟨RRd.of hb,rfl⟩) _ hro _ [] [] _ q3⟩,rfl⟩⟩
     ·cases h
    ·cases h
   ·rename_i k' y
    split at h
    ·rename_i hk
     subst hk
     obtain ⟨rfl,rfl⟩ := Prod.mk.inj (Option.some.inj h)
     simp only [AV] at hv
     obtain ⟨a,fl,e1,e2,e3⟩ := hv
     rw [Addr.add_zero'] at e1
     exact ⟨rfl,by simp,fun D q _ => ⟨[],⟨rfl,hro,a,fl,e1,e2,e3⟩,rfl⟩⟩
    ·cases h
   ·cases h
  ·cases h

theorem hands_cons (p : PK) (ps : List PK) : hands (p :: ps) = hands [p] ++ hands ps := by cases p <;> rfl

theorem args_ok (hx : Ctx w C R Al H S) {any : Bool} : ∀ (ps : List PK) (vs : List AVal) (cs : List Value) (x : Tup (ps.map PK.kd)) (is : List Nat),AVs w (RRd any S C R) Al H vs cs → args any S ps vs = some (x,is) →
  is.length = (hands ps).length ∧ (∀ i ∈ is,Al i ∧ (IsRow S i ∨ ∃ cs,getS S i = .box cs)) ∧ ∀ (D : Col) (q : Nat),(∀ (l i : Nat),is[l]? = some i → ∀ b p,C b = some (i,p) → D b = some (q + l,p)) → ∃ hs,ArgsOK w (RRd any S C R) D q ps x cs hs ∧ hs = is.map H
 | [],vs,cs,x,is,hv,h => by
  cases vs with
  | nil =>
   simp only [args,Option.some.injEq,Prod.mk.injEq] at h
   obtain ⟨_,rfl⟩ := h
   simp only [AVs] at hv
   exact ⟨rfl,by simp,fun D q _ => ⟨[],⟨hv,rfl⟩,rfl⟩⟩
  | cons v vs => simp [args] at h
 | [p],vs,cs,x,is,hv,h => by
  cases vs with
  | nil => simp [args] at h
  | cons v vs =>
   cases vs with
   | cons v' vs => simp [args] at h
   | nil =>
    simp only [AVs] at hv
    obtain ⟨c,r,e1,e2,e3⟩ := hv
    subst e3
    obtain ⟨h1,h2,h3⟩ := arg_ok (p := p) hx e2 h
    refine ⟨h1,h2,fun D q hD => ?_⟩
    obtain ⟨hs,h4,h5⟩ := h3 D q hD
    exact ⟨hs,⟨c,e1,h4⟩,h5⟩
 | p :: p' :: ps,vs,cs,x,is,hv,h => by
  cases vs with
  | nil => simp [args] at h
  | cons v vs =>
   simp only [AVs] at hv
   obtain ⟨c,r,e1,e2,e3⟩ := hv
   simp only [args] at h
   split at h
   ·rename_i y b h1
    split at h
    ·rename_i z b' h2
     simp only [Option.some.injEq,Prod.mk.injEq] at h
     obtain ⟨rfl,rfl⟩ := h
     obtain ⟨a1,a2,a3⟩ := arg_ok (p := p) hx e2 h1
     obtain ⟨b1,b2,b3⟩ := args_ok hx (p' :: ps) vs r z b' e3 h2
     refine ⟨by rw [hands_cons,List.length_append,List.length_append,a1,b1],fun i hi => ?_,fun D q hD => ?_⟩
     ·rcases List.mem_append.1 hi with hi | hi
      ·exact a2 i hi
      ·exact b2 i hi
     ·obtain ⟨hs1,c1,c2⟩ := a3 D q (fun l i hl => hD l i (by rw [List.getElem?_append_left (List.getElem?_eq_some_iff.1 hl).1]; exact hl))
      obtain ⟨hs2,c3,c4⟩ := b3 D (q + hs1.length) (fun l i hl b p hb => by
       have := hD (hs1.length + l) i (by rw [c2,List.length_map,List.getElem?_append_right (by omega)]; simpa using hl) b p hb
       rw [Nat.add_assoc]; exact this)
      exact ⟨hs1 ++ hs2,⟨c,r,hs1,hs2,e1,rfl,c1,c3⟩,by rw [c2,c4,List.map_append]⟩
    ·cases h
   ·cases h

theorem Rp.flatR {R' : Nat → Prop} {i : Nat} : ∀ (k : Kd) (_ : k.flat = true) (x : k.ty) (p : List Nat) (cs : List Value),Rp w C R i k x p cs → Rp w C R' i k x p cs := by
 intro k
 induction k with
 | int k => intro _ x p cs h; exact h
 | bool => intro _ x p cs h; exact h
 | str => intro _ x p cs h; exact h
 | one a ih => intro hf x p cs h; exact ih hf x p cs h
 | pair a b iha ihb =>
  intro hf x p cs h
  have hf' : a.flat = true ∧ b.flat = true := by
   simp only [Kd.flat] at hf
   cases ha : a.flat <;> simp_all
  obtain ⟨c1,c2,he,h1,h2⟩ := h
  exact ⟨c1,c2,he,iha hf'.1 _ _ _ h1,ihb hf'.2 _ _ _ h2⟩
 | sl o e ih => intro hf; simp [Kd.flat] at hf

theorem Rp.fresh {w : World} {C : Col} {R R' : Nat → Prop} {i : Nat} : ∀ (k : Kd) (_ : k.fresh = true) (x : k.ty) (p : List Nat) (cs : List Value),Rp w C R i k x p cs → Rp w C R' i k x p cs := by
 intro k
 induction k with
 | int k => intro _ x p cs h; exact h
 | bool => intro _ x p cs h; exact h
 | str => intro _ x p cs h; exact h
 | one a ih => intro hf x p cs h; exact ih hf x p cs h
 | pair a b iha ihb =>
  intro hf x p cs h
  have hf' : a.fresh = true ∧ b.fresh = true := by
   simp only [Kd.fresh] at hf
   cases ha : a.fresh <;> simp_all
  obtain ⟨c1,c2,he,h1,h2⟩ := h
  exact ⟨c1,c2,he,iha hf'.1 _ _ _ h1,ihb hf'.2 _ _ _ h2⟩
 | sl o e ih =>
  intro hf xs p cs h
  cases o with
  | none => simp [Kd.fresh] at hf
  | some t =>
   obtain ⟨v,fl,he,ho,hc,hl⟩ := h
   exact ⟨v,fl,he,ho,hc,Lst.imp (fun j x c hx => ih hf x (j :: p) c hx) _ _ _ hl⟩

theorem ArgsOK.free {R R' : Nat → Prop} {D : Col} : ∀ (ps : List PK) (_ : ps.all PK.apart = true) (q : Nat) (x : Tup (ps.map PK.kd)) (vs hs : List Value),ArgsOK w R D q ps x vs hs → ArgsOK w R' D q ps x vs hs := by
 have one : ∀ (p : PK) (_ : p.apart = true) (q : Nat) (x : p.kd.ty) (v : Value) (hs : List Value),ArgOK w R D q p x v hs → ArgOK w R' D q p x v hs := by
  intro p hp q x v hs h
  cases p with
  | val k => exact ⟨h.1,h.2.1,h.2.2.1,Rp.flatR k hp x [] _ h.2.2.2⟩
  | box k => cases hp
  | row t e => exact ⟨h.1,Rp.fresh (.sl (some t) e) hp x [] _ h.2⟩
  | own t e => exact ⟨h.1,Rp.fresh (.sl (some t) e) hp x [] _ h.2⟩
  | fn g => exact h
  | fbox g k => cases hp
  | rp k => cases hp
 intro ps
 induction ps with
 | nil => intro _ q x vs hs h; exact h
 | cons p ps ih =>
  intro hp q x vs hs h
  rw [List.all_cons,Bool.and_eq_true] at hp
  cases ps with
  | nil =>
   obtain ⟨v,h1,h2⟩ := h
   exact ⟨v,h1,one p hp.1 _ _ _ _ h2⟩
  | cons p' ps =>
   obtain ⟨v,vs',h1,h2,e1,e2,h3,h4⟩ := h
   exact ⟨v,vs',h1,h2,e1,e2,one p hp.1 _ _ _ _ h3,ih hp.2 _ _ _ _ h4⟩
end
end Go.Rv
namespace Go.Rv
section
variable {w0 w : World} {L : Hnd} {R0 : Nat → Prop} {S : Upd} {C : Col} {R Al : Nat → Prop} {H : Nat → Value} {P : Program}

def Left2 (w0 : World) (L : Hnd) (R0 : Nat → Prop) (S : Upd) (R Al : Nat → Prop) (H : Nat → Value) (w : World) (n : Nat) (v : AVal) (cv : Value) (w' : World) : Prop :=
 ∃ C' R' Al' H',Inv w0 L R0 S w' C' R' Al' H' ∧ (∀ i,Al' i → i < n) ∧ AV w' R' Al' H' v cv ∧ ∀ y c,AV w R Al H y c → AV w' R' Al' H' y c

theorem Inv.later (h : Inv w0 L R0 S w C R Al H) {w' : World} (hl : Later w w') : Inv w0 L R0 S w' C R Al H ∧ ∀ x c,AV w R Al H x c → AV w' R Al H x c :=
 h.upd (fun _ => False) (fun _ => False) hl.1 hl.2.1 hl.2.2.1 hl.2.2.2.1 (fun b hb _ => hl.2.2.2.2 b hb) (fun _ h => h.elim) (fun _ _ _ _ => Iff.rfl) (fun _ _ _ h => h.elim) (fun _ hi => ⟨hi,rfl⟩) (fun _ hi hn => absurd hi hn) (fun _ _ => rfl) (fun _ h => h.elim) (fun _ h => h.elim)

theorem Inv.more (h : Inv w0 L R0 S w C R Al H) (N : Nat → Prop) (hN : ∀ b, N b → b < w.heap.size ∧ C b = none ∧ w0.heap.size ≤ b) : Inv w0 L R0 S w C (fun b => R b ∨ N b) Al H :=
  { os := h.os, tape := h.tape, output := h.output, size := h.size, frame := h.frame, col := h.col
    rd := fun b hb => hb.elim (h.rd b) fun hn => ⟨(hN b hn).1, (hN b hn).2.1, .inl (hN b hn).2.2⟩
    rd0 := fun b hb => .inl (h.rd0 b hb)
    ent := fun i => EntOK.mono (fun _ hb => ⟨.inl hb, rfl⟩) (fun _ hj => ⟨hj, rfl⟩) rfl (fun _ _ hb => ⟨hb, rfl⟩) _ (h.ent i)
    al := h.al, one := h.one, pin := h.pin }

theorem str_bytes (hi : Inv w0 L R0 S w C R Al H) {s d e : TypeId} (t : ByteArray) (hs : P.underlying s = some .string) (hd : P.underlying d = some (.slice e)) (he : P.underlying e = some (.int .u8)) {n : Nat} (hn : ∀ i,Al i → i < n) :
  ∃ cv w',(convert s d (.string t)).run P w = .ok cv w' ∧ Left2 w0 L R0 S R Al H w n (.sl (.int .u8) (bytesNums t)) cv w' ∧ Later w w' := by
 have hr := run_bytes_of_string (P := P) w s d e t hs hd he
 obtain ⟨G,hG⟩ : ∃ G,G = grownCap w t.size 0 e := ⟨_,rfl⟩
 have hGn : t.size ≤ G := by rw [hG]; exact grownCap_ge w _ _ _
 rw [← hG] at hr
 obtain ⟨o,ho⟩ : ∃ o : Obj,o = .cells (bytesRow t G) e ((bytesRow t G).size,(bytesRow t G).size + 1) := ⟨_,rfl⟩
 rw [← ho] at hr
 have hl : Later w (w.drew.alloc o) := ⟨rfl,rfl,rfl,by show w.heap.size ≤ (w.heap.push o).size; rw [Array.size_push]; omega,fun b hb => by show (w.heap.push o)[b]? = _; rw [Array.getElem?_push_lt hb,← Array.getElem?_eq_getElem hb]⟩
 obtain ⟨j1,j2⟩ := hi.later hl
 have hnew : ∀ b,b = w.heap.size → b < (w.drew.alloc o).heap.size ∧ C b = none ∧ w0.heap.size ≤ b := by
  rintro b rfl
  refine ⟨by show w.heap.size < (w.heap.push o).size; rw [Array.size_push]; omega,?_,hi.size⟩
  cases hc : C w.heap.size with
  | none => rfl
  | some q => obtain ⟨i,p⟩ := q; have := (hi.col _ _ _ hc).2.1; omega
 have keep : ∀ y c,AV w R Al H y c → AV (w.drew.alloc o) (fun b => R b ∨ b = w.heap.size) Al H y c := fun y c hy =>
  AV.mono (fun b hb => ⟨.inl hb,rfl⟩) (fun i hi => ⟨hi,rfl⟩) _ _ (j2 y c hy)
 refine ⟨_,_,hr,⟨C,fun b => R b ∨ b = w.heap.size,Al,H,j1.more (· = w.heap.size) hnew,hn,?_,keep⟩,hl⟩
 simp only [AV]
 have hlen : (bytesNums t).length = t.size := by unfold bytesNums; rw [List.length_map,Array.length_toList]; rfl
 have hlst : ∀ (xs : List Int) (j : Nat),Lst (fun j x c => Rp (w.drew.alloc o) noC (fun b => R b ∨ b = w.heap.size) 0 (.int .u8) x (j :: []) c) j xs (xs.map (Value.int .u8)) := by
  intro xs
  induction xs with
  | nil => intro j; rfl
  | cons x xs ih => intro j; exact ⟨[.int .u8 x],xs.map (Value.int .u8),rfl,rfl,ih (j + 1)⟩
 refine ⟨_,_,_,(bytesNums t).map (Value.int .u8),rfl,hlen.symm,hGn,hlst _ 0,.inr ⟨_,rfl,rfl,.inr rfl,fun j u hj => ?_⟩⟩
 have hcell : (w.drew.alloc o).heap[w.heap.size]? = some o := by show (w.heap.push o)[w.heap.size]? = _; simp
 have hjl : j < t.size := by
  have := (List.getElem?_eq_some_iff.1 hj).1
  rw [List.length_map,hlen] at this
  exact this
 rw [Addr.add_lit,Nat.zero_add]
 have hcl : (w.drew.alloc o).cell? ⟨w.heap.size,j,none⟩ = (bytesRow t G)[j]? := by
  have h2 := hcell
  rw [ho] at h2 ⊢
  simp only [World.cell?,h2]
  rfl
 rw [hcl]
 have hjd : j < t.data.size := hjl
 have e1 : (bytesRow t G)[j]? = some (.int .u8 (t.data[j].toNat : Int)) := by
  unfold bytesRow
  rw [Array.getElem?_append_left (by simpa using hjd),Array.getElem?_map,Array.getElem?_eq_getElem hjd]
  rfl
 rw [e1]
 simp only [bytesNums,List.map_map,List.getElem?_map] at hj
 rw [Array.getElem?_toList,Array.getElem?_eq_getElem hjd] at hj
 simpa using hj

theorem Left.two {n : Nat} {v : AVal} {cv : Value} {w' : World} (h : Left w0 L R0 S R Al H w n v cv w') : Left2 w0 L R0 S R Al H w n v cv w' := by
 obtain ⟨C',Al',H',h1,h2,h3,h4⟩ := h
 exact ⟨C',R,Al',H',h1,h2,h3,h4⟩

def handC (C : Col) (is : List Nat) : Col := fun b => match C b with
 | some (i,p) => match is.idxOf? i with
  | some q => some (q,p)
  | none => none
 | none => none

theorem idxOf_mem : ∀ (l : List Nat) (i q : Nat),l.idxOf? i = some q → l[q]? = some i := by
 intro l
 induction l with
 | nil => intro i q h; simp at h
 | cons o r ih =>
  intro i q h
  rw [List.idxOf?_cons] at h
  by_cases ho : o = i
  ·rw [if_pos (by simpa using ho)] at h
   simp only [Option.some.injEq] at h
   subst h ho
   rfl
  ·rw [if_neg (by simpa using ho)] at h
   cases hr : r.idxOf? i with
   | none => rw [hr] at h; simp at h
   | some q' =>
    rw [hr] at h
    simp only [Option.map_some,Option.some.injEq] at h
    subst h
    simpa using ih i q' hr

theorem idxOf_none {l : List Nat} {i : Nat} (h : i ∉ l) : l.idxOf? i = none := by
 cases hq : l.idxOf? i with
 | none => rfl
 | some q => exact absurd (List.mem_of_getElem? (idxOf_mem l i q hq)) h

theorem idxOf_nodup : ∀ (l : List Nat),l.Nodup → ∀ (q i : Nat),l[q]? = some i → l.idxOf? i = some q := by
 intro l
 induction l with
 | nil => intro _ q i h; simp at h
 | cons o r ih =>
  intro hnd q i h
  rw [List.nodup_cons] at hnd
  rw [List.idxOf?_cons]
  cases q with
  | zero => simp at h; rw [if_pos (by simpa using h)]
  | succ q =>
   have h' : r[q]? = some i := by simpa using h
   have hne : o ≠ i := fun he => hnd.1 (he ▸ List.mem_of_getElem? h')
   rw [if_neg (by simpa using hne),ih hnd.2 q i h']
   rfl

theorem handC_some {is : List Nat} {b q : Nat} {p : List Nat} (h : handC C is b = some (q,p)) : ∃ i,is[q]? = some i ∧ C b = some (i,p) := by
 unfold handC at h
 cases hc : C b with
 | none => rw [hc] at h; cases h
 | some ip =>
  obtain ⟨i,p'⟩ := ip
  rw [hc] at h
  simp only at h
  cases hq : is.idxOf? i with
  | none => rw [hq] at h; cases h
  | some q' =>
   rw [hq] at h
   simp only [Option.some.injEq,Prod.mk.injEq] at h
   obtain ⟨rfl,rfl⟩ := h
   exact ⟨i,idxOf_mem _ _ _ hq,rfl⟩

theorem handC_none {is : List Nat} {b : Nat} (h : ∀ i p,C b = some (i,p) → i ∉ is) : handC C is b = none := by
 unfold handC
 cases hc : C b with
 | none => rfl
 | some ip =>
  obtain ⟨i,p'⟩ := ip
  simp only
  rw [idxOf_none (h i p' hc)]

theorem handC_at {is : List Nat} (hnd : is.Nodup) {q i b : Nat} {p : List Nat} (hq : is[q]? = some i) (hb : C b = some (i,p)) : handC C is b = some (q,p) := by
 unfold handC
 rw [hb]
 simp only
 rw [idxOf_nodup is hnd q i hq]

theorem Inv.called (hi : Inv w0 L R0 S w C R Al H) {nx : Nat} (hn : ∀ i,Al i → i < nx) {F : FSpec} {r : Tup (F.rs ++ boxes F.ps)} {v : Value} {is : List Nat} {w' : World} {Rr : Nat → Prop}
  (hRr : shareF F = true → ∀ b,Rr b → R b) (hnd : is.Nodup) (isal : ∀ i ∈ is,Al i)
  (hres : ResOK w w' Rr (handC C is) (is.map H) F r v) :
  ∃ C' R' Al' H',Inv w0 L R0 ((results F.rs (hands F.ps) is r nx).2.1 ++ S) w' C' R' Al' H' ∧ (∀ i,Al' i → i < (results F.rs (hands F.ps) is r nx).2.2) ∧ AV w' R' Al' H' (packV (results F.rs (hands F.ps) is r nx).1) v ∧ (∀ y c,AV w R Al H y c → AV w' R' Al' H' y c) ∧
   (∀ b i p,C b = some (i,p) → i ∉ is → C' b = some (i,p) ∧ w'.heap[b]? = w.heap[b]?) ∧ (∀ b,R b → R' b ∧ w'.heap[b]? = w.heap[b]?) ∧ (∀ i,Al i → Al' i ∧ H' i = H i) ∧ (∀ b i p,C' b = some (i,p) → i < nx → i ∈ is ∨ C b = some (i,p)) ∧ w.heap.size ≤ w'.heap.size := by
 obtain ⟨os,tape,output,size,same,hat⟩ := hres
 have isq : ∀ i ∈ is,∃ (q : Nat),is[q]? = some i ∧ (is.map H)[q]? = some (H i) := by
  intro i hi
  obtain ⟨q,hq⟩ := List.getElem?_of_mem hi
  exact ⟨q,hq,by rw [List.getElem?_map,hq]; rfl⟩
 obtain ⟨C1,H1,R1,hr⟩ := hat nx is (by simp) hnd (fun i hi => hn i (isal i hi))
 obtain ⟨hr1,hr2,hr3,hr4,hr5,hr6,hr7,hr8,hr9⟩ := hr
 generalize results F.rs (hands F.ps) is r nx = res at hr1 hr2 hr3 hr4 hr5 hr6 hr7 hr8 hr9 ⊢
 obtain ⟨vals,u,m⟩ := res
 dsimp only at hr1 hr2 hr3 hr4 hr5 hr6 hr7 hr8 hr9 ⊢
 let C2 : Col := fun b => match C1 b with
  | some q => some q
  | none => match C b with
   | some (i,p) => if i ∈ is then none else some (i,p)
   | none => none
 let H2 : Nat → Value := fun i => if nx ≤ i ∧ i < m then H1 i else H i
 let R2 : Nat → Prop := fun b => R b ∨ R1 b
 let Al2 : Nat → Prop := fun i => Al i ∨ (nx ≤ i ∧ i < m)
 have H2is : ∀ i,((nx ≤ i ∧ i < m) ∨ i ∈ is) → Al2 i ∧ H2 i = H1 i := by
  intro i hi'
  rcases hi' with hi' | hi'
  ·exact ⟨.inr hi',by simp only [H2]; rw [if_pos hi']⟩
  ·refine ⟨.inl (isal i hi'),?_⟩
   obtain ⟨q,h1,h2⟩ := isq i hi'
   have := hn i (isal i hi')
   simp only [H2]
   rw [if_neg (by omega),hr3 q i _ h1 h2]
 have H2al : ∀ i,Al i → Al2 i ∧ H2 i = H i := by
  intro i hi'
  have := hn i hi'
  exact ⟨.inl hi',by simp only [H2]; rw [if_neg (by omega)]⟩
 have C1new : ∀ b q,C1 b = some q → C2 b = some q := by intro b q h; simp only [C2,h]
 have Dnone : ∀ b i p,C b = some (i,p) → i ∉ is → handC C is b = none := fun b i p hb hi' => handC_none fun j q hc => by
  rw [hb] at hc; simp only [Option.some.injEq,Prod.mk.injEq] at hc; rw [← hc.1]; exact hi'
 have C1no : ∀ b,b < w.heap.size → handC C is b = none → C1 b = none := by
  intro b hb hd
  cases hc : C1 b with
  | none => rfl
  | some q =>
   obtain ⟨i,p⟩ := q
   rcases (hr2 b i p hc).2.2 with h | ⟨q,p',h⟩
   ·omega
   ·rw [hd] at h; cases h
 have C2old : ∀ b i p,C b = some (i,p) → i ∉ is → C2 b = some (i,p) ∧ w'.heap[b]? = w.heap[b]? := by
  intro b i p hb hi'
  have hd := Dnone b i p hb hi'
  have hlt := (hi.col b i p hb).2.1
  refine ⟨?_,same b hlt hd⟩
  simp only [C2,C1no b hlt hd,hb,if_neg hi']
 have Rd : ∀ b,R b → handC C is b = none := fun b hb => handC_none fun i p hc => by rw [(hi.rd b hb).2.1] at hc; cases hc
 have Rold : ∀ b,R b → R2 b ∧ w'.heap[b]? = w.heap[b]? := fun b h => ⟨.inl h,same b (hi.rd b h).1 (Rd b h)⟩
 have Rnew : ∀ b,R1 b → R2 b ∧ w'.heap[b]? = w'.heap[b]? := by
  intro b h
  exact ⟨.inr h,rfl⟩
 have C2inv : ∀ b i p,C2 b = some (i,p) → C1 b = some (i,p) ∨ (C1 b = none ∧ C b = some (i,p) ∧ i ∉ is) := by
  intro b i p h
  simp only [C2] at h
  cases hc : C1 b with
  | some q => rw [hc] at h; simp only [Option.some.injEq] at h; exact .inl (by rw [h])
  | none =>
   rw [hc] at h
   simp only at h
   cases hc2 : C b with
   | none => rw [hc2] at h; cases h
   | some q =>
    obtain ⟨j,p'⟩ := q
    rw [hc2] at h
    simp only at h
    split at h
    ·cases h
    ·rename_i hni
     simp only [Option.some.injEq,Prod.mk.injEq] at h
     obtain ⟨rfl,rfl⟩ := h
     exact .inr ⟨rfl,rfl,hni⟩
 refine ⟨C2,R2,Al2,H2,⟨os.trans hi.os,tape.trans hi.tape,output.trans hi.output,Nat.le_trans hi.size size,?_,?_,?_,fun b h => .inl (hi.rd0 b h),?_,?_,?_,fun q b hq => ⟨(H2al q (hi.pin q b hq).1).1,by rw [(H2al q (hi.pin q b hq).1).2]; exact (hi.pin q b hq).2⟩⟩,?_,AV.mono Rnew H2is _ _ hr9,AV.mono Rold H2al,C2old,Rold,H2al,?_,size⟩
 ·intro b hb1 hb2
  rw [same b (Nat.lt_of_lt_of_le hb1 hi.size) (handC_none fun i p hc hm => ?_)]
  ·exact hi.frame b hb1 hb2
  ·rcases (hi.col b i p hc).2.2 with h | h
   ·omega
   ·exact hb2 h
 ·intro b i p h
  rcases C2inv b i p h with hc | ⟨_,hc,_⟩
  ·obtain ⟨h1,h2,h3⟩ := hr2 b i p hc
   refine ⟨?_,h2,?_⟩
   ·rcases h1 with h1 | h1
    ·exact .inr h1
    ·exact .inl (isal i h1)
   ·rcases h3 with h3 | ⟨q,p',h3⟩
    ·exact .inl (Nat.le_trans hi.size h3)
    ·obtain ⟨j,_,h4⟩ := handC_some h3
     exact (hi.col b j p' h4).2.2
  ·have h6 := hi.col b i p hc
   exact ⟨.inl h6.1,Nat.lt_of_lt_of_le h6.2.1 size,h6.2.2⟩
 ·intro b h
  have oldR : R b → b < w'.heap.size ∧ C2 b = none ∧ (w0.heap.size ≤ b ∨ R0 b ∨ b ∈ L) := fun h => by
   have h1 := hi.rd b h
   refine ⟨Nat.lt_of_lt_of_le h1.1 size,?_,h1.2.2⟩
   simp only [C2,C1no b h1.1 (Rd b h),h1.2.1]
  rcases h with h | h
  ·exact oldR h
  ·have h4 := hr4 b h
   rcases h4.1 with ⟨h1,h2⟩ | h1 | ⟨q,p',h1⟩
   ·exact oldR (hRr h1 b h2)
   ·refine ⟨h1.2,?_,.inl (Nat.le_trans hi.size h1.1)⟩
    simp only [C2,h4.2]
    cases hc : C b with
    | none => rfl
    | some q =>
     obtain ⟨i,p⟩ := q
     have := (hi.col b i p hc).2.1
     omega
   ·obtain ⟨j,h5,h6⟩ := handC_some h1
    have hcol := hi.col b j p' h6
    refine ⟨Nat.lt_of_lt_of_le hcol.2.1 size,?_,?_⟩
    ·simp only [C2,h4.2,h6]
     rw [if_pos (List.mem_of_getElem? h5)]
    ·rcases hcol.2.2 with h7 | h7
     ·exact .inl h7
     ·exact .inr (.inr h7)
 ·intro i
  by_cases hin : (nx ≤ i ∧ i < m) ∨ i ∈ is
  ·rw [getS_append_left (hr7 i hin)]
   exact EntOK.mono Rnew H2is (H2is i hin).2 (fun b p h => ⟨C1new b _ h,rfl⟩) _ (hr5 i hin)
  ·have hne : ∀ p ∈ u,p.1 ≠ i := by
    intro p hp he
    subst he
    exact hin (hr6 p hp)
   rw [getS_append_right hne]
   have hni : ¬ (nx ≤ i ∧ i < m) := fun h => hin (.inl h)
   exact EntOK.mono Rold H2al (by simp only [H2]; rw [if_neg hni]) (fun b p h => C2old b i p h (fun h => hin (.inr h))) _ (hi.ent i)
 ·intro i h
  by_cases hin : (nx ≤ i ∧ i < m) ∨ i ∈ is
  ·exact (H2is i hin).1
  ·have hne : ∀ p ∈ u,p.1 ≠ i := by
    intro p hp he
    subst he
    exact hin (hr6 p hp)
   rw [getS_append_right hne] at h
   exact .inl (hi.al i h)
 ·intro i h
  rcases h with h | h
  ·rw [(H2al i h).2]; exact hi.one i h
  ·rw [(H2is i (.inl h)).2]; exact hr8 i h.1 h.2
 ·intro i h
  rcases h with h | h
  ·have := hn i h; omega
  ·exact h.2
 ·intro b i p h hlt
  rcases C2inv b i p h with hc | ⟨_,hc,_⟩
  ·rcases (hr2 b i p hc).1 with h1 | h1
   ·omega
   ·exact .inl h1
  ·exact .inr hc

theorem handBox {S : Upd} {any : Bool} : ∀ (ps : List PK) (_ : (hands ps).all BK.isBox = true) (vs : List AVal) (x : Tup (ps.map PK.kd)) (is : List Nat),args any S ps vs = some (x,is) → ∀ i ∈ is,∃ cs,getS S i = .box cs := by
 have one : ∀ (p : PK) (_ : (hands [p]).all BK.isBox = true) (v : AVal) (x : p.kd.ty) (is : List Nat),arg any S p v = some (x,is) → ∀ i ∈ is,∃ cs,getS S i = .box cs := by
  intro p hp v x is h i hi
  cases p with
  | val k =>
   simp only [arg] at h
   split at h
   ·split at h
    ·split at h
     ·obtain ⟨rfl,rfl⟩ := Prod.mk.inj (Option.some.inj h); cases hi
     ·cases h
    ·split at h
     ·obtain ⟨rfl,rfl⟩ := Prod.mk.inj (Option.some.inj h); cases hi
     ·cases h
   ·cases h
  | box k =>
   simp only [arg] at h
   split at h
   ·split at h
    ·rename_i j
     split at h
     ·rename_i cs hcs
      split at h
      ·obtain ⟨rfl,rfl⟩ := Prod.mk.inj (Option.some.inj h)
       rw [List.mem_singleton.1 hi]
       exact ⟨cs,hcs⟩
      ·cases h
     ·cases h
    ·cases h
   ·cases h
  | row t e => simp [hands,BK.isBox] at hp
  | own t e => simp [hands,BK.isBox] at hp
  | fn g =>
   simp only [arg] at h
   split at h
   ·rename_i g'
    cases hb : Nat.beq g' g
    ·rw [hb] at h; cases h
    ·rw [hb] at h
     obtain ⟨_,rfl⟩ := Prod.mk.inj (Option.some.inj h); cases hi
   ·cases h
  | fbox g k =>
   simp only [arg] at h
   split at h
   ·split at h
    ·split at h
     ·rename_i j
      split at h
      ·rename_i cs hcs
       split at h
       ·obtain ⟨rfl,rfl⟩ := Prod.mk.inj (Option.some.inj h)
        rw [List.mem_singleton.1 hi]
        exact ⟨cs,hcs⟩
       ·cases h
      ·cases h
     ·cases h
    ·cases h
   ·cases h
  | rp k =>
   simp only [arg] at h
   split at h
   ·split at h
    ·split at h
     ·split at h
      ·obtain ⟨rfl,rfl⟩ := Prod.mk.inj (Option.some.inj h); cases hi
      ·cases h
     ·cases h
    ·split at h
     ·obtain ⟨rfl,rfl⟩ := Prod.mk.inj (Option.some.inj h); cases hi
     ·cases h
    ·cases h
   ·cases h
 intro ps
 induction ps with
 | nil =>
  intro _ vs x is h i hi
  cases vs with
  | nil => simp only [args,Option.some.injEq,Prod.mk.injEq] at h; rw [← h.2] at hi; cases hi
  | cons v vs => simp [args] at h
 | cons p ps ih =>
  intro hp vs x is h i hi
  rw [hands_cons,List.all_append,Bool.and_eq_true] at hp
  cases ps with
  | nil =>
   cases vs with
   | nil => simp [args] at h
   | cons v vs =>
    cases vs with
    | nil => exact one p hp.1 v x is h i hi
    | cons v' vs => simp [args] at h
  | cons p' ps =>
   cases vs with
   | nil => simp [args] at h
   | cons v vs =>
    simp only [args] at h
    split at h
    ·rename_i y b h1
     split at h
     ·rename_i z b' h2
      simp only [Option.some.injEq,Prod.mk.injEq] at h
      rw [← h.2] at hi
      rcases List.mem_append.1 hi with hi | hi
      ·exact one p hp.1 _ _ _ h1 i hi
      ·exact ih hp.2 _ _ _ h2 i hi
     ·cases h
    ·cases h

theorem call_ok (hi : Inv w0 L R0 S w C R Al H) (hKp : Kept P w0 L R0) {nx : Nat} (hn : ∀ i,Al i → i < nx) {f : Nat} {F : FSpec} (hF : Sound P f F) {vs : List AVal} {cvs : List Value} (hv : AVs w (RRd (!shareF F) S C R) Al H vs cvs) {x : Tup (F.ps.map PK.kd)} {is : List Nat}
  (ha : args (!shareF F) S F.ps vs = some (x,is)) (hnd : is.Nodup) (hap : rowsApart F.ps = true) {q : Tup (F.rs ++ boxes F.ps)} (hq : F.run x = some q) :
  Calls P f cvs.toArray w fun e w' => ∃ cv,e = .returned cv ∧ (∃ C' R' Al' H',Inv w0 L R0 ((results F.rs (hands F.ps) is q nx).2.1 ++ S) w' C' R' Al' H' ∧ (∀ i,Al' i → i < (results F.rs (hands F.ps) is q nx).2.2) ∧ AV w' R' Al' H' (packV (results F.rs (hands F.ps) is q nx).1) cv ∧ (∀ y c,AV w R Al H y c → AV w' R' Al' H' y c) ∧
   (∀ b i p,C b = some (i,p) → i ∉ is → C' b = some (i,p) ∧ w'.heap[b]? = w.heap[b]?) ∧ (∀ b,R b → R' b ∧ w'.heap[b]? = w.heap[b]?) ∧ (∀ i,Al i → Al' i ∧ H' i = H i) ∧ (∀ b i p,C' b = some (i,p) → i < nx → i ∈ is ∨ C b = some (i,p)) ∧ w.heap.size ≤ w'.heap.size) ∧
   (is = [] → w'.os = w.os ∧ w'.tape = w.tape ∧ w'.output = w.output ∧ w.heap.size ≤ w'.heap.size ∧ ∀ b,b < w.heap.size → w'.heap[b]? = w.heap[b]?) := by
 obtain ⟨h1,h2,h3⟩ := args_ok hi.ctx F.ps vs cvs x is hv ha
 obtain ⟨hs,h4,h5⟩ := h3 (handC C is) 0 (fun l i hl b p hb => by rw [Nat.zero_add]; exact handC_at hnd hl hb)
 subst h5
 have hDlt : ∀ b q p,handC C is b = some (q,p) → b < w.heap.size ∧ q < (is.map H).length := by
  intro b q p hb
  obtain ⟨i,hq,hc⟩ := handC_some hb
  exact ⟨(hi.col b i p hc).2.1,by rw [List.length_map]; exact (List.getElem?_eq_some_iff.1 hq).1⟩
 have hRd : ∀ b,R b → handC C is b = none := fun b hb => handC_none fun i p hc => by rw [(hi.rd b hb).2.1] at hc; cases hc
 -- what the callee may read
 have hR : ∃ Rc : Nat → Prop,ArgsOK w Rc (handC C is) 0 F.ps x cvs (is.map H) ∧ (∀ b,Rc b → b < w.heap.size ∧ handC C is b = none) ∧ (shareF F = true → ∀ b,Rc b → R b) ∧ ∀ b,R b → Rc b := by
  have flat : F.ps.all PK.apart = true → ∃ Rc : Nat → Prop,ArgsOK w Rc (handC C is) 0 F.ps x cvs (is.map H) ∧ (∀ b,Rc b → b < w.heap.size ∧ handC C is b = none) ∧ (shareF F = true → ∀ b,Rc b → R b) ∧ ∀ b,R b → Rc b := fun hall =>
   ⟨R,ArgsOK.free _ hall _ _ _ _ h4,fun b hb => ⟨(hi.rd b hb).1,hRd b hb⟩,fun _ b hb => hb,fun b hb => hb⟩
  unfold rowsApart at hap
  rw [Bool.or_eq_true] at hap
  rcases hap with hap | hap
  ·refine ⟨_,h4,fun b hb => ?_,fun hs b hb => by rw [hs] at hb; exact hb,fun b hb => RRd.of hb⟩
   cases hs : shareF F
   ·rw [hs] at hb
    rcases hb with hb | ⟨i,p,hb,hrow⟩
    ·exact ⟨(hi.rd b hb).1,hRd b hb⟩
    ·refine ⟨(hi.col b i p hb).2.1,handC_none fun j p' hc hm => ?_⟩
     rw [hb] at hc
     simp only [Option.some.injEq,Prod.mk.injEq] at hc
     obtain ⟨rfl,_⟩ := hc
     -- all that is handed over are boxes
     obtain ⟨cs,hcs⟩ := handBox (any := !shareF F) F.ps hap vs x is ha i hm
     exact IsRow.not_box hi.ctx hrow hcs
   ·rw [hs] at hb
    exact ⟨(hi.rd b hb).1,hRd b hb⟩
  ·exact flat hap
 obtain ⟨Rc,k1,k2,k3,k4⟩ := hR
 refine (hF w Rc cvs x (handC C is) (is.map H) k1 k2 hDlt ((hKp.now hi).mono fun b hb => ⟨k4 b hb,rfl⟩) q hq).mono ?_
 rintro e w' ⟨v,he,hres⟩
 refine ⟨v,he,hi.called hn k3 hnd (fun i hi' => (h2 i hi').1) hres,fun his => ?_⟩
 subst his
 exact ⟨hres.1,hres.2.1,hres.2.2.1,hres.2.2.2.1,fun b hb => hres.2.2.2.2.1 b hb (handC_none fun i p _ h => by cases h)⟩
end
end Go.Rv
namespace Go.Rv
section
variable {w0 w : World} {L : Hnd} {R0 : Nat → Prop} {S : Upd} {C : Col} {R Al : Nat → Prop} {H : Nat → Value} {P : Program}

def pathAt : Kd → Nat → List Nat → List Nat
 | .one a,o,p => pathAt a o p
 | .pair a b,o,p => cond (Nat.blt o a.size) (pathAt a o (0 :: p)) (pathAt b (o - a.size) (1 :: p))
 | _,_,p => p

theorem pathAt_snoc : ∀ (k : Kd) (o : Nat) (p : List Nat),∃ q,pathAt k o p = q ++ p
 | .int _,_,p => ⟨[],rfl⟩
 | .bool,_,p => ⟨[],rfl⟩
 | .str,_,p => ⟨[],rfl⟩
 | .sl _ _,_,p => ⟨[],rfl⟩
 | .one a,o,p => pathAt_snoc a o p
 | .pair a b,o,p => by
  simp only [pathAt]
  cases Nat.blt o a.size
  ·obtain ⟨q,hq⟩ := pathAt_snoc b (o - a.size) (1 :: p)
   exact ⟨q ++ [1],by rw [List.append_assoc]; exact hq⟩
  ·obtain ⟨q,hq⟩ := pathAt_snoc a o (0 :: p)
   exact ⟨q ++ [0],by rw [List.append_assoc]; exact hq⟩

theorem ownAt_path : ∀ (k : Kd) (o t : Nat) (e : Kd),ownAt k o = some (t,e) → ∀ (x : k.ty) (ys : List e.ty),getC k x o e = some ys → ∀ (i : Nat) (p : List Nat) (cs : List Value),Rp w C R i k x p cs →
  ∃ v,cs[o]? = some v ∧ Rp w C R i (.sl (some t) e) ys (pathAt k o p) [v]
 | .int _,o,t,e,h,x,ys,hg => by cases o <;> simp [ownAt] at h
 | .bool,o,t,e,h,x,ys,hg => by cases o <;> simp [ownAt] at h
 | .str,o,t,e,h,x,ys,hg => by cases o <;> simp [ownAt] at h
 | .sl none _,o,t,e,h,x,ys,hg => by cases o <;> simp [ownAt] at h
 | .sl (some t') e',o,t,e,h,x,ys,hg => by
  cases o with
  | succ o => simp [ownAt] at h
  | zero =>
   simp only [ownAt,Option.some.injEq,Prod.mk.injEq] at h
   obtain ⟨rfl,rfl⟩ := h
   simp only [getC] at hg
   obtain ⟨he,hys⟩ := castL_some hg
   simp only at hys
   subst hys
   intro i p cs hr
   have hr' := hr
   obtain ⟨v,fl,hcs,r⟩ := hr'
   exact ⟨v,by rw [hcs]; rfl,by rw [hcs] at hr; exact hr⟩
 | .one a,o,t,e,h,x,ys,hg => fun i p cs hr => ownAt_path a o t e h x ys hg i p cs hr
 | .pair a b,o,t,e,h,x,ys,hg => by
  intro i p cs hr
  obtain ⟨c1,c2,hcs,h1,h2⟩ := hr
  have l1 := Rp.length _ _ _ _ h1
  simp only [ownAt] at h
  simp only [getC] at hg
  simp only [pathAt]
  cases hb : Nat.blt o a.size
  ·rw [hb] at h hg
   have hn : ¬ o < a.size := by rw [← Nat.blt_eq,hb]; simp
   obtain ⟨v,e1,e2⟩ := ownAt_path b _ t e h x.2 ys hg _ _ _ h2
   refine ⟨v,?_,e2⟩
   rw [hcs,List.getElem?_append_right (by omega),l1]; exact e1
  ·rw [hb] at h hg
   rw [Nat.blt_eq] at hb
   obtain ⟨v,e1,e2⟩ := ownAt_path a _ t e h x.1 ys hg _ _ _ h1
   refine ⟨v,?_,e2⟩
   rw [hcs,List.getElem?_append_left (by omega)]; exact e1

theorem snoc_ne {r r' q p : List Nat} {a b : Nat} (h : r ++ a :: p = r' ++ (q ++ b :: p)) : a = b := by
 have h1 : (r ++ [a]) ++ p = (r' ++ q ++ [b]) ++ p := by simpa [List.append_assoc] using h
 have h2 := List.append_cancel_right h1
 have h3 := congrArg List.getLast? h2
 simpa using h3

theorem putC_ok {w' : World} {C' : Col} {R' : Nat → Prop} (hR : ∀ b,R b → R' b ∧ w'.heap[b]? = w.heap[b]?) {i : Nat} : ∀ (k : Kd) (o t : Nat) (e : Kd),ownAt k o = some (t,e) → ∀ (x x' : k.ty) (ys : List e.ty),putC k x o e ys = some x' → ∀ (p : List Nat) (cs : List Value) (v : Value),Rp w C R i k x p cs → cs[o]? = some v →
  (∀ b r,C b = some (i,r ++ p) → (∀ r',r ++ p ≠ r' ++ pathAt k o p) → C' b = some (i,r ++ p) ∧ w'.heap[b]? = w.heap[b]?) → Rp w' C' R' i (.sl (some t) e) ys (pathAt k o p) [v] → Rp w' C' R' i k x' p cs
 | .int _,o,t,e,h => by cases o <;> simp [ownAt] at h
 | .bool,o,t,e,h => by cases o <;> simp [ownAt] at h
 | .str,o,t,e,h => by cases o <;> simp [ownAt] at h
 | .sl none _,o,t,e,h => by cases o <;> simp [ownAt] at h
 | .sl (some t') e',o,t,e,h => by
  intro x x' ys hput p cs v hr hv hC hnew
  cases o with
  | succ o => simp [ownAt] at h
  | zero =>
   simp only [ownAt,Option.some.injEq,Prod.mk.injEq] at h
   obtain ⟨rfl,rfl⟩ := h
   simp only [putC] at hput
   obtain ⟨he,hys⟩ := castL_some hput
   simp only at hys
   subst hys
   obtain ⟨v',fl,hcs,r⟩ := hr
   rw [hcs] at hv
   simp only [List.getElem?_cons_zero,Option.some.injEq] at hv
   rw [hcs,hv]
   exact hnew
 | .one a,o,t,e,h => fun x x' ys hput p cs v hr hv hC hnew => putC_ok hR a o t e h x x' ys hput p cs v hr hv hC hnew
 | .pair a b,o,t,e,h => by
  intro x x' ys hput p cs v hr hv hC hnew
  obtain ⟨c1,c2,hcs,h1,h2⟩ := hr
  have l1 := Rp.length _ _ _ _ h1
  simp only [ownAt] at h
  simp only [putC] at hput
  simp only [pathAt] at hC hnew
  cases hb : Nat.blt o a.size
  ·rw [hb] at h hput hC hnew
   simp only [cond_false] at h hput hC hnew
   have hn : ¬ o < a.size := by rw [← Nat.blt_eq,hb]; simp
   split at hput
   ·rename_i z hz
    simp only [Option.some.injEq] at hput
    subst hput
    refine ⟨c1,c2,hcs,?_,putC_ok hR b _ t e h x.2 z ys hz (1 :: p) c2 v h2 ?_ (fun b' r hb' hne => ?_) hnew⟩
    ·refine Rp.move hR a x.1 (0 :: p) (0 :: p) c1 (fun b' r hb' => ?_) h1
     have := hC b' (r ++ [0]) (by rw [List.append_assoc]; exact hb') (fun r' he => by
      obtain ⟨q,hq⟩ := pathAt_snoc b (o - a.size) (1 :: p)
      rw [hq,List.append_assoc] at he
      have := snoc_ne he
      omega)
     rw [List.append_assoc] at this; exact this
    ·rw [hcs,List.getElem?_append_right (by omega),l1] at hv; exact hv
    ·have := hC b' (r ++ [1]) (by rw [List.append_assoc]; exact hb') (fun r' he => hne r' (by rw [List.append_assoc] at he; exact he))
     rw [List.append_assoc] at this; exact this
   ·cases hput
  ·rw [hb] at h hput hC hnew
   simp only [cond_true] at h hput hC hnew
   rw [Nat.blt_eq] at hb
   split at hput
   ·rename_i z hz
    simp only [Option.some.injEq] at hput
    subst hput
    refine ⟨c1,c2,hcs,putC_ok hR a _ t e h x.1 z ys hz (0 :: p) c1 v h1 ?_ (fun b' r hb' hne => ?_) hnew,?_⟩
    ·rw [hcs,List.getElem?_append_left (by omega)] at hv; exact hv
    ·have := hC b' (r ++ [0]) (by rw [List.append_assoc]; exact hb') (fun r' he => hne r' (by rw [List.append_assoc] at he; exact he))
     rw [List.append_assoc] at this; exact this
    ·refine Rp.move hR b x.2 (1 :: p) (1 :: p) c2 (fun b' r hb' => ?_) h2
     have := hC b' (r ++ [1]) (by rw [List.append_assoc]; exact hb') (fun r' he => by
      obtain ⟨q,hq⟩ := pathAt_snoc a o (0 :: p)
      rw [hq,List.append_assoc] at he
      have := snoc_ne he
      omega)
     rw [List.append_assoc] at this; exact this
   ·cases hput

def aheadOf (sf p : List Nat) : Option (List Nat) := if sf <:+ p then some (p.take (p.length - sf.length)) else none

theorem aheadOf_some {sf p r : List Nat} (h : aheadOf sf p = some r) : p = r ++ sf := by
 unfold aheadOf at h
 split at h
 ·rename_i hs
  obtain ⟨t,rfl⟩ := hs
  simp only [List.length_append,Nat.add_sub_cancel,List.take_left,Option.some.injEq] at h
  rw [h]
 ·cases h

theorem aheadOf_append (r sf : List Nat) : aheadOf sf (r ++ sf) = some r := by
 unfold aheadOf
 rw [if_pos ⟨r,rfl⟩]
 simp

theorem Lst.change {α : Type} {f g : Nat → α → List Value → Prop} {y : α} {s : Nat} (hlen : ∀ j x c,f j x c → c.length = s) : ∀ (xs : List α) (b j : Nat) (fl : List Value),Lst f b xs fl → (∀ l x c,l ≠ b + j → f l x c → g l x c) → (∀ x c,xs[j]? = Option.some x → f (b + j) x c → c = (fl.drop (j * s)).take s → g (b + j) y c) → Lst g b (xs.set j y) fl
 | [],_,_,_,h,_,_ => h
 | x :: xs,b,0,_,⟨c,r,he,hf,hr⟩,h1,h2 => ⟨c,r,he,h2 x c rfl hf (by
   have := hlen _ _ _ hf
   rw [he,Nat.zero_mul,List.drop_zero,List.take_append_of_le_length (by omega),List.take_of_length_le (by omega)]),by
  have : ∀ (xs : List α) (d : Nat) (fl : List Value),b < d → Lst f d xs fl → Lst g d xs fl := by
   intro xs
   induction xs with
   | nil => intro d fl _ h; exact h
   | cons z zs ih =>
    rintro d fl hd ⟨c,r,he,hf,hr⟩
    exact ⟨c,r,he,h1 d z c (by omega) hf,ih (d + 1) r (by omega) hr⟩
  exact this xs (b + 1) r (by omega) hr⟩
 | x :: xs,b,j + 1,_,⟨c,r,he,hf,hr⟩,h1,h2 => ⟨c,r,he,h1 b x c (by omega) hf,Lst.change hlen xs (b + 1) j r hr (fun l x c hl => h1 l x c (by omega)) (fun x c' hx hf' hc => by
   have := h2 x c' (by simpa using hx) (by rw [show b + (j + 1) = b + 1 + j from by omega]; exact hf') (by
    have hl := hlen _ _ _ hf
    rw [he,Nat.add_mul,Nat.one_mul,Nat.add_comm,← hl,← List.drop_drop,List.drop_left,hl]; exact hc)
   rwa [show b + (j + 1) = b + 1 + j from by omega] at this)⟩

theorem rp_seg (_ : Ctx w C R Al H S) {i t : Nat} {e : Kd} {xs : List e.ty} {fl : List Value} (ho : Own w t e.size (H i) xs.length fl) {j : Nat} (hlt : j < xs.length) :
  ∃ g n c,H i = .slice (some ⟨g,0,none⟩) n c ∧ ((fl.drop (j * e.size)).take e.size).length = e.size ∧ ∀ (q : Nat) (u : Value),((fl.drop (j * e.size)).take e.size)[q]? = some u → w.cell? ⟨g,j * e.size + q,none⟩ = some u := by
 rcases ho.2 with ⟨A,hv,hn⟩ | ⟨g,cap,cur,hv,hb,hg,r⟩
 ·omega
 ·have hfl := ho.1
  have ho := ho.row (g := g) (by rw [hv]; exact ownB_of hb)
  have hj1 : (j + 1) * e.size ≤ xs.length * e.size := Nat.mul_le_mul_right _ hlt
  rw [Nat.add_mul,Nat.one_mul] at hj1
  refine ⟨g,_,_,hv,by rw [List.length_take,List.length_drop]; omega,fun q u hq => ?_⟩
  rw [List.getElem?_take] at hq
  split at hq
  ·rename_i hq'
   rw [hv] at ho
   rw [ho.cellAt _ (by omega)]
   rw [List.getElem?_drop] at hq
   exact hq
  ·cases hq

theorem resCells_nxt : ∀ (k : Kd) (x : k.ty) (nx : Nat),nx ≤ (resCells k x nx).2.2
 | .int _,_,_ => Nat.le_refl _
 | .bool,_,_ => Nat.le_refl _
 | .str,_,_ => Nat.le_refl _
 | .sl none _,_,_ => Nat.le_refl _
 | .sl (some _) e,_,_ => by simp only [resCells,rowU]; split <;> simp only <;> omega
 | .one a,x,nx => resCells_nxt a x nx
 | .pair a b,x,nx => Nat.le_trans (resCells_nxt a x.1 nx) (resCells_nxt b x.2 _)

theorem resBox_nxt : ∀ (b : BK) (i : Nat) (x : b.kd.ty) (nx : Nat),nx ≤ (resBox b i x nx).2
 | .box k,_,x,nx => resCells_nxt k x nx
 | .row _ e,_,_,nx => by simp only [resBox]; split <;> simp only <;> omega
 | .own,_,_,_ => Nat.le_refl _

theorem resBoxes_nxt : ∀ (bs : List BK) (is : List Nat) (x : Tup (bs.map BK.kd)) (nx : Nat),nx ≤ (resBoxes bs is x nx).2
 | [],_,_,_ => Nat.le_refl _
 | [b],_,x,nx => resBox_nxt b _ x nx
 | b :: b' :: bs,is,x,nx => Nat.le_trans (resBox_nxt b (is.headD 0) x.1 nx) (resBoxes_nxt (b' :: bs) is.tail x.2 _)

theorem results_nxt : ∀ (rs : List Kd) (bs : List BK) (is : List Nat) (x : Tup (rs ++ bs.map BK.kd)) (nx : Nat),nx ≤ (results rs bs is x nx).2.2
 | [],bs,is,x,nx => resBoxes_nxt bs is x nx
 | [r],[],_,x,nx => resCells_nxt r x nx
 | [r],b :: bs,is,x,nx => Nat.le_trans (resCells_nxt r x.1 nx) (resBoxes_nxt (b :: bs) is x.2 _)
 | r :: r' :: rs,bs,is,x,nx => Nat.le_trans (resCells_nxt r x.1 nx) (results_nxt (r' :: rs) bs is x.2 _)

theorem callS_ok (hi : Inv w0 L R0 S w C R Al H) (hKp : Kept P w0 L R0) {nxt : Nat} (hn : ∀ i,Al i → i < nxt) {f : Nat} {F : FSpec} (hF : Sound P f F) {i ver s j off : Nat} {rest : List AVal} {cv0 : Value} {crest : List Value} (hv : AV w R Al H (.sub i ver s j off) cv0) (hvs : AVs w R Al H rest crest)
  {α : Type} {k : AVal → Upd → Nat → Option α} {r : α} (h : callS F S nxt i ver s j off rest k = some r) :
  ∃ v u n,k v u n = some r ∧ nxt ≤ n ∧ Calls P f (cv0 :: crest).toArray w fun e w' => ∃ cv,e = .returned cv ∧ Left2 w0 L R0 (u ++ S) R Al H w n v cv w' := by
 have hx := hi.ctx
 unfold callS at h
 split at h
 ·rename_i t0 e0 ver' xs hr
  obtain ⟨hc,h'⟩ := chk_some h
  clear h
  simp only [Bool.and_eq_true] at hc
  have hc1 := Nat.eq_of_beq_eq_true hc.1
  have hc2 := Nat.eq_of_beq_eq_true hc.2
  subst hc1 hc2
  cases hj : xs[j]? with
  | none => rw [hj] at h'; cases h'
  | some x =>
   rw [hj] at h'
   simp only [Option.bind_some] at h'
   split at h'
   ·rename_i t e hown
    split at h'
    ·rename_i ys hget
     split at h'
     ·rename_i y m hargs
      obtain ⟨hcc,h2⟩ := chk_some h'
      clear h'
      simp only [Bool.and_eq_true,Bool.not_eq_true'] at hcc
      obtain ⟨⟨c1,c2⟩,c3⟩ := hcc
      have c1 := (Nat.eq_of_beq_eq_true c1).symm
      subst c1
      cases hq : F.run y with
      | none => rw [hq] at h2; cases h2
      | some q =>
       rw [hq] at h2
       simp only [Option.bind_some] at h2
       -- the row,its element,its head
       obtain ⟨hali,hrp,hver,hhd⟩ := nrow_ok hx hr
       have hjl : j < xs.length := (List.getElem?_eq_some_iff.1 hj).1
       obtain ⟨fl,ho,hcg,hlst⟩ := rp_row hrp
       obtain ⟨g,n,c,q1,q4,q6⟩ := rp_seg hx (e := e0) (xs := xs) ho hjl
       have q5 := Lst.get (s := e0.size) (fun j x c hx => Rp.length _ _ _ _ hx) xs 0 fl hlst j x hj
       rw [Nat.zero_add] at q5
       have hcell := Heads.elem hrp hhd q1 hjl q4 q6 off (by rw [hown]; rfl)
       obtain ⟨v0,f1,f2⟩ := ownAt_path e0 off t e hown x ys hget i [j] _ q5
       obtain ⟨sq,hsf⟩ := pathAt_snoc e0 off [j]
       have hcv0 : v0 = cv0 := by
        rw [hcell] at f1
        simp only [Option.some.injEq] at f1
        simp only [AV] at hv
        rw [← f1,← hv.2.2]
       subst hcv0
       generalize hsfe : pathAt e0 off [j] = sf at f2 hsf
       have hown1 : ∃ fl,Own w t e.size v0 ys.length fl := by
        obtain ⟨v',fl,he,ho,_⟩ := f2
        simp only [List.cons.injEq,and_true] at he
        rw [he]; exact ⟨fl,ho⟩
       obtain ⟨flv,hown1⟩ := hown1
       obtain ⟨hv',hv1,hvh⟩ := Heads.make hown1
       have hone0 : v0.oneCell' = true := by simp only [AV] at hv; exact hv.2.1
       -- the focus
       let C1 : Col := fun b => match C b with
        | some (i',p) => if i' = i then (match aheadOf sf p with | some r => some (nxt,r) | none => some (i,p)) else some (i',p)
        | none => none
       let Al1 : Nat → Prop := fun l => Al l ∨ l = nxt ∨ l = nxt + 1
       let H1 : Nat → Value := fun l => if l = nxt then v0 else if l = nxt + 1 then hv' else H l
       have hA : ∀ l,Al l → Al1 l ∧ H1 l = H l := fun l hl => ⟨.inl hl,by have := hn l hl; simp only [H1]; rw [if_neg (by omega),if_neg (by omega)]⟩
       have hH1 : H1 nxt = v0 := by simp [H1]
       have hH2 : H1 (nxt + 1) = hv' := by simp [H1]
       have hC1f : ∀ b r,C b = some (i,r ++ sf) → C1 b = some (nxt,r) := fun b r hb => by simp only [C1,hb,if_true,aheadOf_append]
       have hC1o : ∀ b p,C b = some (i,p) → (∀ r,p ≠ r ++ sf) → C1 b = some (i,p) := fun b p hb hne => by
        simp only [C1,hb,if_true]
        cases ha : aheadOf sf p with
        | none => rfl
        | some r => exact absurd (aheadOf_some ha) (hne r)
       have hC1n : ∀ b l p,l ≠ i → C b = some (l,p) → C1 b = some (l,p) := fun b l p hl hb => by simp only [C1,hb]; rw [if_neg hl]
       have hin : i < nxt := hn i hali
       have hS1 : ∃ S1 : Upd,S1 = ((nxt,lentE nxt t e ys) :: (nxt + 1,Ent.ver) :: (i,Ent.dead) :: S) := ⟨_,rfl⟩
       obtain ⟨S1,hS1⟩ := hS1
       rw [← hS1] at hargs
       have hRm : ∀ b,R b → R b ∧ w.heap[b]? = w.heap[b]? := fun b hb => ⟨hb,rfl⟩
       have hrpm : Rp w C1 R nxt (.sl (some t) e) ys [] [v0] := Rp.move hRm _ _ sf [] _ (fun b r hb => ⟨by rw [List.append_nil]; exact hC1f b r hb,rfl⟩) f2
       obtain ⟨i1,mono1⟩ := hi.upd (w' := w) (S' := S1) (C' := C1) (Al' := Al1) (H' := H1) (fun l => l = nxt ∨ l = nxt + 1 ∨ l = i) (fun _ => False) rfl rfl rfl (Nat.le_refl _) (fun b _ _ => rfl) (fun b hd => hd.elim)
        (fun b l p hl => by
         have hli : l ≠ i := fun h => hl (.inr (.inr h))
         constructor
         ·intro h
          simp only [C1] at h
          cases hcb : C b with
          | none => rw [hcb] at h; cases h
          | some lp =>
           obtain ⟨l',p'⟩ := lp
           rw [hcb] at h
           simp only at h
           by_cases hl' : l' = i
           ·rw [if_pos hl'] at h
            split at h
            ·simp only [Option.some.injEq,Prod.mk.injEq] at h; exact absurd (.inl h.1.symm) hl
            ·simp only [Option.some.injEq,Prod.mk.injEq] at h; exact absurd h.1.symm hli
           ·rw [if_neg hl'] at h; exact h
         ·exact hC1n b l p hli)
        (fun b l p hl h => by
         simp only [C1] at h
         cases hcb : C b with
         | none => rw [hcb] at h; cases h
         | some lp =>
          obtain ⟨l',p'⟩ := lp
          have hcol := hi.col b l' p' hcb
          refine ⟨?_,hcol.2.1,hcol.2.2,fun hr => by rw [(hi.rd b hr).2.1] at hcb; cases hcb⟩
          rw [hcb] at h
          simp only at h
          by_cases hl' : l' = i
          ·rw [if_pos hl'] at h
           split at h
           ·simp only [Option.some.injEq,Prod.mk.injEq] at h; exact .inr (.inl h.1.symm)
           ·simp only [Option.some.injEq,Prod.mk.injEq] at h; rw [← h.1]; exact .inl hali
          ·rw [if_neg hl'] at h
           simp only [Option.some.injEq,Prod.mk.injEq] at h
           rw [← h.1]; exact .inl hcol.1)
        hA (fun l hl hal => by
         rcases hl with hl | hl | hl
         ·exact absurd hl hal
         ·rw [hl,hH1]; exact hone0
         ·rw [hl,hH2]; exact hv1)
        (fun l hl => by rw [hS1,getS_cons_ne _ _ (fun h => hl (.inl h)),getS_cons_ne _ _ (fun h => hl (.inr (.inl h))),getS_cons_ne _ _ (fun h => hl (.inr (.inr h)))])
        (fun l hl => by
         rw [hS1]
         by_cases h1 : l = nxt
         ·subst h1
          rw [getS_cons_self]
          unfold lentE
          cases hro : e.ro
          ·simp only [EntOK]
           rw [hH1,hH2]
           exact ⟨hrpm,.inr (.inr rfl),hvh⟩
          ·simp only [EntOK]
           rw [hH1]
           exact hrpm
         ·rw [getS_cons_ne _ _ h1]
          by_cases h2 : l = nxt + 1
          ·subst h2; rw [getS_cons_self]; trivial
          ·rw [getS_cons_ne _ _ h2]
           rcases hl with hl | hl | hl
           ·exact absurd hl h1
           ·exact absurd hl h2
           ·rw [hl,getS_cons_self]; trivial)
        (fun l hl => by
         rcases hl with rfl | rfl | rfl
         ·exact .inr (.inl rfl)
         ·exact .inr (.inr rfl)
         ·exact .inl hali)
       have hn1 : ∀ l,Al1 l → l < nxt + 2 := fun l hl => by
        rcases hl with hl | hl | hl
        ·have := hn l hl; omega
        ·omega
        ·omega
       have hav : AVs w (RRd (!shareF F) S1 C1 R) Al1 H1 (.ref nxt :: rest) (v0 :: crest) := by
        simp only [AVs,AV]
        refine ⟨v0,crest,rfl,⟨.inr (.inl rfl),hH1.symm⟩,?_⟩
        exact AVs.mono (fun b hb => ⟨RRd.of hb,rfl⟩) hA _ _ hvs
       have hcall := call_ok (nx := nxt + 2) i1 hKp hn1 hF hav (x := y) (is := [nxt]) (by rw [c3]; exact hargs) (by simp) c2 hq
       -- what came of what was lent
       generalize hres : results F.rs (hands F.ps) [nxt] q (nxt + 2) = res at h2 hcall
       have hnres : nxt + 2 ≤ res.2.2 := by rw [← hres]; exact results_nxt _ _ _ _ _
       obtain ⟨cs,u,n'⟩ := res
       dsimp only at h2 hcall hnres
       have fin : ∀ (e' : Kd) (zs : List e'.ty) (x' : e0.ty),putC e0 x off e' zs = some x' → (∀ (w' : World) (C' : Col) (R' Al' : Nat → Prop) (H' : Nat → Value),EntOK w' C' R' Al' H' nxt (getS u nxt) → Rp w' C' R' nxt (.sl (some t) e') zs [] [H' nxt]) → (∃ p ∈ u,p.1 = nxt) → k (packV cs) ((i,.nrow t0 e0 ver' (xs.set j x')) :: (nxt,.dead) :: u) n' = some r →
         ∃ v u n,k v u n = some r ∧ nxt ≤ n ∧ Calls P f (v0 :: crest).toArray w fun e w' => ∃ cv,e = .returned cv ∧ Left2 w0 L R0 (u ++ S) R Al H w n v cv w' := by
        intro e' zs x' hput hent hmem hk
        have hee : e' = e := by
         have key : ∀ (k : Kd) (o : Nat),ownAt k o = some (t,e) → ∀ (x x' : k.ty),putC k x o e' zs = some x' → e' = e := by
          intro k
          induction k with
          | int k => intro o h; cases o <;> simp [ownAt] at h
          | bool => intro o h; cases o <;> simp [ownAt] at h
          | str => intro o h; cases o <;> simp [ownAt] at h
          | one a ih => intro o h x x' hp; exact ih o h x x' hp
          | pair a b iha ihb =>
           intro o h x x' hp
           simp only [ownAt] at h
           simp only [putC] at hp
           cases hb : Nat.blt o a.size
           ·rw [hb] at h hp
            simp only [cond_false] at h hp
            split at hp
            ·rename_i z hz; exact ihb _ h _ _ hz
            ·cases hp
           ·rw [hb] at h hp
            simp only [cond_true] at h hp
            split at hp
            ·rename_i z hz; exact iha _ h _ _ hz
            ·cases hp
          | sl t' e'' ih =>
           intro o h x x' hp
           cases o with
           | succ o => cases t' <;> simp [ownAt] at h
           | zero =>
            cases t' with
            | none => simp [ownAt] at h
            | some t' =>
             simp only [ownAt,Option.some.injEq,Prod.mk.injEq] at h
             simp only [putC] at hp
             rw [← h.2]
             exact (castL_some hp).1
         exact key e0 off hown x x' hput
        subst hee
        refine ⟨_,_,n',hk,by omega,hcall.mono ?_⟩
        rintro ed w' ⟨cv,rfl,⟨C2,R2,Al2,H2,g1,g2,g3,g4,g5,g6,g7,g8,g9⟩,_⟩
        refine ⟨cv,rfl,?_⟩
        let C3 : Col := fun b => match C2 b with
         | some (l,p) => if l = nxt then some (i,p ++ sf) else some (l,p)
         | none => none
        have hC3 : ∀ b l p,l ≠ nxt → C2 b = some (l,p) → C3 b = some (l,p) := fun b l p hl hb => by simp only [C3,hb]; rw [if_neg hl]
        have hC3n : ∀ b p,C2 b = some (nxt,p) → C3 b = some (i,p ++ sf) := fun b p hb => by simp only [C3,hb,if_true]
        have al1 : ∀ l,Al l → Al2 l ∧ H2 l = H l := fun l hl => ⟨(g7 l (hA l hl).1).1,((g7 l (hA l hl).1).2).trans (hA l hl).2⟩
        have old : ∀ b p,C b = some (i,p) → (∀ r,p ≠ r ++ sf) → C3 b = some (i,p) ∧ w'.heap[b]? = w.heap[b]? := fun b p hb hne => by
         have := g5 b i p (hC1o b p hb hne) (by simp; omega)
         exact ⟨hC3 b i p (by omega) this.1,this.2⟩
        have hsfne : ∀ r : List Nat,[] ≠ r ++ sf := by
         intro r he; rw [hsf] at he; simp at he
        have hg3 : ∀ g',ownB (H i) = some g' → C3 g' = some (i,[]) ∧ w'.heap[g']? = w.heap[g']? := fun g' hg' => old g' [] (hcg g' hg') hsfne
        have hHi : H2 i = H i := (al1 i hali).2
        have hHv : H2 ver' = H ver' := (al1 ver' hver).2
        have hnewRp : Rp w' C3 R2 i (.sl (some t) e') zs sf [v0] := by
         have h1 := g1.ent nxt
         rw [getS_append_left hmem] at h1
         have h2 := hent _ _ _ _ _ h1
         rw [show H2 nxt = v0 from ((g7 nxt (.inr (.inl rfl))).2).trans hH1] at h2
         exact Rp.move (fun b hb => ⟨hb,rfl⟩) _ _ [] sf _ (fun b r hb => ⟨by rw [List.append_nil] at hb; exact hC3n b r hb,rfl⟩) h2
        have hR2 : ∀ b,R b → R2 b ∧ w'.heap[b]? = w.heap[b]? := g6
        have hentI : EntOK w' C3 R2 Al2 H2 i (.nrow t0 e0 ver' (xs.set j x')) := by
         simp only [EntOK]
         rw [hHi,hHv,List.length_set]
         refine ⟨⟨H i,fl,rfl,?_,fun g' hg' => (hg3 g' hg').1,?_⟩,(al1 ver' hver).1,hhd.mono fun g' hg' => (hg3 g' hg').2⟩
         ·rw [List.length_set]
          refine ⟨ho.1,?_⟩
          rcases ho.2 with h0 | ⟨g',cap,cur,hv'',hb',hg',rr⟩
          ·exact .inl h0
          ·exact .inr ⟨g',cap,cur,hv'',hb',by rw [(hg3 g' (by rw [hv'']; exact ownB_of hb')).2]; exact hg',rr⟩
         ·refine Lst.change (s := e0.size) (fun j x c hx => Rp.length _ _ _ _ hx) xs 0 j fl hlst (fun l z c hl hz => ?_) (fun z c hz hzr hcs => ?_)
          ·refine Rp.move hR2 e0 z [l] [l] c (fun b r hb => old b _ hb (fun r' he => ?_)) hz
           rw [hsf] at he
           have : r ++ l :: [] = r' ++ (sq ++ j :: []) := he
           have := snoc_ne this
           omega
          ·rw [Nat.zero_add] at hzr ⊢
           rw [hj] at hz
           simp only [Option.some.injEq] at hz
           subst hz
           refine putC_ok hR2 e0 off t e' hown x x' zs hput [j] c v0 hzr (by rw [hcs]; exact f1) (fun b r hb hne => ?_) (by rw [hsfe]; exact hnewRp)
           exact old b _ hb (fun r' he => hne r' (by rw [hsfe]; exact he))
        let mono3 : ∀ y c,AV w R Al H y c → AV w' R2 Al2 H2 y c := fun y c hy => g4 y c (mono1 y c hy)
        refine ⟨C3,R2,Al2,H2,⟨g1.os,g1.tape,g1.output,g1.size,g1.frame,?_,?_,g1.rd0,?_,?_,g1.one,g1.pin⟩,g2,g3,mono3⟩
        ·intro b l p hb
         simp only [C3] at hb
         cases hc2 : C2 b with
         | none => rw [hc2] at hb; cases hb
         | some lp =>
          obtain ⟨l',p'⟩ := lp
          rw [hc2] at hb
          simp only at hb
          have hcol := g1.col b l' p' hc2
          by_cases hl : l' = nxt
          ·rw [if_pos hl] at hb
           simp only [Option.some.injEq,Prod.mk.injEq] at hb
           rw [← hb.1]
           exact ⟨(al1 i hali).1,hcol.2⟩
          ·rw [if_neg hl] at hb
           simp only [Option.some.injEq,Prod.mk.injEq] at hb
           rw [← hb.1]
           exact hcol
        ·intro b hb
         have := g1.rd b hb
         exact ⟨this.1,by simp only [C3,this.2.1],this.2.2⟩
        ·intro l
         show EntOK w' C3 R2 Al2 H2 l (getS ((i,Ent.nrow t0 e0 ver' (xs.set j x')) :: (nxt,Ent.dead) :: (u ++ S)) l)
         by_cases hli : l = i
         ·subst hli; rw [getS_cons_self]; exact hentI
         ·rw [getS_cons_ne _ _ hli]
          by_cases hln : l = nxt
          ·subst hln; rw [getS_cons_self]; trivial
          ·rw [getS_cons_ne _ _ hln]
           have hent1 := g1.ent l
           have conv : ∀ en,EntOK w' C2 R2 Al2 H2 l en → EntOK w' C3 R2 Al2 H2 l en := fun en h => EntOK.mono (fun b hb => ⟨hb,rfl⟩) (fun j hj => ⟨hj,rfl⟩) rfl (fun b p hb => ⟨hC3 b l p hln hb,rfl⟩) en h
           by_cases hmu : ∃ p ∈ u,p.1 = l
           ·rw [getS_append_left hmu] at hent1 ⊢
            exact conv _ hent1
           ·have hne : ∀ p ∈ u,p.1 ≠ l := fun p hp he => hmu ⟨p,hp,he⟩
            rw [getS_append_right hne] at hent1 ⊢
            rw [hS1,getS_cons_ne _ _ hln] at hent1
            by_cases hlv : l = nxt + 1
            ·have : getS S l = .dead := Classical.byContradiction fun hd => by
              have := hn l (hi.al l hd); omega
             rw [this]; trivial
            ·rw [getS_cons_ne _ _ hlv,getS_cons_ne _ _ hli] at hent1
             exact conv _ hent1
        ·intro l hl
         have hl' : getS ((i,Ent.nrow t0 e0 ver' (xs.set j x')) :: (nxt,Ent.dead) :: (u ++ S)) l ≠ .dead := hl
         by_cases hli : l = i
         ·rw [hli]; exact (al1 i hali).1
         ·rw [getS_cons_ne _ _ hli] at hl'
          by_cases hln : l = nxt
          ·subst hln; rw [getS_cons_self] at hl'; exact absurd rfl hl'
          ·rw [getS_cons_ne _ _ hln] at hl'
           by_cases hmu : ∃ p ∈ u,p.1 = l
           ·refine g1.al l ?_
            rw [getS_append_left hmu] at hl' ⊢
            exact hl'
           ·rw [getS_append_right (fun p hp he => hmu ⟨p,hp,he⟩)] at hl'
            exact (al1 l (hi.al l hl')).1
       have hmem : ∀ en,getS u nxt = en → en ≠ .dead → ∃ p ∈ u,p.1 = nxt := by
        intro en hg hne
        refine Classical.byContradiction fun hno => hne ?_
        rw [← hg]
        have := getS_append_right (u := u) (S := ([] : Upd)) (i := nxt) (fun p hp he => hno ⟨p,hp,he⟩)
        rw [List.append_nil] at this
        rw [this]; rfl
       split at h2
       ·rename_i t' e' zs hu
        split at h2
        ·rename_i x' hput
         obtain ⟨ht,h3⟩ := chk_some h2
         have ht := Nat.eq_of_beq_eq_true ht
         subst ht
         exact fin e' zs x' hput (fun w' C' R' Al' H' hent => by rw [hu] at hent; exact hent) (hmem _ hu (by simp)) h3
        ·cases h2
       ·rename_i t' e' ver2 zs hu
        split at h2
        ·rename_i x' hput
         obtain ⟨ht,h3⟩ := chk_some h2
         have ht := Nat.eq_of_beq_eq_true ht
         subst ht
         exact fin e' zs x' hput (fun w' C' R' Al' H' hent => by rw [hu] at hent; exact hent.1) (hmem _ hu (by simp)) h3
        ·cases h2
       ·cases h2
     ·cases h'
    ·cases h'
   ·cases h'
 ·cases h
end
end Go.Rv
