/- A function of which the evaluator gives a value returns it; the rows of laws. No condition. -/
import Derived.Test.YtjamkpjjlpmofaaGreatRvX
import Derived.Shelf.Small.Strs
import Derived.Carry
import Derived.ChangeOld
import Derived.ChangeShapes
import Derived.ChangeCalls
import Derived.RowKit
import Derived.Below
namespace Go.Rv

def Piece (E : Nat → Ent → Prop) (u : Upd) (K : Nat → Prop) : Prop := (∀ p ∈ u,K p.1) ∧ ∀ i,K i → (∃ p ∈ u,p.1 = i) ∧ E i (getS u i)

theorem Piece.append {E : Nat → Ent → Prop} {u1 u2 : Upd} {K1 K2 : Nat → Prop} (h1 : Piece E u1 K1) (h2 : Piece E u2 K2) : Piece E (u1 ++ u2) (fun i => K1 i ∨ K2 i) := by
 refine ⟨fun p hp => ?_,fun i hi => ?_⟩
 ·rcases List.mem_append.1 hp with hp | hp
  ·exact .inl (h1.1 p hp)
  ·exact .inr (h2.1 p hp)
 ·by_cases hk : ∃ p ∈ u1,p.1 = i
  ·obtain ⟨p,hp,rfl⟩ := hk
   refine ⟨⟨p,List.mem_append.2 (.inl hp),rfl⟩,?_⟩
   rw [getS_append_left ⟨p,hp,rfl⟩]
   exact (h1.2 _ (h1.1 p hp)).2
  ·have hk2 : K2 i := by
    rcases hi with hi | hi
    ·exact absurd (h1.2 i hi).1 hk
    ·exact hi
   obtain ⟨⟨p,hp,he⟩,h3⟩ := h2.2 i hk2
   refine ⟨⟨p,List.mem_append.2 (.inr hp),he⟩,?_⟩
   rw [getS_append_right (fun p hp he => hk ⟨p,hp,he⟩)]
   exact h3

theorem Piece.one {E : Nat → Ent → Prop} {i : Nat} {e : Ent} (h : E i e) : Piece E [(i,e)] (fun j => j = i) :=
 ⟨fun p hp => by simp only [List.mem_singleton] at hp; rw [hp],fun j hj => ⟨⟨_,List.mem_singleton.2 rfl,hj.symm⟩,by subst hj; rw [getS_cons_self]; exact h⟩⟩

theorem Piece.congr {E : Nat → Ent → Prop} {u : Upd} {K K' : Nat → Prop} (h : Piece E u K) (hk : ∀ i,K i ↔ K' i) : Piece E u K' :=
 ⟨fun p hp => (hk _).1 (h.1 p hp),fun i hi => h.2 i ((hk i).2 hi)⟩

section
variable {w : World} {S : Upd} {C C' : Col} {R Al Al' : Nat → Prop} {H H' : Nat → Value}

theorem rows_piece {E : Nat → Ent → Prop} {u : Upd} {nx n : Nat} (h1 : ∀ p ∈ u,nx ≤ p.1 ∧ p.1 < nx + n) (h2 : ∀ q,q < n → (∃ p ∈ u,p.1 = nx + q) ∧ E (nx + q) (getS u (nx + q))) : Piece E u (fun i => nx ≤ i ∧ i < nx + n) :=
 ⟨h1,fun i hi => by have := h2 (i - nx) (by omega); rwa [show nx + (i - nx) = i from by omega] at this⟩

theorem takeV_res (hx : Ctx w C R Al H S) {k : Kd} {v : AVal} {c : Value} {x : k.ty} {ids : List (Option Nat)} (h : takeV S k v = some (x,ids)) (hv : AV w R Al H v c) {nx : Nat} (hm : Moves C C' H H' ids nx) (hal : ∀ q,q < ids.length → Al' (nx + q)) :
  ∃ cs u,resCells k x nx = (cs,u,nx + ids.length) ∧ AV w R Al' H' (valOf k cs) c ∧ Piece (EntOK w C' R Al' H') u (fun i => nx ≤ i ∧ i < nx + ids.length) := by
 obtain ⟨h1,h2,h3⟩ := takeV_some h
 have hsc := solid_cells hv h3 (fun i hi => one_cells (hx.one i hi))
 obtain ⟨cc,r,cs',u,e1,e2,e3,e4,e5,e6,e7⟩ := takeCells_res (C' := C') (Al' := Al') (H' := H') hx k _ _ _ _ h1 _ hsc nx hm hal
 simp only [AVs] at e4
 subst e4
 rw [List.append_nil] at e2
 exact ⟨cs',u,e1,valOf_ok (k := k) hv hx.one h2 h3 (by rw [e2]; exact e3) e5,rows_piece e6 e7⟩

theorem endBox_ok {st : St} (hx : Ctx w C R Al H st.sto) {b : BK} {i : Nat} {x : b.kd.ty} {ids : List (Option Nat)} (h : endBox st b i = some (x,ids)) {j : Nat} (hj : b.isOwn = false → Al' j ∧ H' j = H i ∧ ∀ g p,C g = some (i,p) → C' g = some (j,p)) {nx : Nat} (hm : Moves C C' H H' ids nx) (hal : ∀ q,q < ids.length → Al' (nx + q)) :
  ∃ u,resBox b j x nx = (u,nx + ids.length) ∧ Piece (EntOK w C' R Al' H') u (fun l => (nx ≤ l ∧ l < nx + ids.length) ∨ l = j) := by
 cases b with
 | box k =>
  simp only [endBox] at h
  split at h
  ·rename_i cs hcs
   split at h
   ·rename_i x' is htk
    obtain ⟨rfl,rfl⟩ := Prod.mk.inj (Option.some.inj h)
    obtain ⟨_,hjH,hjC⟩ := hj rfl
    obtain ⟨hal0,b',cells,T,q1,q2,q3,q4⟩ := box_ok hx hcs
    obtain ⟨cc,r,cs',u,e1,e2,e3,e4,e5,e6,e7⟩ := takeCells_res (C' := C') (Al' := Al') (H' := H') hx k _ _ _ _ htk _ q4 nx hm hal
    simp only [AVs] at e4
    subst e4
    rw [List.append_nil] at e2
    refine ⟨(j,.box cs') :: u,by simp only [resBox,e1],((Piece.one (E := EntOK w C' R Al' H') (i := j) (e := .box cs') ⟨b',cells,T,hjH.trans q1,hjC _ _ q2,q3,by rw [e2]; exact e3⟩).append (rows_piece e6 e7)).congr fun l => ?_⟩
    constructor
    ·rintro (h | h)
     ·exact .inr h
     ·exact .inl h
    ·rintro (h | h)
     ·exact .inr h
     ·exact .inl h
   ·cases h
  ·cases h
 | row t e =>
  obtain ⟨_,hjH,hjC⟩ := hj rfl
  simp only [endBox] at h
  split at h
  ·rename_i t' e' xs' hr
   cases hb : (Nat.beq t' t && e.ro)
   ·rw [hb] at h; cases h
   ·rw [hb] at h
    simp only [cond_true] at h
    simp only [Bool.and_eq_true] at hb
    split at h
    ·rename_i ys hy
     obtain ⟨rfl,rfl⟩ := Prod.mk.inj (Option.some.inj h)
     obtain ⟨he',hys⟩ := castL_some hy
     subst he'
     simp only at hys
     subst hys
     have ht := Nat.eq_of_beq_eq_true hb.1
     subst ht
     have hent := hx.ent i
     rw [hr] at hent
     refine ⟨[(j,.row t' e' xs')],by simp only [resBox,hb.2]; rfl,(Piece.one (E := EntOK w C' R Al' H') (i := j) (e := .row t' e' xs') ?_).congr fun l => by simp; omega⟩
     simp only [EntOK] at hent ⊢
     rw [hjH]
     exact Rp.mono [] (fun b hb => ⟨hb,rfl⟩) (fun b p hb => ⟨by simpa using hjC b p hb,rfl⟩) _ _ [] _ hent
    ·cases h
  ·rename_i t' e' ver xs' hr
   cases hb : (Nat.beq t' t && !e.ro)
   ·rw [hb] at h; cases h
   ·rw [hb] at h
    simp only [cond_true] at h
    simp only [Bool.and_eq_true,Bool.not_eq_true'] at hb
    split at h
    ·rename_i ys hy
     obtain ⟨rfl,rfl⟩ := Prod.mk.inj (Option.some.inj h)
     obtain ⟨he',hys⟩ := castL_some hy
     subst he'
     simp only at hys
     subst hys
     have ht := Nat.eq_of_beq_eq_true hb.1
     subst ht
     obtain ⟨_,hrp,hver,hhd⟩ := nrow_ok hx hr
     have hm1 := (hm 0 (some ver) rfl).2
     rw [Nat.add_zero] at hm1
     have hal0 := hal 0 (by simp)
     rw [Nat.add_zero] at hal0
     refine ⟨[(j,.nrow t' e' nx xs'),(nx,.ver)],by simp only [resBox,hb.2]; rfl,((Piece.one (E := EntOK w C' R Al' H') (i := j) (e := .nrow t' e' nx xs') ?_).append (Piece.one (E := EntOK w C' R Al' H') (i := nx) (e := .ver) trivial)).congr fun l => by simp; omega⟩
     simp only [EntOK]
     rw [hjH,hm1]
     exact ⟨Rp.mono [] (fun b hb => ⟨hb,rfl⟩) (fun b p hb => ⟨by simpa using hjC b p hb,rfl⟩) _ _ [] _ hrp,hal0,hhd⟩
    ·cases h
  ·cases h
 | own =>
  simp only [endBox] at h
  obtain ⟨rfl,rfl⟩ := Prod.mk.inj (Option.some.inj h)
  exact ⟨[(j,.dead)],rfl,(Piece.one (E := EntOK w C' R Al' H') (i := j) (e := .dead) trivial).congr fun l => by simp; omega⟩

theorem endBoxes_ok {st : St} (hx : Ctx w C R Al H st.sto) : ∀ (bs : List BK) (i : Nat) (x : Tup (bs.map BK.kd)) (ids : List (Option Nat)),endBoxes st bs i = some (x,ids) → ∀ (is2 : List Nat) (nx : Nat),is2.length = bs.length →
  (∀ (q : Nat) (b : BK) (j : Nat),bs[q]? = some b → is2[q]? = some j → b.isOwn = false → Al' j ∧ H' j = H (i + q) ∧ ∀ g p,C g = some (i + q,p) → C' g = some (j,p)) → Moves C C' H H' ids nx → (∀ q,q < ids.length → Al' (nx + q)) →
  ∃ u,resBoxes bs is2 x nx = (u,nx + ids.length) ∧ Piece (EntOK w C' R Al' H') u (fun l => (nx ≤ l ∧ l < nx + ids.length) ∨ l ∈ is2)
 | [],i,x,ids,h,is2,nx,hl,hp,hm,hal => by
  simp only [endBoxes,Option.some.injEq,Prod.mk.injEq] at h
  obtain ⟨_,rfl⟩ := h
  have : is2 = [] := List.eq_nil_of_length_eq_zero hl
  subst this
  exact ⟨[],rfl,by simp,fun l hl => by simp at hl; omega⟩
 | [b],i,x,ids,h,is2,nx,hl,hp,hm,hal => by
  match is2,hl with
  | [j],_ =>
   obtain ⟨u,e1,e2⟩ := endBox_ok (b := b) hx h (j := j) (fun ho => hp 0 b j rfl rfl ho) hm hal
   refine ⟨u,?_,e2.congr fun l => by simp⟩
   exact e1
 | b :: b' :: bs,i,x,ids,h,is2,nx,hl,hp,hm,hal => by
  simp only [endBoxes] at h
  split at h
  ·rename_i x' is h1
   split at h
   ·rename_i y js hy
    obtain ⟨rfl,rfl⟩ := Prod.mk.inj (Option.some.inj h)
    match is2,hl with
    | j :: is2,hl =>
     simp only [List.length_append] at hal
     obtain ⟨u,e1,e2⟩ := endBox_ok (b := b) hx h1 (j := j) (fun ho => hp 0 b j rfl rfl ho) hm.left (fun q hq => hal q (by omega))
     obtain ⟨u',f1,f2⟩ := endBoxes_ok hx (b' :: bs) (i + 1) y js hy is2 (nx + is.length) (by simpa using hl) (fun q b2 j2 hb2 hj2 ho => by
      have := hp (q + 1) b2 j2 (by simpa using hb2) (by simpa using hj2) ho
      rwa [show i + (q + 1) = i + 1 + q from by omega] at this) hm.right (fun q hq => by rw [Nat.add_assoc]; exact hal _ (by omega))
     refine ⟨u' ++ u,?_,(f2.append e2).congr fun l => ?_⟩
     ·simp only [resBoxes,List.headD_cons,e1,List.tail_cons,f1,List.length_append,Nat.add_assoc]
     ·simp only [List.length_append,List.mem_cons]
      constructor
      ·rintro ((h | h) | (h | h))
       ·exact .inl ⟨by omega,by omega⟩
       ·exact .inr (.inr h)
       ·exact .inl ⟨by omega,by omega⟩
       ·exact .inr (.inl h)
      ·rintro (h | (h | h))
       ·by_cases hlt : l < nx + is.length
        ·exact .inr (.inl ⟨by omega,by omega⟩)
        ·exact .inl (.inl ⟨by omega,by omega⟩)
       ·exact .inr (.inr h)
       ·exact .inl (.inr h)
   ·cases h
  ·cases h

theorem endVs_ok {st : St} (hx : Ctx w C R Al H st.sto) {is2 : List Nat} : ∀ (rs : List Kd) (bs : List BK) (vs : List AVal) (cvs : List Value) (x : Tup (rs ++ bs.map BK.kd)) (ids : List (Option Nat)),AVs w R Al H vs cvs → endVs st rs bs vs = some (x,ids) → ∀ (nx : Nat),is2.length = bs.length →
  (∀ (q : Nat) (b : BK) (j : Nat),bs[q]? = some b → is2[q]? = some j → b.isOwn = false → Al' j ∧ H' j = H q ∧ ∀ g p,C g = some (q,p) → C' g = some (j,p)) → Moves C C' H H' ids nx → (∀ q,q < ids.length → Al' (nx + q)) →
  ∃ vals u,results rs bs is2 x nx = (vals,u,nx + ids.length) ∧ AVs w R Al' H' vals cvs ∧ Piece (EntOK w C' R Al' H') u (fun l => (nx ≤ l ∧ l < nx + ids.length) ∨ l ∈ is2)
 | [],bs,vs,cvs,x,ids,hv,h,nx,hl,hp,hm,hal => by
  cases vs with
  | cons v vs => simp [endVs] at h
  | nil =>
   simp only [AVs] at hv
   subst hv
   simp only [endVs] at h
   obtain ⟨u,f1,f2⟩ := endBoxes_ok (Al' := Al') hx bs 0 x ids h is2 nx hl (fun q b j hb hj ho => by simpa using hp q b j hb hj ho) hm hal
   refine ⟨[],u,?_,by simp [AVs],f2⟩
   simp only [results,f1]
 | [r],[],vs,cvs,x,ids,hv,h,nx,hl,hp,hm,hal => by
  cases vs with
  | nil => simp [endVs] at h
  | cons v vs =>
   cases vs with
   | cons v' vs => simp [endVs] at h
   | nil =>
    simp only [AVs] at hv
    obtain ⟨c,rr,rfl,h2,rfl⟩ := hv
    simp only [endVs] at h
    obtain ⟨cs,u,e1,e2,e3⟩ := takeV_res (C' := C') (H' := H') (Al' := Al') hx h h2 hm hal
    have : is2 = [] := List.eq_nil_of_length_eq_zero hl
    subst this
    refine ⟨[valOf r cs],u,?_,by simp only [AVs]; exact ⟨_,_,rfl,e2,rfl⟩,e3.congr fun l => by simp⟩
    simp only [results]
    rw [e1]
 | [r],b :: bs,vs,cvs,x,ids,hv,h,nx,hl,hp,hm,hal => by
  cases vs with
  | nil => simp [endVs] at h
  | cons v vs =>
   cases vs with
   | cons v' vs => simp [endVs] at h
   | nil =>
    simp only [AVs] at hv
    obtain ⟨c,rr,rfl,h2,rfl⟩ := hv
    simp only [endVs] at h
    split at h
    ·rename_i y is hy
     split at h
     ·rename_i z js hz
      obtain ⟨rfl,rfl⟩ := Prod.mk.inj (Option.some.inj h)
      simp only [List.length_append] at hal
      obtain ⟨cs,u,e1,e2,e3⟩ := takeV_res (C' := C') (H' := H') (Al' := Al') hx hy h2 hm.left (fun q hq => hal q (by omega))
      obtain ⟨u',f1,f2⟩ := endBoxes_ok hx (b :: bs) 0 z js hz is2 (nx + is.length) hl (fun q b j hb hj ho => by simpa using hp q b j hb hj ho) hm.right (fun q hq => by rw [Nat.add_assoc]; exact hal _ (by omega))
      refine ⟨[valOf r cs],u' ++ u,?_,by simp only [AVs]; exact ⟨_,_,rfl,e2,rfl⟩,(f2.append e3).congr fun l => ?_⟩
      ·simp only [results,e1,f1,List.length_append,Nat.add_assoc]
      ·simp only [List.length_append]
       constructor
       ·rintro ((h | h) | h)
        ·exact .inl ⟨by omega,by omega⟩
        ·exact .inr h
        ·exact .inl ⟨by omega,by omega⟩
       ·rintro (h | h)
        ·by_cases hlt : l < nx + is.length
         ·exact .inr ⟨by omega,by omega⟩
         ·exact .inl (.inl ⟨by omega,by omega⟩)
        ·exact .inl (.inr h)
     ·cases h
    ·cases h
 | r :: r' :: rs,bs,vs,cvs,x,ids,hv,h,nx,hl,hp,hm,hal => by
  cases vs with
  | nil => simp [endVs] at h
  | cons v vs =>
   simp only [AVs] at hv
   obtain ⟨c,rr,rfl,h2,h3⟩ := hv
   simp only [endVs] at h
   split at h
   ·rename_i y is hy
    split at h
    ·rename_i z js hz
     obtain ⟨rfl,rfl⟩ := Prod.mk.inj (Option.some.inj h)
     simp only [List.length_append] at hal
     obtain ⟨cs,u,e1,e2,e3⟩ := takeV_res (C' := C') (H' := H') (Al' := Al') hx hy h2 hm.left (fun q hq => hal q (by omega))
     obtain ⟨vals,u',f1,f2,f3⟩ := endVs_ok hx (r' :: rs) bs vs rr z js h3 hz (nx + is.length) hl hp hm.right (fun q hq => by rw [Nat.add_assoc]; exact hal _ (by omega))
     refine ⟨valOf r cs :: vals,u' ++ u,?_,by simp only [AVs]; exact ⟨_,_,rfl,e2,f2⟩,(f3.append e3).congr fun l => ?_⟩
     ·simp only [results,e1,f1,List.length_append,Nat.add_assoc]
     ·simp only [List.length_append]
      constructor
      ·rintro ((h | h) | h)
       ·exact .inl ⟨by omega,by omega⟩
       ·exact .inr h
       ·exact .inl ⟨by omega,by omega⟩
      ·rintro (h | h)
       ·by_cases hlt : l < nx + is.length
        ·exact .inr ⟨by omega,by omega⟩
        ·exact .inl (.inl ⟨by omega,by omega⟩)
       ·exact .inl (.inr h)
    ·cases h
   ·cases h
end
end Go.Rv
namespace Go.Rv

def FreeA (v : AVal) : Prop := ∀ (w : World) (R R' Al : Nat → Prop) (H : Nat → Value) (c : Value),AV w R Al H v c → AV w R' Al H v c
def FreeAs (v : List AVal) : Prop := ∀ (w : World) (R R' Al : Nat → Prop) (H : Nat → Value) (c : List Value),AVs w R Al H v c → AVs w R' Al H v c
def FreeE (e : Ent) : Prop := ∀ (w : World) (C : Col) (R R' Al : Nat → Prop) (H : Nat → Value) (i : Nat),EntOK w C R Al H i e → EntOK w C R' Al H i e

theorem FreeAs.cons {v : AVal} {vs : List AVal} (h : FreeA v) (h' : FreeAs vs) : FreeAs (v :: vs) := by
 intro w R R' Al H c hc
 simp only [AVs] at hc ⊢
 obtain ⟨a,r,h1,h2,h3⟩ := hc
 exact ⟨a,r,h1,h _ _ _ _ _ _ h2,h' _ _ _ _ _ _ h3⟩
theorem FreeAs.nil : FreeAs [] := fun w R R' Al H c hc => by simpa [AVs] using hc
theorem FreeAs.append {a b : List AVal} (h : FreeAs a) (h' : FreeAs b) : FreeAs (a ++ b) := by
 intro w R R' Al H c hc
 have h1 := AVs.take a.length _ _ hc
 have h2 := AVs.drop a.length _ _ hc
 rw [List.take_left] at h1
 rw [List.drop_left] at h2
 have := AVs.append _ _ _ _ (h w R R' Al H _ h1) (h' w R R' Al H _ h2)
 rwa [List.take_append_drop] at this
theorem FreeA.agg {cs : List AVal} (h : FreeAs cs) : FreeA (.agg cs) := by
 intro w R R' Al H c hc
 simp only [AV] at hc ⊢
 obtain ⟨vs,h1,h2⟩ := hc
 exact ⟨vs,h1,h _ _ _ _ _ _ h2⟩
theorem FreeA.tup {cs : List AVal} (h : FreeAs cs) : FreeA (.tup cs) := by
 intro w R R' Al H c hc
 simp only [AV] at hc ⊢
 obtain ⟨vs,h1,h2⟩ := hc
 exact ⟨vs,h1,h _ _ _ _ _ _ h2⟩

theorem row_free {t : Nat} {e : Kd} (hf : e.fresh = true) (x : List e.ty) : FreeE (.row t e x) := by
 intro w C R R' Al H i hi
 exact Rp.fresh (.sl (some t) e) hf x [] _ hi
theorem nrow_free {t v : Nat} {e : Kd} (hf : e.fresh = true) (x : List e.ty) : FreeE (.nrow t e v x) := by
 intro w C R R' Al H i hi
 exact ⟨Rp.fresh (.sl (some t) e) hf x [] _ hi.1,hi.2⟩
theorem ver_free : FreeE .ver := fun _ _ _ _ _ _ _ _ => trivial
theorem dead_free : FreeE .dead := fun _ _ _ _ _ _ _ _ => trivial
theorem rowU_free {t : Nat} {e : Kd} (hf : e.fresh = true) (x : List e.ty) (nx : Nat) : ∀ p ∈ (rowU nx t e x).1,FreeE p.2 := by
 intro p hp
 unfold rowU at hp
 split at hp
 ·simp only [List.mem_singleton] at hp
  rw [hp]; exact row_free hf x
 ·simp only [List.mem_cons,List.not_mem_nil,or_false] at hp
  rcases hp with hp | hp
  ·rw [hp]; exact nrow_free hf x
  ·rw [hp]; exact ver_free

theorem res_free : ∀ (k : Kd) (_ : k.fresh = true) (x : k.ty) (nx : Nat),FreeAs (resCells k x nx).1 ∧ (∀ p ∈ (resCells k x nx).2.1,FreeE p.2) ∧ (∀ c,(resCells k x nx).1 = [c] → FreeA c)
 | .int k,_,x,nx => by
  have h : FreeA (.int k x) := fun w R R' Al H c hc => by simpa [AV] using hc
  exact ⟨FreeAs.cons h FreeAs.nil,by simp [resCells],fun c hc => by simp only [resCells,List.cons.injEq,and_true] at hc; rw [← hc]; exact h⟩
 | .bool,_,x,nx => by
  have h : FreeA (.bool x) := fun w R R' Al H c hc => by simpa [AV] using hc
  exact ⟨FreeAs.cons h FreeAs.nil,by simp [resCells],fun c hc => by simp only [resCells,List.cons.injEq,and_true] at hc; rw [← hc]; exact h⟩
 | .str,_,x,nx => by
  have h : FreeA (.str x) := fun w R R' Al H c hc => by simpa [AV] using hc
  exact ⟨FreeAs.cons h FreeAs.nil,by simp [resCells],fun c hc => by simp only [resCells,List.cons.injEq,and_true] at hc; rw [← hc]; exact h⟩
 | .sl none e,hf,x,nx => by simp [Kd.fresh] at hf
 | .sl (some t) e,hf,x,nx => by
  have h : FreeA (.ref nx) := fun w R R' Al H c hc => by simpa [AV] using hc
  refine ⟨FreeAs.cons h FreeAs.nil,fun p hp => ?_,fun c hc => by simp only [resCells,List.cons.injEq,and_true] at hc; rw [← hc]; exact h⟩
  simp only [resCells] at hp
  exact rowU_free (e := e) hf x nx p hp
 | .one a,hf,x,nx => res_free a hf x nx
 | .pair a b,hf,x,nx => by
  have hf' : a.fresh = true ∧ b.fresh = true := by
   simp only [Kd.fresh] at hf
   cases ha : a.fresh <;> simp_all
  obtain ⟨a1,a2,_⟩ := res_free a hf'.1 x.1 nx
  obtain ⟨b1,b2,_⟩ := res_free b hf'.2 x.2 (resCells a x.1 nx).2.2
  refine ⟨a1.append b1,fun p hp => ?_,fun c hc => ?_⟩
  ·rcases List.mem_append.1 hp with hp | hp
   ·exact b2 p hp
   ·exact a2 p hp
  ·have h := a1.append b1
   have hc' : (resCells a x.1 nx).1 ++ (resCells b x.2 (resCells a x.1 nx).2.2).1 = [c] := hc
   rw [hc'] at h
   intro w R R' Al H v hv
   have := h w R R' Al H [v] (by simp only [AVs]; exact ⟨v,[],rfl,hv,rfl⟩)
   simp only [AVs] at this
   obtain ⟨v',r,e1,e2,_⟩ := this
   simp only [List.cons.injEq] at e1
   rw [e1.1]
   exact e2

theorem valOf_free {k : Kd} {x : k.ty} {nx : Nat} (hf : k.fresh = true) : FreeA (valOf k (resCells k x nx).1) := by
 obtain ⟨h1,_,h3⟩ := res_free k hf x nx
 unfold valOf
 split
 ·exact FreeA.agg h1
 ·split
  ·rename_i v hv
   exact h3 v hv
  ·intro w R R' Al H c hc; simp [AV]

theorem resBox_free (b : BK) (hf : b.fresh = true) (i : Nat) (x : b.kd.ty) (nx : Nat) : ∀ p ∈ (resBox b i x nx).1,FreeE p.2 := by
 cases b with
 | box k =>
  obtain ⟨h1,h2,_⟩ := res_free k hf x nx
  intro p hp
  simp only [resBox] at hp
  rcases List.mem_cons.1 hp with hp | hp
  ·subst hp
   rintro w C R R' Al H i ⟨g,cells,T,q1,q2,q3,q4⟩
   exact ⟨g,cells,T,q1,q2,q3,h1 _ _ _ _ _ _ q4⟩
  ·exact h2 p hp
 | row t e =>
  intro p hp
  simp only [resBox] at hp
  split at hp
  ·simp only [List.mem_singleton] at hp
   rw [hp]; exact row_free hf x
  ·simp only [List.mem_cons,List.not_mem_nil,or_false] at hp
   rcases hp with hp | hp
   ·rw [hp]; exact nrow_free hf x
   ·rw [hp]; exact ver_free
 | own =>
  intro p hp
  simp only [resBox,List.mem_singleton] at hp
  rw [hp]; exact dead_free

theorem resBoxes_free : ∀ (bs : List BK) (_ : bs.all BK.fresh = true) (is : List Nat) (x : Tup (bs.map BK.kd)) (nx : Nat),∀ p ∈ (resBoxes bs is x nx).1,FreeE p.2
 | [],_,is,x,nx => by simp [resBoxes]
 | [b],hf,is,x,nx => by
  simp only [List.all_cons,List.all_nil,Bool.and_true] at hf
  exact resBox_free b hf _ x nx
 | b :: b' :: bs,hf,is,x,nx => by
  rw [List.all_cons,Bool.and_eq_true] at hf
  have ih := resBoxes_free (b' :: bs) hf.2 is.tail x.2 (resBox b (is.headD 0) x.1 nx).2
  intro p hp
  rcases List.mem_append.1 hp with hp | hp
  ·exact ih p hp
  ·exact resBox_free b hf.1 _ _ _ p hp

theorem results_free : ∀ (rs : List Kd) (bs : List BK) (_ : rs.all Kd.fresh = true) (_ : bs.all BK.fresh = true) (is : List Nat) (x : Tup (rs ++ bs.map BK.kd)) (nx : Nat),FreeAs (results rs bs is x nx).1 ∧ ∀ p ∈ (results rs bs is x nx).2.1,FreeE p.2
 | [],bs,hf,hb,is,x,nx => ⟨FreeAs.nil,resBoxes_free bs hb is x nx⟩
 | [r],[],hf,hb,is,x,nx => by
  simp only [List.all_cons,List.all_nil,Bool.and_true] at hf
  exact ⟨FreeAs.cons (valOf_free (x := x) (nx := nx) hf) FreeAs.nil,(res_free r hf x nx).2.1⟩
 | [r],b :: bs,hf,hb,is,x,nx => by
  simp only [List.all_cons,List.all_nil,Bool.and_true] at hf
  refine ⟨FreeAs.cons (valOf_free (x := x.1) (nx := nx) hf) FreeAs.nil,fun p hp => ?_⟩
  rcases List.mem_append.1 hp with hp | hp
  ·exact resBoxes_free (b :: bs) hb _ _ _ p hp
  ·exact (res_free r hf x.1 nx).2.1 p hp
 | r :: r' :: rs,bs,hf,hb,is,x,nx => by
  rw [List.all_cons,Bool.and_eq_true] at hf
  have ih := results_free (r' :: rs) bs hf.2 hb is x.2 (resCells r x.1 nx).2.2
  refine ⟨FreeAs.cons (valOf_free (x := x.1) (nx := nx) hf.1) ih.1,fun p hp => ?_⟩
  rcases List.mem_append.1 hp with hp | hp
  ·exact ih.2 p hp
  ·exact (res_free r hf.1 x.1 nx).2.1 p hp

theorem pack_free {vs : List AVal} (h : FreeAs vs) : FreeA (packV vs) := by
 unfold packV
 split
 ·rename_i v
  intro w R R' Al H c hv
  have := h w R R' Al H [c] (by simp only [AVs]; exact ⟨c,[],rfl,hv,rfl⟩)
  simp only [AVs] at this
  obtain ⟨v',r,e1,e2,_⟩ := this
  simp only [List.cons.injEq] at e1
  rw [e1.1]
  exact e2
 ·exact FreeA.tup h

theorem getS_free {u : Upd} (h : ∀ p ∈ u,FreeE p.2) (i : Nat) : FreeE (getS u i) := by
 induction u with
 | nil => intro w C R R' Al H j hj; trivial
 | cons p u ih =>
  obtain ⟨d,e⟩ := p
  by_cases hd : i = d
  ·subst hd; rw [getS_cons_self]; exact h (i,e) (by simp)
  ·rw [getS_cons_ne _ _ hd]; exact ih (fun p hp => h p (by simp [hp]))
end Go.Rv
namespace Go.Rv

theorem idx_of {α : Type} [BEq α] [LawfulBEq α] : ∀ (l : List α) (j : α),∀ q : Nat,l[q]? = some j → (∀ a b : Nat,l[a]? = some j → l[b]? = some j → a = b) → l.idxOf? j = some q := by
 intro l
 induction l with
 | nil => intro j q h; simp at h
 | cons o r ih =>
  intro j q h hu
  rw [List.idxOf?_cons]
  by_cases ho : o = j
  ·rw [if_pos (by simpa using ho)]
   rw [hu q 0 h (by simp [ho])]
  ·rw [if_neg (by simpa using ho)]
   cases q with
   | zero => simp at h; exact absurd h ho
   | succ q =>
    rw [ih j q (by simpa using h) (fun a b ha hb => by
     have := hu (a + 1) (b + 1) (by simpa using ha) (by simpa using hb)
     omega)]
    rfl

theorem of_idx {α : Type} [BEq α] [LawfulBEq α] : ∀ (l : List α) (j : α) (q : Nat),l.idxOf? j = some q → l[q]? = some j := by
 intro l
 induction l with
 | nil => intro j q h; simp at h
 | cons o r ih =>
  intro j q h
  rw [List.idxOf?_cons] at h
  by_cases ho : o = j
  ·rw [if_pos (by simpa using ho)] at h
   simp only [Option.some.injEq] at h
   subst h ho
   rfl
  ·rw [if_neg (by simpa using ho)] at h
   cases hr : r.idxOf? j with
   | none => rw [hr] at h; simp at h
   | some q' =>
    rw [hr] at h
    simp only [Option.map_some,Option.some.injEq] at h
    subst h
    simpa using ih j q' hr

theorem nodup_inj {α : Type} {l : List α} (h : l.Nodup) {a b : Nat} {x : α} (ha : l[a]? = some x) (hb : l[b]? = some x) : a = b := by
 obtain ⟨l1,e1⟩ := List.getElem?_eq_some_iff.1 ha
 obtain ⟨l2,e2⟩ := List.getElem?_eq_some_iff.1 hb
 rcases Nat.lt_trichotomy a b with h1 | h1 | h1
 ·exact absurd (e1.trans e2.symm) (List.pairwise_iff_getElem.1 h a b l1 l2 h1)
 ·exact h1
 ·exact absurd (e2.trans e1.symm) (List.pairwise_iff_getElem.1 h b a l2 l1 h1)

theorem once_inj : ∀ {ids : List (Option Nat)},(ids.filterMap id).Nodup → ∀ (j a b : Nat),ids[a]? = some (some j) → ids[b]? = some (some j) → a = b := by
 intro ids
 induction ids with
 | nil => intro _ j a b ha; simp at ha
 | cons o r ih =>
  intro hnd j a b ha hb
  have mem : ∀ q : Nat,r[q]? = some (some j) → j ∈ r.filterMap id := fun q hq => List.mem_filterMap.2 ⟨some j,List.mem_of_getElem? hq,rfl⟩
  have hnd' : (r.filterMap id).Nodup := by
   cases o with
   | none => simpa using hnd
   | some o => simp only [List.filterMap_cons,id,List.nodup_cons] at hnd; exact hnd.2
  have hno : o = some j → j ∉ r.filterMap id := by
   intro ho
   subst ho
   simp only [List.filterMap_cons,id,List.nodup_cons] at hnd
   exact hnd.1
  cases a with
  | zero =>
   cases b with
   | zero => rfl
   | succ b =>
    simp only [List.getElem?_cons_zero,Option.some.injEq] at ha
    exact absurd (mem b (by simpa using hb)) (hno ha)
  | succ a =>
   cases b with
   | zero =>
    simp only [List.getElem?_cons_zero,Option.some.injEq] at hb
    exact absurd (mem a (by simpa using ha)) (hno hb)
   | succ b => rw [ih hnd' j a b (by simpa using ha) (by simpa using hb)]

theorem takeV_row {S : Upd} {k : Kd} {v : AVal} {x : k.ty} {ids : List (Option Nat)} (h : takeV S k v = some (x,ids)) : ∀ j,some j ∈ ids → IsRow S j :=
 takeCells_row' k _ _ _ _ (takeV_some h).1

abbrev EndB (S : Upd) (b : BK) (i : Nat) : Prop := (b.isBox = true → ∃ cs,getS S i = .box cs) ∧ (b.isBox = false → b.isOwn = false → IsRow S i)

theorem endBox_row {st : St} {b : BK} {i : Nat} {x : b.kd.ty} {ids : List (Option Nat)} (h : endBox st b i = some (x,ids)) : (∀ j,some j ∈ ids → IsRow st.sto j) ∧ EndB st.sto b i := by
 cases b with
 | box k =>
  simp only [endBox] at h
  split at h
  ·rename_i cs hcs
   split at h
   ·rename_i x' is htk
    obtain ⟨rfl,rfl⟩ := Prod.mk.inj (Option.some.inj h)
    exact ⟨takeCells_row' k _ _ _ _ htk,⟨fun _ => ⟨cs,hcs⟩,fun hb => by cases hb⟩⟩
   ·cases h
  ·cases h
 | row t e =>
  simp only [endBox] at h
  split at h
  ·rename_i t' e' xs' hr
   cases hb : (Nat.beq t' t && e.ro)
   ·rw [hb] at h; cases h
   ·rw [hb] at h
    simp only [cond_true] at h
    split at h
    ·obtain ⟨_,rfl⟩ := Prod.mk.inj (Option.some.inj h)
     exact ⟨by simp,⟨fun hb => (by cases hb),fun _ _ => IsRow.row hr⟩⟩
    ·cases h
  ·rename_i t' e' ver xs' hr
   cases hb : (Nat.beq t' t && !e.ro)
   ·rw [hb] at h; cases h
   ·rw [hb] at h
    simp only [cond_true] at h
    split at h
    ·obtain ⟨_,rfl⟩ := Prod.mk.inj (Option.some.inj h)
     exact ⟨fun j hj => by
      simp only [List.mem_singleton,Option.some.injEq] at hj
      rw [hj]; exact .inr (.inr ⟨_,_,_,_,hr⟩),⟨fun hb => (by cases hb),fun _ _ => IsRow.nrow hr⟩⟩
    ·cases h
  ·cases h
 | own =>
  simp only [endBox] at h
  obtain ⟨_,rfl⟩ := Prod.mk.inj (Option.some.inj h)
  exact ⟨by simp,⟨fun hb => (by cases hb),fun _ hb => (by cases hb)⟩⟩

theorem endBoxes_row {st : St} : ∀ (bs : List BK) (i : Nat) (x : Tup (bs.map BK.kd)) (ids : List (Option Nat)),endBoxes st bs i = some (x,ids) → (∀ j,some j ∈ ids → IsRow st.sto j) ∧ ∀ (q : Nat) (b : BK),bs[q]? = some b → EndB st.sto b (i + q)
 | [],i,x,ids,h => by
  simp only [endBoxes,Option.some.injEq,Prod.mk.injEq] at h
  obtain ⟨_,rfl⟩ := h
  exact ⟨by simp,by simp⟩
 | [k],i,x,ids,h => by
  obtain ⟨h1,h2⟩ := endBox_row (b := k) h
  refine ⟨h1,fun q b hq => ?_⟩
  cases q with
  | zero => simp only [List.getElem?_cons_zero,Option.some.injEq] at hq; rw [← hq]; exact h2
  | succ q => simp at hq
 | k :: k' :: bs,i,x,ids,h => by
  simp only [endBoxes] at h
  split at h
  ·rename_i x' is h1
   split at h
   ·rename_i y js hy
    obtain ⟨rfl,rfl⟩ := Prod.mk.inj (Option.some.inj h)
    obtain ⟨a1,a2⟩ := endBox_row (b := k) h1
    obtain ⟨b1,b2⟩ := endBoxes_row (k' :: bs) (i + 1) y js hy
    refine ⟨fun j hj => ?_,fun q b hq => ?_⟩
    ·rcases List.mem_append.1 hj with hj | hj
     ·exact a1 j hj
     ·exact b1 j hj
    ·cases q with
     | zero => simp only [List.getElem?_cons_zero,Option.some.injEq] at hq; rw [← hq]; exact a2
     | succ q =>
      have := b2 q b (by simpa using hq)
      rwa [show i + 1 + q = i + (q + 1) from by omega] at this
   ·cases h
  ·cases h

theorem endVs_row {st : St} : ∀ (rs : List Kd) (bs : List BK) (vs : List AVal) (x : Tup (rs ++ bs.map BK.kd)) (ids : List (Option Nat)),endVs st rs bs vs = some (x,ids) → (∀ j,some j ∈ ids → IsRow st.sto j) ∧ ∀ (q : Nat) (b : BK),bs[q]? = some b → EndB st.sto b q
 | [],bs,vs,x,ids,h => by
  cases vs with
  | cons v vs => simp [endVs] at h
  | nil =>
   simp only [endVs] at h
   obtain ⟨h1,h2⟩ := endBoxes_row bs 0 x ids h
   exact ⟨h1,fun q b hq => by simpa using h2 q b hq⟩
 | [r],[],vs,x,ids,h => by
  cases vs with
  | nil => simp [endVs] at h
  | cons v vs =>
   cases vs with
   | cons v' vs => simp [endVs] at h
   | nil =>
    simp only [endVs] at h
    exact ⟨takeV_row h,by simp⟩
 | [r],b :: bs,vs,x,ids,h => by
  cases vs with
  | nil => simp [endVs] at h
  | cons v vs =>
   cases vs with
   | cons v' vs => simp [endVs] at h
   | nil =>
    simp only [endVs] at h
    split at h
    ·rename_i y is hy
     split at h
     ·rename_i z js hz
      obtain ⟨rfl,rfl⟩ := Prod.mk.inj (Option.some.inj h)
      obtain ⟨h1,h2⟩ := endBoxes_row (b :: bs) 0 z js hz
      refine ⟨fun j hj => ?_,fun q b hq => by simpa using h2 q b hq⟩
      rcases List.mem_append.1 hj with hj | hj
      ·exact takeV_row hy j hj
      ·exact h1 j hj
     ·cases h
    ·cases h
 | r :: r' :: rs,bs,vs,x,ids,h => by
  cases vs with
  | nil => simp [endVs] at h
  | cons v vs =>
   simp only [endVs] at h
   split at h
   ·rename_i y is hy
    split at h
    ·rename_i z js hz
     obtain ⟨rfl,rfl⟩ := Prod.mk.inj (Option.some.inj h)
     obtain ⟨h1,h2⟩ := endVs_row (r' :: rs) bs vs z js hz
     refine ⟨fun j hj => ?_,h2⟩
     rcases List.mem_append.1 hj with hj | hj
     ·exact takeV_row hy j hj
     ·exact h1 j hj
    ·cases h
   ·cases h

theorem endIds_mem : ∀ (bs : List BK) (i q : Nat) (b : BK),bs[q]? = some b → b.isBox = false → b.isOwn = false → i + q ∈ endIds bs i
 | [],i,q,b,h,_,_ => by simp at h
 | c :: bs,i,q,b,h,h1,h2 => by
  cases q with
  | zero =>
   simp only [List.getElem?_cons_zero,Option.some.injEq] at h
   subst h
   cases c with
   | box k => cases h1
   | own => cases h2
   | row t e => simp [endIds]
  | succ q =>
   have := endIds_mem bs (i + 1) q b (by simpa using h) h1 h2
   rw [show i + 1 + q = i + (q + 1) from by omega] at this
   cases c <;> simp only [endIds] <;> first | exact this | exact List.mem_cons_of_mem _ this

def packC (vs : List Value) : Value := match vs with
 | [v] => v
 | vs => .tuple vs.toArray

theorem pack_ok {w : World} {R Al : Nat → Prop} {H : Nat → Value} {vs : List AVal} {cs : List Value} (h : AVs w R Al H vs cs) : AV w R Al H (packV vs) (packC cs) := by
 cases vs with
 | nil =>
  simp only [AVs] at h
  subst h
  simp only [packV,packC,AV,AVs]
  exact ⟨_,rfl,rfl⟩
 | cons v vs =>
  simp only [AVs] at h
  obtain ⟨c,r,rfl,h2,h3⟩ := h
  cases vs with
  | nil =>
   simp only [AVs] at h3
   subst h3
   exact h2
  | cons v' vs =>
   have h3' := h3
   simp only [AVs] at h3'
   obtain ⟨c',r',rfl,_,_⟩ := h3'
   simp only [packV,packC,AV,AVs]
   simp only [AVs] at h3
   exact ⟨_,rfl,c,_,rfl,h2,h3⟩

theorem endOK {w w' : World} {D : Col} {hs : List Value} {R0 : Nat → Prop} {st : St} {C : Col} {R Al : Nat → Prop} {H : Nat → Value} (hi : Inv w ⟨D,hs⟩ R0 st.sto w' C R Al H) {F : FSpec} {vs : List AVal} {cvs : List Value} (hv : AVs w' R Al H vs cvs) {r : Tup (F.rs ++ boxes F.ps)} {ids : List (Option Nat)}
  (h : endVs st F.rs (hands F.ps) vs = some (r,ids)) (ho : once ids = true) (hlent : ∀ i ∈ endIds (hands F.ps) 0,some i ∉ ids) (hlen : hs.length = (hands F.ps).length) : ResOK w w' R0 D hs F r (packC cvs) := by
 have hframe : ∀ b,b < w.heap.size → D b = none → w'.heap[b]? = w.heap[b]? := fun b hb hd => hi.frame b hb (by
  rintro ⟨q,p,hq⟩
  rw [show (⟨D,hs⟩ : Hnd).col b = D b from rfl,hd] at hq; cases hq)
 refine ⟨hi.os,hi.tape,hi.output,hi.size,hframe,fun nx is hil hisnd hisnx => ?_⟩
 obtain ⟨hrow,hbox⟩ := endVs_row _ _ _ _ _ h
 have honce := once_inj (of_decide_eq_true ho)
 let C' : Col := fun b => match C b with
  | some (j,p) => match ids.idxOf? (some j) with
   | some q => some (nx + q,p)
   | none => match is[j]? with
    | some i => some (i,p)
    | none => none
  | none => none
 let H' : Nat → Value := fun i => if i < nx then (match is.idxOf? i with
  | some q => H q
  | none => .slice none 0 0) else match ids[i - nx]? with
  | some (some j) => H j
  | _ => .slice none 0 0
 let Al' : Nat → Prop := fun i => (nx ≤ i ∧ i < nx + ids.length) ∨ i ∈ is
 let R' : Nat → Prop := fun b => shareF F = true ∧ R b
 have iidx : ∀ (q i : Nat),is[q]? = some i → is.idxOf? i = some q := fun q i hq => idx_of is i q hq fun a c ha hc => nodup_inj hisnd ha hc
 have hHis : ∀ (q i : Nat),is[q]? = some i → H' i = H q := fun q i hq => by
  have := hisnx i (List.mem_of_getElem? hq)
  simp only [H']
  rw [if_pos this,iidx q i hq]
 have hnotin : ∀ (q : Nat) (b : BK),(hands F.ps)[q]? = some b → b.isOwn = false → some q ∉ ids := by
  intro q b hq hown hm
  cases hbx : b.isBox
  ·have := endIds_mem (hands F.ps) 0 q b hq hbx hown
   rw [Nat.zero_add] at this
   exact hlent q this hm
  ·obtain ⟨cs,hcs⟩ := (hbox q b hq).1 hbx
   exact IsRow.not_box hi.ctx (hrow q hm) hcs
 have hidn : ∀ j,some j ∉ ids → ids.idxOf? (some j) = none := fun j hj => by
  cases hq : ids.idxOf? (some j) with
  | none => rfl
  | some q => exact absurd (List.mem_of_getElem? (of_idx _ _ _ hq)) hj
 have hm : Moves C C' H H' ids nx := by
  intro q o hq
  have hlt := (List.getElem?_eq_some_iff.1 hq).1
  cases o with
  | none =>
   simp only [H']
   rw [if_neg (by omega),show nx + q - nx = q from by omega,hq]
  | some j =>
   refine ⟨fun b p hb => ?_,?_⟩
   ·simp only [C',hb,idx_of ids (some j) q hq (honce j)]
   ·simp only [H']
    rw [if_neg (by omega),show nx + q - nx = q from by omega,hq]
 have hbx : ∀ (q : Nat) (b : BK) (j : Nat),(hands F.ps)[q]? = some b → is[q]? = some j → b.isOwn = false → Al' j ∧ H' j = H q ∧ ∀ g p,C g = some (q,p) → C' g = some (j,p) := by
  intro q b j hq hj hown
  refine ⟨.inr (List.mem_of_getElem? hj),hHis q j hj,fun g p hg => ?_⟩
  simp only [C',hg,hidn q (hnotin q b hq hown),hj]
 obtain ⟨vals,u,e1,e2,e3⟩ := endVs_ok (Al' := Al') hi.ctx (is2 := is) _ _ _ _ _ _ hv h nx (hil.trans hlen) hbx hm (fun q hq => .inl ⟨by omega,by omega⟩)
 have hR' : shareF F = true → ∀ b,R b → R' b ∧ w'.heap[b]? = w'.heap[b]? := fun hs b hb => ⟨⟨hs,hb⟩,rfl⟩
 have hfree : shareF F = false → FreeAs vals ∧ ∀ p ∈ u,FreeE p.2 := by
  intro hs
  unfold shareF at hs
  have hs' : F.rs.all Kd.fresh = true ∧ (hands F.ps).all BK.fresh = true := by
   rw [Bool.not_eq_false',Bool.and_eq_true] at hs; exact hs
  have := results_free _ _ hs'.1 hs'.2 is r nx
  rw [e1] at this
  exact this
 have hval : AV w' R' Al' H' (packV vals) (packC cvs) := by
  cases hs : shareF F
  ·exact pack_free (hfree hs).1 _ _ _ _ _ _ (pack_ok e2)
  ·exact AV.mono (hR' hs) (fun i hi => ⟨hi,rfl⟩) _ _ (pack_ok e2)
 have hent : ∀ i,Al' i → EntOK w' C' R' Al' H' i (getS u i) := by
  intro i hi'
  have := (e3.2 i hi').2
  cases hs : shareF F
  ·exact getS_free (hfree hs).2 i _ _ _ _ _ _ _ this
  ·exact EntOK.mono (hR' hs) (fun i hi => ⟨hi,rfl⟩) rfl (fun b p hb => ⟨hb,rfl⟩) _ this
 refine ⟨C',H',R',?_⟩
 constructor
 ·rw [e1]; exact Nat.le_add_right _ _
 ·intro b i p hb
  rw [e1]
  simp only [C'] at hb
  cases hc : C b with
  | none => rw [hc] at hb; cases hb
  | some jp =>
   obtain ⟨j,p'⟩ := jp
   rw [hc] at hb
   simp only at hb
   have hcol := hi.col b j p' hc
   refine ⟨?_,hcol.2.1,?_⟩
   ·cases hq2 : ids.idxOf? (some j) with
    | some q =>
     rw [hq2] at hb
     simp only [Option.some.injEq,Prod.mk.injEq] at hb
     have hlt := (List.getElem?_eq_some_iff.1 (of_idx _ _ _ hq2)).1
     exact .inl ⟨by omega,by show i < nx + ids.length; omega⟩
    | none =>
     rw [hq2] at hb
     simp only at hb
     cases hi2 : is[j]? with
     | none => rw [hi2] at hb; cases hb
     | some i' =>
      rw [hi2] at hb
      simp only [Option.some.injEq,Prod.mk.injEq] at hb
      exact .inr (hb.1 ▸ List.mem_of_getElem? hi2)
   ·rcases hcol.2.2 with h | ⟨q,p,h⟩
    ·exact .inl h
    ·exact .inr ⟨q,p,h⟩
 ·intro q i u' hq hu
  rw [hHis q i hq]
  exact (hi.pin q u' hu).2
 ·rintro b ⟨hs,hb⟩
  have hrd := hi.rd b hb
  refine ⟨?_,?_⟩
  ·rcases hrd.2.2 with h | h | ⟨q,p,h⟩
   ·exact .inr (.inl ⟨h,hrd.1⟩)
   ·exact .inl ⟨hs,h⟩
   ·exact .inr (.inr ⟨q,p,h⟩)
  ·simp only [C',hrd.2.1]
 ·intro i hi'
  rw [e1] at hi' ⊢
  exact hent i hi'
 ·intro p hp
  rw [e1] at hp ⊢
  exact e3.1 p hp
 ·intro i hi'
  rw [e1] at hi' ⊢
  exact (e3.2 i hi').1
 ·intro i h1 h2
  simp only [H']
  rw [if_neg (by omega)]
  cases hq : ids[i - nx]? with
  | none => rfl
  | some o =>
   cases o with
   | none => rfl
   | some j =>
    simp only
    exact hi.one j (IsRow.al hi.ctx (hrow j (List.mem_of_getElem? hq)))
 ·rw [e1]
  exact hval
end Go.Rv
namespace Go.Rv

theorem AVs.of {w w' : World} {R R' Al Al' : Nat → Prop} {H H' : Nat → Value} (h : ∀ y c,AV w R Al H y c → AV w' R' Al' H' y c) : ∀ (ys : List AVal) (cs : List Value),AVs w R Al H ys cs → AVs w' R' Al' H' ys cs
 | [],cs,hc => by simpa [AVs] using hc
 | y :: ys,cs,hc => by
  simp only [AVs] at hc ⊢
  obtain ⟨v,r,h1,h2,h3⟩ := hc
  exact ⟨v,r,h1,h _ _ h2,AVs.of h ys r h3⟩

theorem shaped_val {w : World} {R Al : Nat → Prop} {H : Nat → Value} {k : Kd} {x : k.ty} {v : Value} (hs : Shaped k v) (h : Rp w noC R 0 k x [] v.cells.toList) : AV w R Al H (valOf k (cellsOf k x)) v := by
 have hc := cellsOf_ok (Al := Al) (H := H) k x [] _ h
 unfold Shaped at hs
 unfold valOf
 cases hk : k.agg
 ·rw [hk] at hs
  simp only at hs ⊢
  have hv : v.cells = #[v] := one_cells hs
  rw [hv] at hc
  cases hcs : cellsOf k x with
  | nil => rw [hcs] at hc; simp [AVs] at hc
  | cons c cs =>
   rw [hcs] at hc
   simp only [AVs] at hc
   obtain ⟨v',r,e1,e2,e3⟩ := hc
   simp only [List.cons.injEq] at e1
   obtain ⟨rfl,rfl⟩ := e1
   have : cs = [] := by
    cases cs with
    | nil => rfl
    | cons c' cs => simp [AVs] at e3
   subst this
   exact e2
 ·rw [hk] at hs
  simp only at hs ⊢
  obtain ⟨cs,rfl⟩ := hs
  simp only [AV]
  exact ⟨cs,rfl,hc⟩

section
variable {w : World} {D : Col} {R Al : Nat → Prop} {H : Nat → Value} {a : Act}

theorem Good.mono {st : St} (hg : Good w D R Al H a st) {Al' : Nat → Prop} {H' : Nat → Value} (hA : ∀ i,Al i → Al' i ∧ H' i = H i) : Good w D R Al' H' a st := by
 refine ⟨fun t => AV.mono (fun b hb => ⟨hb,rfl⟩) hA _ _ (hg.env t),fun i => ?_,fun i hi => (hA i (hg.al i hi)).1⟩
 by_cases hd : getS st.sto i = .dead
 ·rw [hd]; trivial
 ·exact EntOK.mono (fun b hb => ⟨hb,rfl⟩) hA (hA i (hg.al i hd)).2 (fun b p hb => ⟨hb,rfl⟩) _ (hg.ent i)

theorem Good.slot {st : St} (hg : Good w D R Al H a st) {t : Nat} {v : AVal} (hv : AV w R Al H v (a.tmps.getD t undef)) {S : Upd} (hS : S = st.sto) {n z : Nat} : Good w D R Al H a ⟨(t,v) :: st.env,S,n,z⟩ := by
 subst hS
 refine ⟨fun s => ?_,hg.ent,hg.al⟩
 show AV w R Al H (getE ((t,v) :: st.env) s) _
 rw [getE_cons]
 split
 ·rename_i hs; rw [hs]; exact hv
 ·exact hg.env s

theorem Good.entry {st : St} (hg : Good w D R Al H a st) {i : Nat} {e : Ent} (hal : Al i) (he : EntOK w D R Al H i e) {n z : Nat} : Good w D R Al H a ⟨st.env,(i,e) :: st.sto,n,z⟩ := by
 refine ⟨hg.env,fun j => ?_,fun j hj => ?_⟩
 ·show EntOK w D R Al H j (getS ((i,e) :: st.sto) j)
  by_cases hji : j = i
  ·subst hji; rw [getS_cons_self]; exact he
  ·rw [getS_cons_ne _ _ hji]; exact hg.ent j
 ·have hj' : getS ((i,e) :: st.sto) j ≠ .dead := hj
  by_cases hji : j = i
  ·rw [hji]; exact hal
  ·rw [getS_cons_ne _ _ hji] at hj'; exact hg.al j hj'

theorem enter1_ok {p : PK} {x : p.kd.ty} {v : Value} {h1 : List Value} {q : Nat} (ha : ArgOK w R D q p x v h1) (hq : ∀ (l : Nat) (u : Value),h1[l]? = some u → Al (q + l) ∧ H (q + l) = u) {t : Nat} {st : St} (hg : Good w D R Al H a st) (hn : ∀ i,Al i → i < st.nxt) (ho : ∀ i,Al i → (H i).oneCell' = true) (hv : a.tmps.getD t undef = v) :
  h1.length = (hands [p]).length ∧ ∃ Al' H',(∀ i,Al i → Al' i ∧ H' i = H i) ∧ Good w D R Al' H' a (enter1 p x t q st) ∧ (∀ i,Al' i → i < (enter1 p x t q st).nxt) ∧ (∀ i,Al' i → (H' i).oneCell' = true) ∧ (enter1 p x t q st).sz = st.sz := by
 have rowcase : ∀ (t' : Nat) (e : Kd) (y : List e.ty),h1 = [v] → Rp w D R q (.sl (some t') e) y [] [v] → ∀ st' : St,(st' = match e.ro with
   | true => ⟨(t,.ref q) :: st.env,(q,.row t' e y) :: st.sto,st.nxt,st.sz⟩
   | false => ⟨(t,.ref q) :: st.env,(q,.nrow t' e st.nxt y) :: (st.nxt,.ver) :: st.sto,st.nxt + 1,st.sz⟩) →
   ∃ Al' H',(∀ i,Al i → Al' i ∧ H' i = H i) ∧ Good w D R Al' H' a st' ∧ (∀ i,Al' i → i < st'.nxt) ∧ (∀ i,Al' i → (H' i).oneCell' = true) ∧ st'.sz = st.sz := by
  intro t' e y hh hrp st' hst
  obtain ⟨hal,hH⟩ := hq 0 v (by rw [hh]; rfl)
  rw [Nat.add_zero] at hal hH
  have hrp' : Rp w D R q (.sl (some t') e) y [] [H q] := by rw [hH]; exact hrp
  cases hro : e.ro
  ·rw [hro] at hst
   simp only at hst
   subst hst
   have hown : ∃ fl,Own w t' e.size v y.length fl := by
    obtain ⟨v',fl,he,ho',_⟩ := hrp
    simp only [List.cons.injEq,and_true] at he
    rw [he]; exact ⟨fl,ho'⟩
   obtain ⟨fl,hown⟩ := hown
   obtain ⟨hv',hv1,hvh⟩ := Heads.make hown
   let Al' : Nat → Prop := fun i => Al i ∨ i = st.nxt
   let H' : Nat → Value := fun i => if i = st.nxt then hv' else H i
   have hA : ∀ i,Al i → Al' i ∧ H' i = H i := fun i hi => ⟨.inl hi,by have := hn i hi; simp only [H']; rw [if_neg (by omega)]⟩
   have hHn : H' st.nxt = hv' := by simp [H']
   have hHq : H' q = v := (hA q hal).2.trans hH
   refine ⟨Al',H',hA,?_,fun i hi => ?_,fun i hi => ?_,rfl⟩
   ·have g1 := (hg.mono hA).entry (i := st.nxt) (e := .ver) (.inr rfl) trivial (n := st.nxt + 1) (z := st.sz)
    have g2 := g1.entry (i := q) (e := .nrow t' e st.nxt y) (hA q hal).1 (by simp only [EntOK]; rw [hHq,hHn]; exact ⟨hrp,.inr rfl,hvh⟩) (n := st.nxt + 1) (z := st.sz)
    exact g2.slot (v := .ref q) (by simp only [AV]; rw [hv,hHq]; exact ⟨(hA q hal).1,rfl⟩) rfl
   ·rcases hi with hi | hi
    ·have := hn i hi; show i < st.nxt + 1; omega
    ·show i < st.nxt + 1; omega
   ·rcases hi with hi | hi
    ·rw [(hA i hi).2]; exact ho i hi
    ·rw [hi,hHn]; exact hv1
  ·rw [hro] at hst
   simp only at hst
   subst hst
   refine ⟨Al,H,fun i hi => ⟨hi,rfl⟩,?_,hn,ho,rfl⟩
   exact (hg.entry (i := q) (e := .row t' e y) hal hrp' (n := st.nxt) (z := st.sz)).slot (v := .ref q) (by simp only [AV]; rw [hv]; exact ⟨hal,hH.symm⟩) rfl
 cases p with
 | val k =>
  obtain ⟨rfl,h2,h3,h4⟩ := ha
  exact ⟨rfl,Al,H,fun i hi => ⟨hi,rfl⟩,hg.slot (by rw [hv]; exact shaped_val h3 h4) rfl,hn,ho,rfl⟩
 | box k =>
  obtain ⟨rfl,h2,b,cells,T,h3,h4,h5,h6⟩ := ha
  obtain ⟨hal,hH⟩ := hq 0 v rfl
  rw [Nat.add_zero] at hal hH
  refine ⟨rfl,Al,H,fun i hi => ⟨hi,rfl⟩,?_,hn,ho,rfl⟩
  exact (hg.entry (i := q) (e := .box (cellsOf k x)) hal ⟨b,cells,T,hH.trans h3,h4,h5,cellsOf_ok k x [] _ h6⟩ (n := st.nxt) (z := st.sz)).slot (v := .ptr q 0) (by simp only [AV]; rw [hv,h3]; exact ⟨hal,b,hH.trans h3,rfl⟩) rfl
 | row t' e => exact ⟨by rw [ha.1]; rfl,rowcase t' e x ha.1 ha.2 _ rfl⟩
 | own t' e => exact ⟨by rw [ha.1]; rfl,rowcase t' e x ha.1 ha.2 _ rfl⟩
 | fn g =>
  obtain ⟨rfl,_,h3⟩ := ha
  refine ⟨rfl,Al,H,fun i hi => ⟨hi,rfl⟩,hg.slot (v := .fn g [] []) ?_ rfl,hn,ho,rfl⟩
  rw [hv,h3]
  simp only [AV,AVs]
  exact ⟨#[],#[],rfl,rfl,rfl⟩
 | fbox g k =>
  obtain ⟨u,rfl,h2,h7,b,cells,T,h3,h4,h5,h6⟩ := ha
  obtain ⟨hal,hH⟩ := hq 0 u rfl
  rw [Nat.add_zero] at hal hH
  refine ⟨rfl,Al,H,fun i hi => ⟨hi,rfl⟩,?_,hn,ho,rfl⟩
  exact (hg.entry (i := q) (e := .box (cellsOf k x)) hal ⟨b,cells,T,hH.trans h3,h4,h5,cellsOf_ok k x [] _ h6⟩ (n := st.nxt) (z := st.sz)).slot (v := .fn g [] [.ptr q 0]) (by simp only [AV,AVs]; rw [hv,h7]; exact ⟨#[],#[u],rfl,rfl,u,[],rfl,⟨hal,b,hH.trans h3,h3⟩,rfl⟩) rfl
 | rp k =>
  obtain ⟨rfl,h2,ad,fl,h3,h4,h5⟩ := ha
  refine ⟨rfl,Al,H,fun i hi => ⟨hi,rfl⟩,hg.slot (v := .pel k x 0) ?_ rfl,hn,ho,rfl⟩
  simp only [AV]
  exact ⟨ad,fl,by rw [hv,h3,Addr.add_zero'],h4,h5⟩

theorem enter_ok : ∀ (ps : List PK) (x : Tup (ps.map PK.kd)) (vs : List Value) (q : Nat) (h1 : List Value),ArgsOK w R D q ps x vs h1 → ∀ {Al : Nat → Prop} {H : Nat → Value} (t : Nat) (st : St),(∀ (l : Nat) (u : Value),h1[l]? = some u → Al (q + l) ∧ H (q + l) = u) → Good w D R Al H a st → (∀ i,Al i → i < st.nxt) → (∀ i,Al i → (H i).oneCell' = true) → (∀ (q : Nat) (v : Value),vs[q]? = some v → a.tmps.getD (t + q) undef = v) →
  vs.length = ps.length ∧ h1.length = (hands ps).length ∧ ∃ Al' H',(∀ i,Al i → Al' i ∧ H' i = H i) ∧ Good w D R Al' H' a (enter ps x t q st) ∧ (∀ i,Al' i → i < (enter ps x t q st).nxt) ∧ (∀ i,Al' i → (H' i).oneCell' = true) ∧ (enter ps x t q st).sz = st.sz
 | [],x,vs,q,h1,h,Al,H,t,st,hq,hg,hn,ho,hv => by
  obtain ⟨rfl,rfl⟩ := h
  exact ⟨rfl,rfl,Al,H,fun i hi => ⟨hi,rfl⟩,hg,hn,ho,rfl⟩
 | [p],x,vs,q,h1,h,Al,H,t,st,hq,hg,hn,ho,hv => by
  obtain ⟨v,rfl,h2⟩ := h
  obtain ⟨g1,g2⟩ := enter1_ok (p := p) h2 hq (t := t) hg hn ho (by simpa using hv 0 v rfl)
  exact ⟨rfl,g1,g2⟩
 | p :: p' :: ps,x,vs,q,h1,h,Al,H,t,st,hq,hg,hn,ho,hv => by
  obtain ⟨v,vs',c1,c2,rfl,rfl,k1,k2⟩ := h
  obtain ⟨g1,Al1,H1,g2,g3,g4,g5,g6⟩ := enter1_ok (p := p) k1 (fun l u hl => hq l u (by rw [List.getElem?_append_left (List.getElem?_eq_some_iff.1 hl).1]; exact hl)) (t := t) hg hn ho (by simpa using hv 0 v rfl)
  obtain ⟨m1,m2,Al2,H2,m3,m4,m5,m6,m7⟩ := enter_ok (p' :: ps) x.2 vs' (q + c1.length) c2 k2 (Al := Al1) (H := H1) (t + 1) (enter1 p x.1 t q st) (fun l u hl => by
    have := hq (c1.length + l) u (by rw [List.getElem?_append_right (by omega)]; simpa using hl)
    rw [← Nat.add_assoc] at this
    exact ⟨(g2 _ this.1).1,((g2 _ this.1).2).trans this.2⟩) g3 g4 g5 (fun l u hl => by
    have := hv (l + 1) u (by simpa using hl)
    rwa [show t + (l + 1) = t + 1 + l from by omega] at this)
  have hent : enter (p :: p' :: ps) x t q st = enter (p' :: ps) x.2 (t + 1) (q + c1.length) (enter1 p x.1 t q st) := by rw [g1]; rfl
  rw [hent]
  exact ⟨by simp only [List.length_cons] at m1 ⊢; omega,by rw [List.length_append,g1,m2,hands_cons p (p' :: ps),List.length_append],Al2,H2,fun i hi => ⟨(m3 i (g2 i hi).1).1,((m3 i (g2 i hi).1).2).trans (g2 i hi).2⟩,m4,m5,m6,m7.trans g6⟩
end

section
variable {w : World} {S : Upd} {C : Col} {R Al : Nat → Prop} {H : Nat → Value} {P : Program}

theorem loadA_ptr {α : Type} {ti : TI} {x : AVal} {cx : Value} (ha : AV w R Al H x cx) {k : AVal → Option α} {r : α} (h : loadA S ti x k = some r) : ∃ a,cx = .pointer (some a) := by
 cases x <;> simp only [loadA] at h <;> first | (cases h; done) | skip
 case ptr i o => simp only [AV] at ha; obtain ⟨_,b,_,h2⟩ := ha; exact ⟨_,h2⟩
 case eptr i s j o => simp only [AV] at ha; obtain ⟨_,g,n,c,_,h2⟩ := ha; exact ⟨_,h2⟩
 case pel e x o => simp only [AV] at ha; obtain ⟨a,fl,h2,_⟩ := ha; exact ⟨_,h2⟩

def resS (tmps : Array Value) : ResultVar → Sem Value
 | .tmp t => pure (tmps.getD t undef)
 | .cell b t => do loadVar t (← asAddr (tmps.getD b undef))

theorem resV_ok {T : Tab} (hT : TabOK P T) {st : St} (hx : Ctx w C R Al H st.sto) {a : Act} (he : ∀ t,AV w R Al H (getE st.env t) (a.tmps.getD t undef)) (rv : ResultVar) {α : Type} {k : AVal → Option α} {r : α} (h : resV T st rv k = some r) :
  ∃ v cv,k v = some r ∧ AV w R Al H v cv ∧ (resS a.tmps rv).run P w = .ok cv w := by
 cases rv with
 | tmp t => exact ⟨_,_,h,he t,rfl⟩
 | cell b t =>
  simp only [resV] at h
  split at h
  ·rename_i ti ht
   obtain ⟨i1,d1,z1,r1⟩ := hT.row ht
   obtain ⟨v,cv,h1,h2,h3⟩ := loadA_ok (P := P) hx r1 (he b) h
   obtain ⟨ad,had⟩ := loadA_ptr (he b) h
   refine ⟨v,cv,h1,h2,?_⟩
   have h4 := h3 w (Ext.refl w)
   simp only [resS]
   rw [had] at h4 ⊢
   simpa [Instr.loadAt,Instr.sureAddr,asAddr] using h4
  ·cases h

theorem resVs_ok {T : Tab} (hT : TabOK P T) {st : St} (hx : Ctx w C R Al H st.sto) {a : Act} (he : ∀ t,AV w R Al H (getE st.env t) (a.tmps.getD t undef)) : ∀ (rvs : List ResultVar) {α : Type} (k : List AVal → Option α) (r : α),resVs T st rvs k = some r →
  ∃ vs cvs,k vs = some r ∧ AVs w R Al H vs cvs ∧ (rvs.mapM (resS a.tmps)).run P w = .ok cvs w
 | [],α,k,r,h => ⟨[],[],h,by simp [AVs],by simp⟩
 | rv :: rvs,α,k,r,h => by
  simp only [resVs] at h
  obtain ⟨v,cv,h1,h2,h3⟩ := resV_ok hT hx he rv h
  obtain ⟨vs,cvs,h4,h5,h6⟩ := resVs_ok hT hx he rvs _ _ h1
  refine ⟨v :: vs,cv :: cvs,h4,by simp only [AVs]; exact ⟨_,_,rfl,h2,h5⟩,?_⟩
  simp only [List.mapM_cons,Sem.run_bind,h3,Result.andThen_ok,h6]
  rfl

theorem run_results {fn : Func} {tmps : Array Value} {cvs : List Value} (h : (fn.results.toList.mapM (resS tmps)).run P w = .ok cvs w) : (Go.results fn tmps).run P w = .ok (packC cvs) w := by
 have e : Go.results fn tmps = (do
  let vs ← fn.results.mapM (resS tmps)
  pure (if h : vs.size = 1 then vs[0] else .tuple vs)) := by
  unfold Go.results
  congr 1
 rw [e,Array.mapM_eq_mapM_toList]
 simp only [Sem.run_bind,map_eq_pure_bind,h,Result.andThen_ok,Sem.run_pure]
 match cvs with
 | [] => rfl
 | [c] => rfl
 | c :: c' :: cs => simp [packC]
end

def BodyOK (P : Program) (B : Bodies) : Prop := ∀ g fn, B.get g = some fn → P.funcs[g]? = some fn ∧ (fn.name == "runtime.NumGoroutine") = false

theorem enterI_ok {w : World} {R Al : Nat → Prop} {H : Nat → Value} {a : Act} : ∀ (vs : List AVal) (cvs : List Value) (t : Nat) (e : Slots),AVs w R Al H vs cvs → (∀ s,AV w R Al H (getE e s) (a.tmps.getD s undef)) → (∀ (q : Nat) (v : Value),cvs[q]? = some v → a.tmps.getD (t + q) undef = v) →
  ∀ s,AV w R Al H (getE (enterI vs t e) s) (a.tmps.getD s undef)
 | [],cvs,t,e,_,he,_ => he
 | v :: vs,cvs,t,e,hv,he,hq => by
  simp only [AVs] at hv
  obtain ⟨c,r,rfl,h2,h3⟩ := hv
  refine enterI_ok vs r (t + 1) _ h3 (fun s => ?_) (fun q u hu => ?_)
  ·rw [getE_cons]
   split
   ·rename_i hs; rw [hs]; have := hq 0 c rfl; rw [Nat.add_zero] at this; rw [this]; exact h2
   ·exact he s
  ·have := hq (q + 1) u (by simpa using hu)
   rwa [show t + (q + 1) = t + 1 + q from by omega] at this

theorem inlD_ok {P : Program} {w0 : World} {L : Hnd} {R0 : Nat → Prop} (hm : P.follows .mixedOrders = true) {G : Env} (hG : EnvK P G w0 L R0) {T : Tab} (hT : TabOK P T) {B : Bodies} (hB : BodyOK P B) {fuel : Nat} : ∀ d,IOK P w0 L R0 (inlD G T B fuel d)
 | 0 => fun A g an vs st k r gs w C R Al H cvs _ _ _ _ h => by cases h
 | d + 1 => fun A g an vs st k r gs w C R Al H cvs hi hn hgs hv h => by
  have ih := inlD_ok hm hG hT hB (fuel := fuel) (w0 := w0) (L := L) (R0 := R0) d
  simp only [inlD,inlC] at h
  split at h
  ·cases h
  ·rename_i fn hfn
   split at h
   ·cases h
   ·rename_i c hb
    obtain ⟨h1,h2⟩ := chk_some h
    obtain ⟨hf,hname⟩ := hB g fn hfn
    refine ⟨⟨fn,hf,hname,by rw [hb]; rfl⟩,calls_of_wp hf hb ?_⟩
    have hlen : cvs.length = vs.length := AVs.length _ _ hv
    have hle : cvs.length ≤ fn.ntmps := by rw [hlen]; exact Nat.le_of_ble_eq_true h1
    let a : Act := { tmps := cvs.toArray ++ Array.replicate (fn.ntmps - cvs.toArray.size) undef,defers := [] }
    have htm : ∀ (q : Nat) (v : Value),cvs[q]? = some v → a.tmps.getD (0 + q) undef = v := by
     intro q v hq
     have hlt := (List.getElem?_eq_some_iff.1 hq).1
     rw [Nat.zero_add,Array.getD_eq_getD_getElem?]
     show ((cvs.toArray ++ _)[q]?).getD undef = v
     rw [Array.getElem?_append_left (by simpa using hlt)]
     simp [hq]
    have hsok : SOK w0 L R0 gs ⟨enterI vs 0 [],st.sto,st.nxt,fn.ntmps⟩ a w := by
     refine ⟨C,R,Al,H,hi,enterI_ok vs cvs 0 [] hv (fun s => by simp [getE,AV]) htm,hn,?_,rfl,hgs⟩
     show (cvs.toArray ++ Array.replicate (fn.ntmps - cvs.toArray.size) undef).size = fn.ntmps
     simp
     omega
    refine aeval_ok hm hG hT ih c _ an _ a w _ r hsok h2 _ fun e st' a' w' hk hc hs => ?_
    obtain ⟨C',R',Al',H',hi',he',hn',hsz,hdf,hgs'⟩ := hs
    have fin : ∀ {rs cvs'},AVs w' R' Al' H' rs cvs' → (fn.results.toList.mapM (resS a'.tmps)).run P w' = .ok cvs' w' → k (packV rs) ⟨st.env,st'.sto,st'.nxt,st.sz⟩ = some r →
      a'.defers = [] ∧ ∃ v,(Go.results fn a'.tmps).run P w' = .ok v w' ∧ ∃ v2 st2 cv C' R' Al' H',Ending.returned v = .returned cv ∧ k v2 st2 = some r ∧ (∃ u,st2.sto = u ++ st.sto) ∧ st.nxt ≤ st2.nxt ∧ Inv w0 L R0 st2.sto w' C' R' Al' H' ∧ (∀ i,Al' i → i < st2.nxt) ∧ AV w' R' Al' H' v2 cv ∧ ∀ p ∈ gs,AV w' R' Al' H' p.1 p.2 := by
     intro rs cvs' q1 q2 q3
     exact ⟨hdf,packC cvs',run_results q2,_,_,_,C',R',Al',H',rfl,q3,hc.2.1,hc.2.2.1,hi',hn',pack_ok q1,hgs'⟩
    cases e with
    | exit id => cases hk
    | normal =>
     simp only at hk
     obtain ⟨rs,cvs',q1,q2,q3⟩ := resVs_ok hT hi'.ctx he' _ _ _ hk
     exact fin q2 q3 q1
    | ret =>
     simp only at hk
     obtain ⟨rs,cvs',q1,q2,q3⟩ := resVs_ok hT hi'.ctx he' _ _ _ hk
     exact fin q2 q3 q1

theorem argsOK_one {w : World} {R : Nat → Prop} {D : Col} : ∀ (ps : List PK) (q : Nat) (x : Tup (ps.map PK.kd)) (vs hs : List Value),ArgsOK w R D q ps x vs hs → ∀ u ∈ hs,u.oneCell' = true := by
 have one : ∀ (p : PK) (q : Nat) (x : p.kd.ty) (v : Value) (hs : List Value),ArgOK w R D q p x v hs → ∀ u ∈ hs,u.oneCell' = true := by
  intro p q x v hs h u hu
  cases p with
  | val k => rw [h.1] at hu; cases hu
  | box k =>
   obtain ⟨h1,_,b,_,_,h2,_⟩ := h
   rw [h1,List.mem_singleton] at hu
   rw [hu,h2]; rfl
  | row t e => rw [h.1,List.mem_singleton] at hu; rw [hu]; exact Rp.one _ _ _ _ h.2 v (by simp)
  | own t e => rw [h.1,List.mem_singleton] at hu; rw [hu]; exact Rp.one _ _ _ _ h.2 v (by simp)
  | fn g => rw [h.1] at hu; cases hu
  | fbox g k =>
   obtain ⟨u',h1,_,_,b,_,_,h2,_⟩ := h
   rw [h1,List.mem_singleton] at hu
   rw [hu,h2]; rfl
  | rp k => rw [h.1] at hu; cases hu
 intro ps
 induction ps with
 | nil => intro q x vs hs h u hu; rw [h.2] at hu; cases hu
 | cons p ps ih =>
  intro q x vs hs h u hu
  cases ps with
  | nil => obtain ⟨v,_,h2⟩ := h; exact one p q x v hs h2 u hu
  | cons p' ps =>
   obtain ⟨v,vs',h1,h2,_,e2,h3,h4⟩ := h
   rw [e2] at hu
   rcases List.mem_append.1 hu with hu | hu
   ·exact one p q x.1 v h1 h3 u hu
   ·exact ih _ _ _ _ h4 u hu

theorem sound_of_afun {P : Program} (hm : P.follows .mixedOrders = true) {G : Env} (hG : EnvOK P G) {T : Tab} (hT : TabOK P T) {f : Nat} {fn : Func} (hf : P.funcs[f]? = some fn) {an : Ann} {F : FSpec} {B : Bodies} (hB : BodyOK P B) {d : Nat} (hn : Nat.ble F.ps.length fn.ntmps = true)
  (h : ∀ x r,F.run x = some r → ∃ fuel,afun G T B d fuel fn an F.ps F.rs x = some r) : Sound P f F := by
 intro w R vs x D hs hargs hR hD hKp r hr
 have hG : EnvK P G w ⟨D,hs⟩ R := ⟨hG,hKp,fun b hb => ⟨(hR b hb).1,fun ⟨q,p,h⟩ => by have h2 : D b = some (q,p) := h; rw [(hR b hb).2] at h2; cases h2⟩⟩
 obtain ⟨fuel,hr⟩ := h x r hr
 unfold afun at hr
 split at hr
 ·cases hr
 ·rename_i c hb
  let a : Act := { tmps := vs.toArray ++ Array.replicate (fn.ntmps - vs.toArray.size) undef,defers := [] }
  have htm : ∀ (q : Nat) (v : Value),vs[q]? = some v → a.tmps.getD (0 + q) undef = v := by
   intro q v hq
   have hlt := (List.getElem?_eq_some_iff.1 hq).1
   rw [Nat.zero_add,Array.getD_eq_getD_getElem?]
   show ((vs.toArray ++ _)[q]?).getD undef = v
   rw [Array.getElem?_append_left (by simpa using hlt)]
   simp [hq]
  let Al0 : Nat → Prop := fun i => i < hs.length
  let H0 : Nat → Value := fun i => hs.getD i (.slice none 0 0)
  have hone : ∀ u ∈ hs,u.oneCell' = true := argsOK_one _ _ _ _ _ hargs
  have hg0 : Good w D R Al0 H0 a ⟨[],[],hs.length,fn.ntmps⟩ := ⟨fun t => by simp [getE,AV],fun i => trivial,fun i hi => absurd rfl hi⟩
  have hH0 : ∀ (l : Nat) (u : Value),hs[l]? = some u → Al0 l ∧ H0 l = u := fun l u hl => ⟨(List.getElem?_eq_some_iff.1 hl).1,by simp [H0,List.getD,hl]⟩
  obtain ⟨l1,l2,Al1,H1,g0,g1,g2,g3,g4⟩ := enter_ok (a := a) F.ps x vs 0 hs hargs (Al := Al0) (H := H0) 0 ⟨[],[],hs.length,fn.ntmps⟩ (fun l u hl => by rw [Nat.zero_add]; exact hH0 l u hl) hg0 (fun i hi => hi) (fun i hi => by
   have : H0 i ∈ hs := by
    simp only [H0,List.getD]
    rw [List.getElem?_eq_getElem hi]
    exact List.getElem_mem hi
   exact hone _ this) htm
  have hns : vs.length ≤ fn.ntmps := by rw [l1]; exact Nat.le_of_ble_eq_true hn
  refine calls_of_wp hf hb ?_
  rw [← l2] at hr
  have hsok : SOK w ⟨D,hs⟩ R [] (enter F.ps x 0 0 ⟨[],[],hs.length,fn.ntmps⟩) a w := by
   refine ⟨D,R,Al1,H1,⟨rfl,rfl,rfl,Nat.le_refl _,fun _ _ _ => rfl,?_,?_,fun _ h => h,g1.ent,g1.al,g3,?_⟩,g1.env,g2,?_,rfl,fun p hp => by cases hp⟩
   ·intro b i p hb
    obtain ⟨h1,h2⟩ := hD b i p hb
    exact ⟨(g0 i h2).1,h1,.inr ⟨i,p,hb⟩⟩
   ·intro b hb
    exact ⟨(hR b hb).1,(hR b hb).2,.inr (.inl hb)⟩
   ·intro q u hq
    obtain ⟨h1,h2⟩ := hH0 q u hq
    exact ⟨(g0 q h1).1,((g0 q h1).2).trans h2⟩
   ·rw [g4]
    show (vs.toArray ++ Array.replicate (fn.ntmps - vs.toArray.size) undef).size = fn.ntmps
    simp
    omega
  refine aeval_ok hm hG hT (inlD_ok hm hG hT hB d) c _ an _ a w _ r hsok hr _ fun e st' a' w' hk hc hs => ?_
  obtain ⟨C,R',Al,H,hi,he,hn',hsz,hdf,_⟩ := hs
  have fin : ∀ {vs' cvs},AVs w' R' Al H vs' cvs → (fn.results.toList.mapM (resS a'.tmps)).run P w' = .ok cvs w' → ∀ r' is,endVs ⟨st'.env,frzR st'.sto F.rs vs' ++ st'.sto,st'.nxt,st'.sz⟩ F.rs (hands F.ps) vs' = some (r',is) → once is = true → (∀ i ∈ endIds (hands F.ps) 0,some i ∉ is) → r' = r →
    a'.defers = [] ∧ ∃ v,(Go.results fn a'.tmps).run P w' = .ok v w' ∧ ∃ v',Ending.returned v = .returned v' ∧ ResOK w w' R D hs F r v' := by
   intro vs' cvs h2 h3 r' is hend h4 h6 h5
   subst h5
   obtain ⟨C1,R1,i1,k1⟩ := hi.freezes _ (frzR_ok st'.sto F.rs vs')
   exact ⟨hdf,packC cvs,run_results h3,_,rfl,endOK i1 (AVs.of k1 _ _ h2) hend h4 h6 l2⟩
  cases e with
  | exit id => cases hk
  | normal =>
   simp only at hk
   obtain ⟨vs',cvs,h1,h2,h3⟩ := resVs_ok hT hi.ctx he _ _ _ hk
   split at h1
   ·rename_i r' is hend
    obtain ⟨h4,h5⟩ := chk_some h1
    rw [Bool.and_eq_true,List.all_eq_true] at h4
    exact fin h2 h3 r' is hend h4.1 (fun i hi => by have := h4.2 i hi; simpa using this) (Option.some.inj h5)
   ·cases h1
  | ret =>
   simp only at hk
   obtain ⟨vs',cvs,h1,h2,h3⟩ := resVs_ok hT hi.ctx he _ _ _ hk
   split at h1
   ·rename_i r' is hend
    obtain ⟨h4,h5⟩ := chk_some h1
    rw [Bool.and_eq_true,List.all_eq_true] at h4
    exact fin h2 h3 r' is hend h4.1 (fun i hi => by have := h4.2 i hi; simpa using this) (Option.some.inj h5)
   ·cases h1
end Go.Rv
namespace Go.Rv
def FU : Nat := 18446744073709551616
def funB (fn : Func) (F : FSpec) : Bool := !(fn.name == "runtime.NumGoroutine") && !fn.body.isNone && (bldF F).isNone && Nat.ble F.ps.length fn.ntmps

theorem bodyOK_nil {P : Program} : BodyOK P [] := fun g fn h => by cases h

theorem bodyOK_cons {P : Program} {f : Nat} {fn : Func} (hf : P.funcs[f]? = some fn) (hn : (fn.name == "runtime.NumGoroutine") = false) {B : Bodies} (hB : BodyOK P B) : BodyOK P ((f, fn) :: B) := by
 intro g fn' hg
 by_cases hgf : g = f
 ·subst hgf
  have h1 : Nat.beq g g = true := Nat.beq_refl g
  simp only [Bodies.get,h1,cond_true,Option.some.injEq] at hg
  subst hg
  exact ⟨hf,hn⟩
 ·have : Nat.beq g f = false := by
   cases hb : Nat.beq g f
   ·rfl
   ·exact absurd (Nat.eq_of_beq_eq_true hb) hgf
  simp only [Bodies.get,this,cond_false] at hg
  exact hB g fn' hg

theorem envOK_nil {P : Program} : EnvOK P [] := fun f F h => by cases h

theorem envOK_cons {P : Program} (hm : P.follows .mixedOrders = true) {T : Tab} (hT : TabOK P T) {G : Env} (hG : EnvOK P G) {f : Nat} {fn : Func} (hf : P.funcs[f]? = some fn) {F : FSpec} (hB : funB fn F = true) {an : Ann} {B : Bodies} (hBB : BodyOK P B) {d : Nat}
  (h : ∀ x r,F.run x = some r → ∃ fuel,afun G T B d fuel fn an F.ps F.rs x = some r) : EnvOK P ((f,F) :: G) := by
 unfold funB at hB
 simp only [Bool.and_eq_true,Bool.not_eq_true'] at hB
 intro g K hg
 by_cases hgf : g = f
 ·subst hgf
  have : F = K := by
   have h1 : Nat.beq g g = true := Nat.beq_refl g
   simp only [Env.get,h1,cond_true,Option.some.injEq] at hg
   exact hg
  subst this
  exact ⟨⟨fn,hf,hB.1.1.1,hB.1.1.2⟩,sound_of_afun hm hG hT hf hBB hB.2 h,fun t e hb => by have := hB.1.2; rw [hb] at this; cases this⟩
 ·have : Nat.beq g f = false := by
   cases hb : Nat.beq g f
   ·rfl
   ·exact absurd (Nat.eq_of_beq_eq_true hb) hgf
  simp only [Env.get,this,cond_false] at hg
  exact hG g K hg
end Go.Rv
namespace Go.Rv
theorem envOK_sound {P : Program} {G : Env} (hG : EnvOK P G) {f : Nat} {F : FSpec} (hr : Real P f) (hs : Sound P f F) (hb : BldOK P f F := by intro t e h; cases h) : EnvOK P ((f,F) :: G) := by
 intro g K hg
 by_cases hgf : g = f
 ·subst hgf
  have h1 : Nat.beq g g = true := Nat.beq_refl g
  simp only [Env.get,h1,cond_true,Option.some.injEq] at hg
  subst hg
  exact ⟨hr,hs,hb⟩
 ·have : Nat.beq g f = false := by
   cases hb : Nat.beq g f
   ·rfl
   ·exact absurd (Nat.eq_of_beq_eq_true hb) hgf
  simp only [Env.get,this,cond_false] at hg
  exact hG g K hg

end Go.Rv
namespace Go.Rv
open Go.RowKit Go.WideShapes Go.ChangeShapes

def kdLGo (P : Program) (rec : TypeId → Option Kd) : Nat → List Field → Option Kd
 | _,[] => none
 | off,f :: r => match rec f.type with
  | some a => match f.offset == off && P.cellsOf f.type == a.size with
   | true => match r with
    | [] => some a
    | _ :: _ => match kdLGo P rec (off + a.size) r with
     | some b => some (.pair a b)
     | none => none
   | false => none
  | none => none

def kdL (P : Program) : Nat → TypeId → Option Kd
 | 0,_ => none
 | n + 1,t => match P.underlying t with
  | some (.int k) => some (.int k)
  | some .bool => some .bool
  | some .string => some .str
  | some (.slice e) => match kdL P n e with
   | some k => match P.cellsOf e == k.size with
    | true => some (.sl none k)
    | false => none
   | none => none
  | some (.struct fs) => match kdLGo P (kdL P n) 0 fs.toList with
   | some k => match P.cellsOf t == k.size with
    | true => match fs.toList with
     | [_] => some (.one k)
     | _ => some k
    | false => none
   | none => none
  | _ => none

def WFk : (k : Kd) → k.ty → Prop
 | .int k,n => (Lit.int k n).wf = true
 | .bool,_ => True
 | .str,s => s.size ≤ maxLen
 | .sl _ e,xs => xs.length ≤ maxLen ∧ ∀ x ∈ xs,WFk e x
 | .one a,x => WFk a x
 | .pair a b,x => WFk a x.1 ∧ WFk b x.2

theorem mapM_range {α : Type} (f : Nat → Option α) : ∀ (n b : Nat) (l : List α),(List.range' b n).mapM f = some l → l.length = n ∧ ∀ j x,l[j]? = some x → f (b + j) = some x
 | 0,b,l,h => by
  simp at h
  subst h
  exact ⟨rfl,by simp⟩
 | n + 1,b,l,h => by
  rw [List.range'_succ,List.mapM_cons] at h
  cases hf : f b with
  | none => rw [hf] at h; cases h
  | some y =>
   cases hr : (List.range' (b + 1) n).mapM f with
   | none => rw [hf,hr] at h; cases h
   | some ys =>
    rw [hf,hr] at h
    have h : some (y :: ys) = some l := h
    simp only [Option.some.injEq] at h
    subst h
    obtain ⟨h1,h2⟩ := mapM_range f n (b + 1) ys hr
    refine ⟨by simp [h1],fun j x hx => ?_⟩
    cases j with
    | zero => simp at hx; subst hx; exact hf
    | succ j => rw [show b + (j + 1) = b + 1 + j from by omega]; exact h2 j x (by simpa using hx)

section
variable {T : Type} {enc : TypeId × Value → T} {P : Program} {w : World} {sp : Nat → Bool} {hd : Bool}

abbrev RD (w : World) : Nat → Prop := fun b => b < w.heap.size

theorem lst_of {e : Kd} (cellAt : Nat → List Value) (g : Nat → List Value → Prop) (hg : ∀ j cs,g j cs → ∃ x : e.ty,Rp w noC (RD w) 0 e x [] cs ∧ WFk e x) : ∀ (n b : Nat),(∀ j,j < n → g (b + j) (cellAt (b + j))) →
  ∃ xs : List e.ty,xs.length = n ∧ (∀ x ∈ xs,WFk e x) ∧ Lst (fun j x c => Rp w noC (RD w) 0 e x [j] c) b xs ((List.range' b n).flatMap cellAt)
 | 0,b,_ => ⟨[],rfl,by simp,rfl⟩
 | n + 1,b,h => by
  obtain ⟨x,h1,h2⟩ := hg _ _ (h 0 (by omega))
  obtain ⟨xs,i1,i2,i3⟩ := lst_of cellAt g hg n (b + 1) (fun j hj => by have := h (j + 1) (by omega); rwa [show b + (j + 1) = b + 1 + j from by omega] at this)
  refine ⟨x :: xs,by simp [i1],fun y hy => ?_,cellAt b,(List.range' (b + 1) n).flatMap cellAt,?_,noC_path _ _ _ _ _ h1,i3⟩
  ·rcases List.mem_cons.1 hy with hy | hy
   ·subst hy; exact h2
   ·exact i2 y hy
  ·rw [List.range'_succ,List.flatMap_cons]

theorem cells?_spec {a : Addr} {n : Nat} {cs : List Value} (h : w.cells? 0 a n = some cs) : cs.length = n ∧ ∀ (j : Nat) (u : Value),cs[j]? = some u → w.cell? (a.add j) = some u := by
 unfold World.cells? at h
 rw [if_pos (Nat.zero_le _),List.range_eq_range'] at h
 obtain ⟨h1,h2⟩ := mapM_range _ n 0 cs h
 exact ⟨h1,fun j u hj => by simpa using h2 j u hj⟩

theorem flat_get {s : Nat} (cellAt : Nat → List Value) : ∀ (n b : Nat),(∀ j,j < n → (cellAt (b + j)).length = s) → ∀ (q : Nat) (u : Value),((List.range' b n).flatMap cellAt)[q]? = some u → ∃ j o,j < n ∧ o < s ∧ q = j * s + o ∧ (cellAt (b + j))[o]? = some u
 | 0,b,_,q,u,h => by simp at h
 | n + 1,b,hl,q,u,h => by
  rw [List.range'_succ,List.flatMap_cons] at h
  have hl0 : (cellAt b).length = s := hl 0 (by omega)
  by_cases hq : q < (cellAt b).length
  ·rw [List.getElem?_append_left hq] at h
   exact ⟨0,q,by omega,by omega,by omega,h⟩
  ·rw [List.getElem?_append_right (by omega)] at h
   obtain ⟨j,o,h1,h2,h3,h4⟩ := flat_get cellAt n (b + 1) (fun j hj => by have := hl (j + 1) (by omega); rwa [show b + (j + 1) = b + 1 + j from by omega] at this) _ _ h
   refine ⟨j + 1,o,by omega,h2,?_,by rw [show b + (j + 1) = b + 1 + j from by omega]; exact h4⟩
   rw [Nat.add_mul,Nat.one_mul]
   omega

theorem fields_of {n fuel : Nat} {cs : List Value} (ih : ∀ t k,kdL P n t = some k → ∀ cs y,DataW.trod enc P w 0 sp hd fuel t cs = some y → ∃ x : k.ty,Rp w noC (RD w) 0 k x [] cs ∧ WFk k x) :
  ∀ (fs : List Field) (off : Nat) (k : Kd),kdLGo P (kdL P n) off fs = some k → (∀ f ∈ fs,∃ y,DataW.trod enc P w 0 sp hd fuel f.type ((cs.drop f.offset).take (P.cellsOf f.type)) = some y) → ∃ x : k.ty,Rp w noC (RD w) 0 k x [] ((cs.drop off).take k.size) ∧ WFk k x
 | [],off,k,h => by simp [kdLGo] at h
 | f :: r,off,k,h => by
  intro hds
  simp only [kdLGo] at h
  split at h
  ·rename_i a ha
   split at h
   ·rename_i hc
    simp only [Bool.and_eq_true,beq_iff_eq] at hc
    obtain ⟨c1,c2⟩ := hc
    obtain ⟨dp,hd1⟩ := hds f (by simp)
    obtain ⟨x,h1,h2⟩ := ih f.type a ha _ dp hd1
    rw [c1,c2] at h1
    split at h
    ·simp only [Option.some.injEq] at h
     subst h
     exact ⟨x,h1,h2⟩
    ·rename_i g r'
     split at h
     ·rename_i b hb
      simp only [Option.some.injEq] at h
      subst h
      obtain ⟨y,h3,h4⟩ := fields_of ih (g :: r') (off + a.size) b hb (fun f hf => hds f (by simp only [List.mem_cons] at hf ⊢; exact .inr hf))
      refine ⟨(x,y),⟨_,_,?_,noC_path _ _ _ _ _ h1,noC_path _ _ _ _ _ h3⟩,h2,h4⟩
      show (cs.drop off).take (a.size + b.size) = _
      rw [List.take_add,List.drop_drop]
     ·cases h
   ·cases h
  ·cases h

theorem trod_rp : ∀ (n : Nat) (t : TypeId) (k : Kd),kdL P n t = some k → ∀ (fuel : Nat) (cs : List Value) (y : DataW T × List MemPlace),DataW.trod enc P w 0 sp hd fuel t cs = some y → ∃ x : k.ty,Rp w noC (RD w) 0 k x [] cs ∧ WFk k x
 | 0,t,k,h => by simp [kdL] at h
 | n + 1,t,k,h => by
  intro fuel cs y hd'
  have ih := fun fuel t k h cs y hd' => trod_rp n t k h fuel cs y hd'
  simp only [kdL] at h
  cases hu : P.underlying t with
  | none => rw [hu] at h; cases h
  | some desc =>
   rw [hu] at h
   cases desc <;> simp only at h <;> first | (cases h; done) | skip
   case bool =>
    simp only [Option.some.injEq] at h
    subst h
    obtain ⟨b,h1,_⟩ := DataW.trod_bool hu hd'
    exact ⟨b,h1,trivial⟩
   case int ik =>
    simp only [Option.some.injEq] at h
    subst h
    obtain ⟨b,h1,_,h2⟩ := DataW.trod_int hu hd'
    exact ⟨b,h1,h2⟩
   case string =>
    simp only [Option.some.injEq] at h
    subst h
    obtain ⟨b,h1,_,h2⟩ := DataW.trod_string hu hd'
    exact ⟨b,h1,h2⟩
   case slice e =>
    split at h
    ·rename_i k' hk'
     split at h
     ·rename_i hc
      simp only [beq_iff_eq] at hc
      simp only [Option.some.injEq] at h
      subst h
      rcases DataW.trod_slice hu hd' with ⟨rfl,_⟩ | ⟨a,len,cap,elems,rest,m,_,rfl,rfl,_,hlc,hcm,hlen,hel,_⟩
      ·exact ⟨[],⟨none,0,0,[],rfl,rfl,Nat.le_refl _,rfl,.inl rfl⟩,by simp,fun x hx => by cases hx⟩
      ·have each : ∀ i,i < len → ∃ cs y,w.cells? 0 (a.add (i * P.cellsOf e)) (P.cellsOf e) = some cs ∧ DataW.trod enc P w 0 sp hd m e cs = some y := by
        intro i hi
        have h1 := hel i hi
        rw [List.getElem?_eq_getElem (by omega)] at h1
        obtain ⟨cs,h2,h3⟩ := Option.bind_eq_some_iff.1 h1
        exact ⟨cs,_,h2,h3⟩
       let cellAt : Nat → List Value := fun i => (w.cells? 0 (a.add (i * P.cellsOf e)) (P.cellsOf e)).getD []
       have hca : ∀ i,i < len → ∃ y,w.cells? 0 (a.add (i * P.cellsOf e)) (P.cellsOf e) = some (cellAt i) ∧ DataW.trod enc P w 0 sp hd m e (cellAt i) = some y := by
        intro i hi
        obtain ⟨cs,y,h1,h2⟩ := each i hi
        exact ⟨y,by simp only [cellAt,h1,Option.getD_some],by simp only [cellAt,h1,Option.getD_some]; exact h2⟩
       obtain ⟨xs,h1,h2,h3⟩ := lst_of (e := k') cellAt (fun _ cs => ∃ y,DataW.trod enc P w 0 sp hd m e cs = some y) (fun _ cs ⟨y,hy⟩ => ih m e k' hk' cs y hy) len 0 (fun j hj => by
        obtain ⟨y,_,h⟩ := hca j hj
        exact ⟨y,by rw [Nat.zero_add]; exact h⟩)
       refine ⟨xs,⟨some a,len,cap,_,rfl,h1.symm,hlc,h3,?_⟩,by omega,h2⟩
       cases hx : xs with
       | nil => exact .inl rfl
       | cons x0 xs0 =>
        right
        have hpos : 0 < len := by rw [← h1,hx]; simp
        have hcell : ∀ (q : Nat) (u : Value),((List.range' 0 len).flatMap cellAt)[q]? = some u → w.cell? (a.add q) = some u := by
         intro q u hq
         obtain ⟨j,o,h4,h5,h6,h7⟩ := flat_get (s := P.cellsOf e) cellAt len 0 (fun j hj => by
          obtain ⟨y,h,_⟩ := hca j hj
          rw [Nat.zero_add]
          exact (cells?_spec h).1) q u hq
         obtain ⟨y,h8,_⟩ := hca j h4
         rw [Nat.zero_add] at h7
         have h9 := (cells?_spec h8).2 o u h7
         rw [Addr.add_add] at h9
         rw [h6]
         exact h9
        -- the first cell
        obtain ⟨y0,h4,h5⟩ := hca 0 hpos
        obtain ⟨l1,l2⟩ := cells?_spec h4
        have hs : 0 < P.cellsOf e := by rw [hc]; exact k'.size_pos
        have h6 := l2 0 (cellAt 0)[0] (List.getElem?_eq_getElem (by omega))
        rw [Addr.add_add] at h6
        have h7 : w.cell? a = some (cellAt 0)[0] := by simpa [Addr.add] using h6
        refine ⟨a,rfl,?_,?_,hcell⟩
        ·unfold World.cell? at h7
         split at h7
         ·cases hsp : a.spot with
          | none => rfl
          | some s => rw [hsp] at h7; simp at h7
         ·cases h7
        ·unfold World.cell? at h7
         split at h7
         ·rename_i hh
          exact (Array.getElem?_eq_some_iff.1 hh).1
         ·cases h7
     ·cases h
    ·cases h
   case struct fs =>
    split at h
    ·rename_i k' hk'
     split at h
     ·rename_i hc
      simp only [beq_iff_eq] at hc
      obtain ⟨xs,m,rfl,rfl,hl,hlen,hf⟩ := DataW.trod_struct hu hd'
      obtain ⟨x,h1,h2⟩ := fields_of (fuel := m) (cs := cs) (ih m) fs.toList 0 k' hk' (fun f hfm => by
       obtain ⟨i,hi⟩ := List.getElem?_of_mem hfm
       have hlt := (List.getElem?_eq_some_iff.1 hi).1
       have h1 := hf i f (by rw [← Array.getElem?_toList]; exact hi)
       rw [List.getElem?_eq_getElem (by simp at hlt; omega)] at h1
       exact ⟨_,h1⟩)
      rw [List.drop_zero,List.take_of_length_le (by omega)] at h1
      split at h
      ·simp only [Option.some.injEq] at h
       subst h
       exact ⟨x,h1,h2⟩
      ·simp only [Option.some.injEq] at h
       subst h
       exact ⟨x,h1,h2⟩
     ·cases h
    ·cases h
end

theorem kdL_shaped {P : Program} {n : Nat} {t : TypeId} {k : Kd} (h : kdL P n t = some k) {w : World} {b : Nat} {r : Reach} {v : Value} (hv : Value.okWide P w r b t v) : Shaped k v ∧ k.ro = true := by
 have ro : ∀ n t k,kdL P n t = some k → k.ro = true := by
  intro n
  induction n with
  | zero => intro t k h; simp [kdL] at h
  | succ n ih =>
   have ihGo : ∀ (fs : List Field) (off : Nat) (k : Kd),kdLGo P (kdL P n) off fs = some k → k.ro = true := by
    intro fs
    induction fs with
    | nil => intro off k h; simp [kdLGo] at h
    | cons f r ihr =>
     intro off k h
     simp only [kdLGo] at h
     split at h
     ·rename_i a ha
      split at h
      ·split at h
       ·simp only [Option.some.injEq] at h; subst h; exact ih _ _ ha
       ·rename_i g r'
        split at h
        ·rename_i b hb
         simp only [Option.some.injEq] at h
         subst h
         simp only [Kd.ro,ih _ _ ha,cond_true]
         exact ihr _ _ hb
        ·cases h
      ·cases h
     ·cases h
   intro t k h
   simp only [kdL] at h
   cases hu : P.underlying t with
   | none => rw [hu] at h; cases h
   | some desc =>
    rw [hu] at h
    cases desc <;> simp only at h <;> first | (cases h; done) | skip
    case bool => simp only [Option.some.injEq] at h; subst h; rfl
    case int ik => simp only [Option.some.injEq] at h; subst h; rfl
    case string => simp only [Option.some.injEq] at h; subst h; rfl
    case slice e =>
     split at h
     ·rename_i k' hk'
      split at h
      ·simp only [Option.some.injEq] at h; subst h; exact (ih _ _ hk' : k'.ro = true)
      ·cases h
     ·cases h
    case struct fs =>
     split at h
     ·rename_i k' hk'
      split at h
      ·split at h
       ·simp only [Option.some.injEq] at h; subst h; exact (ihGo _ _ _ hk' : k'.ro = true)
       ·simp only [Option.some.injEq] at h; subst h; exact ihGo _ _ _ hk'
      ·cases h
     ·cases h
 refine ⟨?_,ro n t k h⟩
 cases n with
 | zero => simp [kdL] at h
 | succ n =>
  have aggGo : ∀ (f g : Field) (r : List Field) (off : Nat) (k : Kd),kdLGo P (kdL P n) off (f :: g :: r) = some k → k.agg = true := by
   intro f g r off k h
   simp only [kdLGo] at h
   split at h
   ·split at h
    ·split at h
     ·simp only [Option.some.injEq] at h; subst h; rfl
     ·cases h
    ·cases h
   ·cases h
  simp only [kdL] at h
  unfold Shaped
  cases hu : P.underlying t with
  | none => rw [hu] at h; cases h
  | some desc =>
   rw [hu] at h
   cases desc <;> simp only at h <;> first | (cases h; done) | skip
   case bool => simp only [Option.some.injEq] at h; subst h; obtain ⟨x,rfl⟩ := okWide_bool hu hv; rfl
   case int ik => simp only [Option.some.injEq] at h; subst h; obtain ⟨x,rfl⟩ := okWide_int hu hv; rfl
   case string => simp only [Option.some.injEq] at h; subst h; obtain ⟨x,rfl⟩ := okWide_string hu hv; rfl
   case slice e =>
    split at h
    ·split at h
     ·simp only [Option.some.injEq] at h; subst h; obtain ⟨a,l,c,rfl⟩ := okWide_slice hu hv; rfl
     ·cases h
    ·cases h
   case struct fs =>
    obtain ⟨cs,rfl,_⟩ := okWide_struct hu hv
    have hagg : k.agg = true := by
     split at h
     ·rename_i k' hk'
      split at h
      ·split at h
       ·simp only [Option.some.injEq] at h; subst h; rfl
       ·rename_i hne
        simp only [Option.some.injEq] at h
        subst h
        cases hfs : fs.toList with
        | nil => rw [hfs] at hk'; simp [kdLGo] at hk'
        | cons f r =>
         cases r with
         | nil => exact absurd hfs (hne f)
         | cons g r => rw [hfs] at hk'; exact aggGo _ _ _ _ _ hk'
      ·cases h
     ·cases h
    rw [hagg]
    exact ⟨cs,rfl⟩

def WFs : (ps : List PK) → Tup (ps.map PK.kd) → Prop
 | [],_ => True
 | [p],x => WFk p.kd x
 | p :: p' :: ps,x => WFk p.kd x.1 ∧ WFs (p' :: ps) x.2

def paramsB (P : Program) : List TypeId → List PK → Bool
 | [],[] => true
 | t :: ts,.val k :: ps => kdL P 20 t == some k && P.readableRec t && decide (t < P.types.size) && paramsB P ts ps
 | _,_ => false

theorem params_ok {T : Type} {enc : TypeId × Value → T} {P : Program} {w : World} {b : Nat} {r : Reach} : ∀ (ps : List PK) (ts : List TypeId) (vs : List Value) (ds : List (DataW T)) (pl : List MemPlace),paramsB P ts ps = true → DataW.TrodAll enc P w 0 (fun _ => true) true ts vs ds pl →
  (∀ (j : Nat) t v,ts[j]? = some t → vs[j]? = some v → Value.okWide P w r b t v) → ∃ x : Tup (ps.map PK.kd),ArgsOK w (RD w) (fun _ => none) 0 ps x vs [] ∧ WFs ps x
 | [],[],vs,ds,pl,_,h,_ => by
  obtain ⟨rfl,_⟩ := Go.ChangeShapes.trodAll_nil h
  exact ⟨(),⟨rfl,rfl⟩,trivial⟩
 | [],_ :: _,_,_,_,hB,_,_ => by simp [paramsB] at hB
 | .box _ :: _,[],_,_,_,hB,_,_ => by simp [paramsB] at hB
 | .val _ :: _,[],_,_,_,hB,_,_ => by simp [paramsB] at hB
 | .row _ _ :: _,[],_,_,_,hB,_,_ => by simp [paramsB] at hB
 | .own _ _ :: _,[],_,_,_,hB,_,_ => by simp [paramsB] at hB
 | .fn _ :: _,[],_,_,_,hB,_,_ => by simp [paramsB] at hB
 | .fbox _ _ :: _,[],_,_,_,hB,_,_ => by simp [paramsB] at hB
 | .rp _ :: _,[],_,_,_,hB,_,_ => by simp [paramsB] at hB
 | .box _ :: _,_ :: _,_,_,_,hB,_,_ => by simp [paramsB] at hB
 | .row _ _ :: _,_ :: _,_,_,_,hB,_,_ => by simp [paramsB] at hB
 | .own _ _ :: _,_ :: _,_,_,_,hB,_,_ => by simp [paramsB] at hB
 | .fn _ :: _,_ :: _,_,_,_,hB,_,_ => by simp [paramsB] at hB
 | .fbox _ _ :: _,_ :: _,_,_,_,hB,_,_ => by simp [paramsB] at hB
 | .rp _ :: _,_ :: _,_,_,_,hB,_,_ => by simp [paramsB] at hB
 | .val k :: ps,t :: ts,vs,ds,pl,hB,h,hv => by
  simp only [paramsB,Bool.and_eq_true,beq_iff_eq] at hB
  obtain ⟨⟨⟨h1,_⟩,_⟩,h2⟩ := hB
  obtain ⟨v0,vs0,d0,ds0,p0,q0,rfl,rfl,rfl,h3,h4⟩ := Go.ChangeShapes.trodAll_cons h
  obtain ⟨fuel,h3⟩ := h3
  obtain ⟨x,hx,hw⟩ := trod_rp 20 t k h1 fuel _ _ h3
  obtain ⟨hsh,hro⟩ := kdL_shaped h1 (hv 0 t v0 rfl rfl)
  obtain ⟨y,hy,hyw⟩ := params_ok ps ts vs0 ds0 q0 h2 h4 (fun j t v ht hvv => hv (j + 1) t v (by simpa using ht) (by simpa using hvv))
  have ha : ArgOK w (RD w) (fun _ => none) 0 (.val k) x v0 [] := ⟨rfl,hro,hsh,hx⟩
  cases ps with
  | nil =>
   obtain ⟨rfl,_⟩ := hy
   exact ⟨x,⟨v0,rfl,ha⟩,hw⟩
  | cons p ps =>
   exact ⟨(x,y),⟨v0,vs0,[],[],rfl,rfl,ha,hy⟩,hw,hyw⟩

theorem trodAll_stays {T : Type} {enc : TypeId × Value → T} {P : Program} (hl : laidOutB P = true) {W W' : World} (hb : Below W.heap.size W W') : ∀ (ps : List PK) (ts : List TypeId) (vs : List Value) (ds : List (DataW T)) (pl : List MemPlace),paramsB P ts ps = true →
  DataW.TrodAll enc P W 0 (fun _ => true) true ts vs ds pl → DataW.TrodAll enc P W' 0 (fun b => decide (b < W.heap.size)) true ts vs ds pl
 | [],[],vs,ds,pl,_,h => by
  obtain ⟨rfl,rfl,rfl⟩ := Go.ChangeShapes.trodAll_nil h
  exact rfl
 | [],_ :: _,_,_,_,hB,_ => by simp [paramsB] at hB
 | .box _ :: _,[],_,_,_,hB,_ => by simp [paramsB] at hB
 | .val _ :: _,[],_,_,_,hB,_ => by simp [paramsB] at hB
 | .row _ _ :: _,[],_,_,_,hB,_ => by simp [paramsB] at hB
 | .own _ _ :: _,[],_,_,_,hB,_ => by simp [paramsB] at hB
 | .fn _ :: _,[],_,_,_,hB,_ => by simp [paramsB] at hB
 | .fbox _ _ :: _,[],_,_,_,hB,_ => by simp [paramsB] at hB
 | .rp _ :: _,[],_,_,_,hB,_ => by simp [paramsB] at hB
 | .box _ :: _,_ :: _,_,_,_,hB,_ => by simp [paramsB] at hB
 | .row _ _ :: _,_ :: _,_,_,_,hB,_ => by simp [paramsB] at hB
 | .own _ _ :: _,_ :: _,_,_,_,hB,_ => by simp [paramsB] at hB
 | .fn _ :: _,_ :: _,_,_,_,hB,_ => by simp [paramsB] at hB
 | .fbox _ _ :: _,_ :: _,_,_,_,hB,_ => by simp [paramsB] at hB
 | .rp _ :: _,_ :: _,_,_,_,hB,_ => by simp [paramsB] at hB
 | .val k :: ps,t :: ts,vs,ds,pl,hB,h => by
  have hlt := DataW.TrodAll.lt h
  simp only [paramsB,Bool.and_eq_true,decide_eq_true_eq] at hB
  obtain ⟨⟨⟨_,h1⟩,h1'⟩,h2⟩ := hB
  obtain ⟨v0,vs0,d0,ds0,p0,q0,rfl,rfl,rfl,h3,h4⟩ := Go.ChangeShapes.trodAll_cons h
  exact ⟨p0,q0,hb.trod hl h1 h1' h3 (fun x hx => hlt x (by simp [hx])),trodAll_stays hl hb ps ts vs0 ds0 q0 h2 h4,rfl⟩

theorem law_callsK {t4 : TypeId} {C : Checked} {f : FuncId} {fn : Func} {F : FSpec} (hS : Sound C.prog f F) (hl : laidOutB C.prog = true) (hB : paramsB C.prog fn.params.toList F.ps = true) (hrt : fn.resultTypes = #[t4]) (ht4 : C.prog.underlying t4 = some .bool)
  (htrue : ∀ x,WFs F.ps x → ∃ q,F.run x = some q ∧ (results F.rs (hands F.ps) [] q 0).1 = [.bool true]) {s : ChangeSpec} (hvars : s.vars = []) {n : Nat} (hn : fn.params.toList.length = n)
  (hfn : ∀ (T : Type) (ds : List (DataW T)),ds.length = n → (s.fn T ds).results = [.lit (.bool true)] ∧ (s.fn T ds).args = ds ∧ (s.fn T ds).vars = [])
  {T : Type} {enc : TypeId × Value → T} {W : World} {base : Nat} {args : Array Value} {ds gs : List (DataW T)} {before : List MemPlace}
  (hval : ∀ (j : Nat) t v,fn.params[j]? = some t → args[j]? = some v → Value.okWide C.prog W .any base t v) (hW : DataW.Whole enc C.prog fn.params.toList s.vars false W args.toList ds gs before) (hkp : Keeps C.prog W (RD W)) :
  Calls C.prog f args W fun e W' => ∃ v,e = .returned v ∧ s.post enc C.prog fn false true false false W args v W' := by
 have hW' := hW
 obtain ⟨p,q,hA,hV,rfl,hfz,hnd⟩ := hW
 obtain ⟨x,hargs,hwf⟩ := params_ok F.ps fn.params.toList args.toList ds p hB hA (fun j t v ht hv => hval j t v (by simpa using ht) (by simpa using hv))
 obtain ⟨r,hr,hres⟩ := htrue x hwf
 rw [hvars] at hV
 obtain ⟨rfl,rfl⟩ := Go.ChangeShapes.trodVars_none hV
 have hcall := hS W (RD W) args.toList x (fun _ => none) [] hargs (fun b hb => ⟨hb,rfl⟩) (fun b q p h => by cases h) hkp r hr
 rw [Array.toArray_toList] at hcall
 refine hcall.mono ?_
 rintro e W' ⟨v,rfl,os,tape,output,size,same,hat⟩
 have bel : Below W.heap.size W W' := ⟨os,tape,output,size,fun k hk => same k hk rfl⟩
 obtain ⟨C',H',R',hat⟩ := hat 0 [] rfl List.nodup_nil (by simp)
 have hv := hat.val
 rw [hres] at hv
 simp only [packV,AV] at hv
 subst hv
 obtain ⟨hlen,hlen'⟩ := trodAll_length hA
 obtain ⟨f1,f2,f3⟩ := hfn T ds (by rw [hlen']; exact hn)
 refine ⟨_,rfl,ds,[],_,[],p,[],hW',?_,?_,?_,bel.frame _,fun h => by cases h⟩
 ·rw [hrt,List.append_nil,f1]
  exact Go.ChangeShapes.trodAll_mk1 (shut_bool ht4 _)
 ·rw [List.append_nil,f2]
  exact trodAll_stays hl bel F.ps _ _ _ _ hB hA
 ·rw [List.append_nil,f3,hvars]
  exact rfl
theorem law_calls {t4 : TypeId} {C : Checked} {f : FuncId} {fn : Func} {F : FSpec} (hS : Sound C.prog f F) (hno : C.prog.globalNamed "internal/strconv.uint64pow10" = none) (hl : laidOutB C.prog = true) (hB : paramsB C.prog fn.params.toList F.ps = true) (hrt : fn.resultTypes = #[t4]) (ht4 : C.prog.underlying t4 = some .bool)
  (htrue : ∀ x,WFs F.ps x → ∃ q,F.run x = some q ∧ (results F.rs (hands F.ps) [] q 0).1 = [.bool true]) {s : ChangeSpec} (hvars : s.vars = []) {n : Nat} (hn : fn.params.toList.length = n)
  (hfn : ∀ (T : Type) (ds : List (DataW T)),ds.length = n → (s.fn T ds).results = [.lit (.bool true)] ∧ (s.fn T ds).args = ds ∧ (s.fn T ds).vars = [])
  {T : Type} {enc : TypeId × Value → T} {W : World} {base : Nat} {args : Array Value} {ds gs : List (DataW T)} {before : List MemPlace}
  (hval : ∀ (j : Nat) t v,fn.params[j]? = some t → args[j]? = some v → Value.okWide C.prog W .any base t v) (hW : DataW.Whole enc C.prog fn.params.toList s.vars false W args.toList ds gs before) :
  Calls C.prog f args W fun e W' => ∃ v,e = .returned v ∧ s.post enc C.prog fn false true false false W args v W' :=
 law_callsK hS hl hB hrt ht4 htrue hvars hn hfn hval hW fun g hg => by rw [hno] at hg; cases hg
end Go.Rv
