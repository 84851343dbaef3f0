/- Operations that write or make memory are sound. No condition. -/
import Derived.Test.YtjamkpjjlpmofaaGreatRvB
namespace Go.Rv

theorem Heads.mono {w w' : World} {v hv : Value} {e : Kd} {n : Nat} (h : Heads w v e n hv) (hb : ∀ g,ownB v = some g → w'.heap[g]? = w.heap[g]?) : Heads w' v e n hv := by
 refine ⟨h.1,fun g c N cur T o hv' hc hg => ?_⟩
 rw [hb g (by rw [hv']; exact ownB_of hc)] at hg
 exact h.2 g c N cur T o hv' hc hg

theorem EntOK.mono {w w' : World} {C C' : Col} {R R' Al Al' : Nat → Prop} {H H' : Nat → Value} {i : Nat} (hR : ∀ b,R b → R' b ∧ w'.heap[b]? = w.heap[b]?) (hA : ∀ j,Al j → Al' j ∧ H' j = H j) (hi : H' i = H i)
  (hC : ∀ b p,C b = some (i,p) → C' b = some (i,p) ∧ w'.heap[b]? = w.heap[b]?) : ∀ e : Ent,EntOK w C R Al H i e → EntOK w' C' R' Al' H' i e
 | .dead,_ => trivial
 | .box cs,h => by
  obtain ⟨b,cells,T,h1,h2,h3,h4⟩ := h
  exact ⟨b,cells,T,by rw [hi]; exact h1,(hC b _ h2).1,by rw [(hC b _ h2).2]; exact h3,AVs.mono hR hA _ _ h4⟩
 | .row t e xs,h => by
  simp only [EntOK] at h ⊢
  rw [hi]
  exact Rp.mono [] hR (fun b p hb => by simpa using hC b p hb) _ _ [] _ h
 | .fro e xs,h => by
  simp only [EntOK] at h ⊢
  rw [hi]
  exact Rp.mono [] hR (fun b p hb => by simp [noC] at hb) _ _ [] _ h
 | .nrow t e ver xs,h => by
  simp only [EntOK] at h ⊢
  obtain ⟨h1,h2,h3⟩ := h
  rw [hi,(hA ver h2).2]
  refine ⟨Rp.mono [] hR (fun b p hb => by simpa using hC b p hb) _ _ [] _ h1,(hA ver h2).1,h3.mono fun g hg => ?_⟩
  obtain ⟨v,fl,he,ho,hc,hl⟩ := h1
  simp only [List.cons.injEq,and_true] at he
  rw [he] at hg
  exact (hC g [] (hc g hg)).2
 | .ver,_ => trivial
 | .mp k v kvs,h => by
  obtain ⟨g,es,h1,h2,h3,h4,h5⟩ := h
  exact ⟨g,es,by rw [hi]; exact h1,(hC g _ h2).1,by rw [(hC g _ h2).2]; exact h3,h4,h5⟩
 | .it m n seen,h => by
  obtain ⟨b,g,h1,h2,h3,h4,h5,h6,h7⟩ := h
  exact ⟨b,g,by rw [hi]; exact h1,(hC b _ h2).1,(hA m h3).1,by rw [(hA m h3).2]; exact h4,h5,h6,by rw [(hC b _ h2).2]; exact h7⟩
 | .bld t e s,h => by
  obtain ⟨b,p,v,h1,h2,h3,h4,h5,h6⟩ := h
  exact ⟨b,p,v,by rw [hi]; exact h1,(hC b _ h2).1,by rw [(hC b _ h2).2]; exact h3,h4,ownsRow_same (fun g hg => (hC g _ (h6 g hg)).2) h5,fun g hg => (hC g _ (h6 g hg)).1⟩
 | .fbx k x,h => by
  obtain ⟨b,fl,h1,h2,h3⟩ := h
  exact ⟨b,fl,by rw [hi]; exact h1,h2.mono hR,Rp.mono [] hR (fun b p hb => by simp [noC] at hb) _ _ [] _ h3⟩

section
variable {w0 w : World} {L : Hnd} {R0 : Nat → Prop} {S : Upd} {C : Col} {R Al : Nat → Prop} {H : Nat → Value}

theorem Inv.ctx (h : Inv w0 L R0 S w C R Al H) : Ctx w C R Al H S :=
 ⟨h.ent,fun b i p hb => (h.col b i p hb).2.1,fun b hb => (h.rd b hb).1,h.al,h.one⟩

theorem Inv.upd (h : Inv w0 L R0 S w C R Al H) {w' : World} {S' : Upd} {C' : Col} {Al' : Nat → Prop} {H' : Nat → Value} (K D : Nat → Prop)
  (os : w'.os = w.os) (tape : w'.tape = w.tape) (output : w'.output = w.output) (size : w.heap.size ≤ w'.heap.size)
  (same : ∀ b,b < w.heap.size → ¬ D b → w'.heap[b]? = w.heap[b]?) (hD : ∀ b,D b → ∃ i p,C b = some (i,p) ∧ K i)
  (hC : ∀ b i p,¬ K i → (C' b = some (i,p) ↔ C b = some (i,p)))
  (hK : ∀ b i p,K i → C' b = some (i,p) → Al' i ∧ b < w'.heap.size ∧ (w0.heap.size ≤ b ∨ b ∈ L) ∧ ¬ R b)
  (hA : ∀ i,Al i → Al' i ∧ H' i = H i) (hA' : ∀ i,Al' i → ¬ Al i → (H' i).oneCell' = true)
  (hS : ∀ i,¬ K i → getS S' i = getS S i) (hE : ∀ i,K i → EntOK w' C' R Al' H' i (getS S' i)) (hKA : ∀ i,K i → Al' i) :
  Inv w0 L R0 S' w' C' R Al' H' ∧ ∀ x c,AV w R Al H x c → AV w' R Al' H' x c := by
 have hRs : ∀ b,R b → R b ∧ w'.heap[b]? = w.heap[b]? := fun b hb => ⟨hb,same b (h.rd b hb).1 (fun hd => by
  obtain ⟨i,p,h1,_⟩ := hD b hd
  rw [(h.rd b hb).2.1] at h1
  cases h1)⟩
 have hCs : ∀ b i p,¬ K i → C b = some (i,p) → C' b = some (i,p) ∧ w'.heap[b]? = w.heap[b]? := fun b i p hk hb => ⟨(hC b i p hk).2 hb,same b (h.col b i p hb).2.1 (fun hd => by
  obtain ⟨j,q,h1,h2⟩ := hD b hd
  rw [hb] at h1
  simp only [Option.some.injEq,Prod.mk.injEq] at h1
  exact hk (h1.1 ▸ h2))⟩
 refine ⟨⟨os.trans h.os,tape.trans h.tape,output.trans h.output,Nat.le_trans h.size size,?_,?_,?_,h.rd0,?_,?_,?_,fun q b hq => ⟨(hA q (h.pin q b hq).1).1,by rw [(hA q (h.pin q b hq).1).2]; exact (h.pin q b hq).2⟩⟩,fun x c => AV.mono hRs hA x c⟩
 ·intro b hb hl
  rw [same b (Nat.lt_of_lt_of_le hb h.size) (fun hd => by
   obtain ⟨i,p,h1,_⟩ := hD b hd
   rcases (h.col b i p h1).2.2 with h2 | h2
   ·omega
   ·exact hl h2)]
  exact h.frame b hb hl
 ·intro b i p hb
  by_cases hk : K i
  ·exact ⟨(hK b i p hk hb).1,(hK b i p hk hb).2.1,(hK b i p hk hb).2.2.1⟩
  ·have := h.col b i p ((hC b i p hk).1 hb)
   exact ⟨(hA i this.1).1,Nat.lt_of_lt_of_le this.2.1 size,this.2.2⟩
 ·intro b hb
  have := h.rd b hb
  refine ⟨Nat.lt_of_lt_of_le this.1 size,?_,this.2.2⟩
  cases hc : C' b with
  | none => rfl
  | some q =>
   obtain ⟨i,p⟩ := q
   by_cases hk : K i
   ·exact absurd hb (hK b i p hk hc).2.2.2
   ·have := (hC b i p hk).1 hc
    rw [(h.rd b hb).2.1] at this
    cases this
 ·intro i
  by_cases hk : K i
  ·exact hE i hk
  ·rw [hS i hk]
   by_cases hal : Al i
   ·exact EntOK.mono hRs hA (hA i hal).2 (fun b p hb => hCs b i p hk hb) _ (h.ent i)
   ·have : getS S i = .dead := Classical.byContradiction fun hn => hal (h.al i hn)
    rw [this]
    trivial
 ·intro i hi
  by_cases hk : K i
  ·exact hKA i hk
  ·rw [hS i hk] at hi
   exact (hA i (h.al i hi)).1
 ·intro i hi
  by_cases hal : Al i
  ·rw [(hA i hal).2]; exact h.one i hal
  ·exact hA' i hi hal

theorem getS_cons_self (S : Upd) (i : Nat) (e : Ent) : getS ((i,e) :: S) i = e := by simp [getS]
theorem getS_cons_ne (S : Upd) {i j : Nat} (e : Ent) (h : j ≠ i) : getS ((i,e) :: S) j = getS S j := by
 have : Nat.beq j i = false := by
  cases hb : Nat.beq j i
  ·rfl
  ·exact absurd (Nat.eq_of_beq_eq_true hb) h
 show cond (Nat.beq j i) e (getS S j) = _
 rw [this]
 rfl

theorem Inv.newBox (h : Inv w0 L R0 S w C R Al H) {n : Nat} (hn : ∀ i,Al i → i < n) {cs : List AVal} {cells : Array Value} (T : TypeId) (hcs : AVs w R Al H cs cells.toList) :
  ∃ C' Al' H',Inv w0 L R0 ((n,.box cs) :: S) (w.alloc (.cells cells T)) C' R Al' H' ∧ (∀ i,Al' i → i < n + 1) ∧ AV (w.alloc (.cells cells T)) R Al' H' (.ptr n 0) (.pointer (some ⟨w.heap.size,0,none⟩)) ∧
   ∀ x c,AV w R Al H x c → AV (w.alloc (.cells cells T)) R Al' H' x c := by
 let C' : Col := fun b => if b = w.heap.size then some (n,[]) else C b
 let Al' : Nat → Prop := fun i => Al i ∨ i = n
 let H' : Nat → Value := fun i => if i = n then .pointer (some ⟨w.heap.size,0,none⟩) else H i
 have hA : ∀ i,Al i → Al' i ∧ H' i = H i := fun i hi => ⟨.inl hi,by have := hn i hi; simp only [H']; rw [if_neg (by omega)]⟩
 have hR : ∀ b,R b → R b ∧ (w.alloc (.cells cells T)).heap[b]? = w.heap[b]? := fun b hb => ⟨hb,heap_alloc_old w _ b (h.rd b hb).1⟩
 have key := h.upd (w' := w.alloc (.cells cells T)) (S' := (n,.box cs) :: S) (C' := C') (Al' := Al') (H' := H') (fun i => i = n) (fun _ => False) rfl rfl rfl (by simp) (fun b hb _ => heap_alloc_old w _ b hb) (fun b hd => hd.elim)
  (fun b i p hi => by
   simp only [C']
   by_cases hb : b = w.heap.size
   ·rw [if_pos hb]
    constructor
    ·intro he; simp only [Option.some.injEq,Prod.mk.injEq] at he; exact absurd he.1.symm hi
    ·intro he; have := (h.col b i p he).2.1; omega
   ·rw [if_neg hb])
  (fun b i p hi hb => by
   simp only [C'] at hb
   by_cases hbs : b = w.heap.size
   ·subst hbs
    exact ⟨.inr hi,by simp,.inl h.size,fun hr => by have := (h.rd _ hr).1; omega⟩
   ·rw [if_neg hbs] at hb
    have := (h.col b i p hb).1
    have := hn i this
    omega)
  hA (fun i hi hal => by
   rcases hi with hi | hi
   ·exact absurd hi hal
   ·simp only [H']; rw [if_pos hi]; rfl)
  (fun i hi => getS_cons_ne _ _ hi)
  (fun i hi => by
   subst hi
   rw [getS_cons_self]
   exact ⟨w.heap.size,cells,T,by simp [H'],by simp [C'],heap_alloc_new w _,AVs.mono hR hA _ _ hcs⟩)
  (fun i hi => .inr hi)
 refine ⟨C',Al',H',key.1,fun i hi => ?_,?_,key.2⟩
 ·rcases hi with hi | hi
  ·have := hn i hi; omega
  ·omega
 ·simp only [AV]
  exact ⟨.inr rfl,w.heap.size,by simp [H'],rfl⟩

theorem Inv.newEnt (h : Inv w0 L R0 S w C R Al H) {n : Nat} (hn : ∀ i,Al i → i < n) (o : Obj) {v : Value} (hv : v.oneCell' = true) {ent : Ent}
  (hent : ∀ (C' : Col) (Al' : Nat → Prop) (H' : Nat → Value),C' w.heap.size = some (n,[]) → H' n = v → (∀ i,Al i → Al' i ∧ H' i = H i) → EntOK (w.alloc o) C' R Al' H' n ent) :
  ∃ C' Al' H',Inv w0 L R0 ((n,ent) :: S) (w.alloc o) C' R Al' H' ∧ (∀ i,Al' i → i < n + 1) ∧ AV (w.alloc o) R Al' H' (.ref n) v ∧
   ∀ x c,AV w R Al H x c → AV (w.alloc o) R Al' H' x c := by
 let C' : Col := fun b => if b = w.heap.size then some (n,[]) else C b
 let Al' : Nat → Prop := fun i => Al i ∨ i = n
 let H' : Nat → Value := fun i => if i = n then v else H i
 have hA : ∀ i,Al i → Al' i ∧ H' i = H i := fun i hi => ⟨.inl hi,by have := hn i hi; simp only [H']; rw [if_neg (by omega)]⟩
 have key := h.upd (w' := w.alloc o) (S' := (n,ent) :: S) (C' := C') (Al' := Al') (H' := H') (fun i => i = n) (fun _ => False) rfl rfl rfl (by simp) (fun b hb _ => heap_alloc_old w _ b hb) (fun b hd => hd.elim)
  (fun b i p hi => by
   simp only [C']
   by_cases hb : b = w.heap.size
   ·rw [if_pos hb]
    constructor
    ·intro he; simp only [Option.some.injEq,Prod.mk.injEq] at he; exact absurd he.1.symm hi
    ·intro he; have := (h.col b i p he).2.1; omega
   ·rw [if_neg hb])
  (fun b i p hi hb => by
   simp only [C'] at hb
   by_cases hbs : b = w.heap.size
   ·subst hbs
    exact ⟨.inr hi,by simp,.inl h.size,fun hr => by have := (h.rd _ hr).1; omega⟩
   ·rw [if_neg hbs] at hb
    have := (h.col b i p hb).1
    have := hn i this
    omega)
  hA (fun i hi hal => by
   rcases hi with hi | hi
   ·exact absurd hi hal
   ·simp only [H']; rw [if_pos hi]; exact hv)
  (fun i hi => getS_cons_ne _ _ hi)
  (fun i hi => by
   subst hi
   rw [getS_cons_self]
   exact hent C' Al' H' (by simp [C']) (by simp [H']) hA)
  (fun i hi => .inr hi)
 refine ⟨C',Al',H',key.1,fun i hi => ?_,?_,key.2⟩
 ·rcases hi with hi | hi
  ·have := hn i hi; omega
  ·omega
 ·simp only [AV]
  exact ⟨.inr rfl,by simp [H']⟩

def kill (o : Option Nat) (S : Upd) : Upd :=
 match o with
 | some i => (i,.dead) :: S
 | none => S

theorem Inv.newRow (h : Inv w0 L R0 S w C R Al H) {n : Nat} (hn : ∀ i,Al i → i < n) {w' : World} {t : Nat} {e : Kd} {xs : List e.ty} {v : Value} {fl : List Value} (old : Option Nat) (oldB : Option Nat)
  (hold : ∀ i,old = some i → Al i ∧ ∀ g,oldB = some g → C g = some (i,[])) (hnone : old = none → oldB = none)
  (hg : w.grownBy w' oldB) (how : Own w' t e.size v xs.length fl) (hv : ∀ g,ownB v = some g → w.heap.size ≤ g ∨ oldB = some g) (hl : Lst (fun j x c => Rp w' noC R 0 e x [j] c) 0 xs fl) (hro : e.ro = true) :
  ∃ C' Al' H',Inv w0 L R0 ((n,.row t e xs) :: (kill old S)) w' C' R Al' H' ∧ (∀ i,Al' i → i < n + 1) ∧ AV w' R Al' H' (.ref n) v ∧
   ∀ x c,AV w R Al H x c → AV w' R Al' H' x c := by
 let C' : Col := fun b => if ownB v = some b then some (n,[]) else match C b with
  | some (i,p) => if old = some i then none else some (i,p)
  | none => none
 let Al' : Nat → Prop := fun i => Al i ∨ i = n
 let H' : Nat → Value := fun i => if i = n then v else H i
 have hA : ∀ i,Al i → Al' i ∧ H' i = H i := fun i hi => ⟨.inl hi,by have := hn i hi; simp only [H']; rw [if_neg (by omega)]⟩
 have hlt := how.lt
 have h1 : v.oneCell' = true := by
  rcases how.2 with ⟨A,hv,_⟩ | ⟨g,cap,cur,hv,_⟩ <;> rw [hv] <;> rfl
 have key := h.upd (w' := w') (S' := (n,.row t e xs) :: (kill old S)) (C' := C') (Al' := Al') (H' := H') (fun i => i = n ∨ old = some i) (fun b => oldB = some b) hg.os hg.tape hg.output hg.size
  (fun b hb hd => hg.block b hb (fun he => hd he.symm))
  (fun b hd => by
   cases ho : old with
   | none => rw [hnone ho] at hd; cases hd
   | some i => exact ⟨i,[],(hold i ho).2 b hd,.inr rfl⟩)
  (fun b i p hi => by
   simp only [C']
   by_cases hb : ownB v = some b
   ·rw [if_pos hb]
    constructor
    ·intro he; simp only [Option.some.injEq,Prod.mk.injEq] at he; exact absurd (.inl he.1.symm) hi
    ·intro he
     rcases hv b hb with hb' | hb'
     ·have := (h.col b i p he).2.1; omega
     ·cases ho : old with
      | none => rw [hnone ho] at hb'; cases hb'
      | some j =>
       have := (hold j ho).2 b hb'
       rw [he] at this
       simp only [Option.some.injEq,Prod.mk.injEq] at this
       exact absurd (.inr (by rw [ho,this.1])) hi
   ·rw [if_neg hb]
    cases hc : C b with
    | none => simp
    | some q =>
     obtain ⟨j,q⟩ := q
     simp only
     by_cases hj : old = some j
     ·rw [if_pos hj]
      constructor
      ·intro he; cases he
      ·intro he; simp only [Option.some.injEq,Prod.mk.injEq] at he; exact absurd (.inr (he.1 ▸ hj)) hi
     ·rw [if_neg hj])
  (fun b i p hi hb => by
   simp only [C'] at hb
   by_cases hbs : ownB v = some b
   ·rw [if_pos hbs] at hb
    simp only [Option.some.injEq,Prod.mk.injEq] at hb
    have hlb := (hlt b hbs)
    refine ⟨.inr hb.1.symm,hlb,?_,?_⟩
    ·rcases hv b hbs with hb' | hb'
     ·exact .inl (Nat.le_trans h.size hb')
     ·cases ho : old with
      | none => rw [hnone ho] at hb'; cases hb'
      | some j => exact (h.col b j [] ((hold j ho).2 b hb')).2.2
    ·intro hr
     rcases hv b hbs with hb' | hb'
     ·have := (h.rd b hr).1; omega
     ·cases ho : old with
      | none => rw [hnone ho] at hb'; cases hb'
      | some j => have := (hold j ho).2 b hb'; rw [(h.rd b hr).2.1] at this; cases this
   ·rw [if_neg hbs] at hb
    cases hc : C b with
    | none => rw [hc] at hb; cases hb
    | some q =>
     obtain ⟨j,q⟩ := q
     rw [hc] at hb
     simp only at hb
     by_cases hj : old = some j
     ·rw [if_pos hj] at hb; cases hb
     ·rw [if_neg hj] at hb
      simp only [Option.some.injEq,Prod.mk.injEq] at hb
      rcases hi with hi | hi
      ·have := (h.col b j q hc).1
       have := hn j this
       omega
      ·exact absurd (hb.1 ▸ hi) hj)
  hA (fun i hi hal => by
   rcases hi with hi | hi
   ·exact absurd hi hal
   ·simp only [H']; rw [if_pos hi]; exact h1)
  (fun i hi => by
   rw [getS_cons_ne _ _ (fun e => hi (.inl e))]
   cases ho : old with
   | none => rfl
   | some j => exact getS_cons_ne _ _ (fun e => hi (.inr (by rw [ho,e]))))
  (fun i hi => by
   by_cases hin : i = n
   ·subst hin
    rw [getS_cons_self]
    simp only [EntOK]
    refine ⟨v,fl,by simp [H'],how,fun g hg' => by simp only [C']; rw [if_pos hg'],?_⟩
    exact Lst.imp (fun j x c hx => Rp.ro (fun b hb => ⟨hb,rfl⟩) e hro x _ _ c hx) _ _ _ hl
   ·rcases hi with hi | hi
    ·exact absurd hi hin
    ·rw [getS_cons_ne _ _ hin,hi,show getS (kill (some i) S) i = .dead from getS_cons_self _ _ _]
     trivial)
  (fun i hi => by
   rcases hi with hi | hi
   ·exact .inr hi
   ·exact .inl (hold i hi).1)
 refine ⟨C',Al',H',key.1,fun i hi => ?_,?_,key.2⟩
 ·rcases hi with hi | hi
  ·have := hn i hi; omega
  ·omega
 ·simp only [AV]
  exact ⟨.inr rfl,by simp [H']⟩

end
end Go.Rv
namespace Go.Rv
section
variable {w0 w : World} {L : Hnd} {R0 : Nat → Prop} {S : Upd} {C : Col} {R Al : Nat → Prop} {H : Nat → Value}

theorem Inv.touch (h : Inv w0 L R0 S w C R Al H) {i : Nat} (hi : Al i) {g : Nat} (hg : C g = some (i,[])) (cells : Array Value) {ent : Ent}
  (hent : (∀ b,R b → R b ∧ (w.setRow g cells).heap[b]? = w.heap[b]?) → EntOK (w.setRow g cells) C R Al H i ent) :
  Inv w0 L R0 ((i,ent) :: S) (w.setRow g cells) C R Al H ∧ ∀ x c,AV w R Al H x c → AV (w.setRow g cells) R Al H x c := by
 have hR : ∀ b,R b → R b ∧ (w.setRow g cells).heap[b]? = w.heap[b]? := fun b hb => ⟨hb,setRow_other w g b _ (fun e => by
  have := (h.rd b hb).2.1
  rw [e,hg] at this
  cases this)⟩
 refine h.upd (w' := w.setRow g cells) (S' := (i,ent) :: S) (C' := C) (Al' := Al) (H' := H) (fun j => j = i) (fun b => b = g) rfl rfl rfl (by simp) (fun b _ hd => setRow_other w g b _ hd) (fun b hd => ⟨i,[],by rw [hd]; exact hg,rfl⟩)
  (fun b j p _ => Iff.rfl) (fun b j p hj hb => ?_) (fun j hj => ⟨hj,rfl⟩) (fun j hj hn => absurd hj hn) (fun j hj => getS_cons_ne _ _ hj) (fun j hj => ?_) (fun j hj => hj ▸ hi)
 ·have := h.col b j p hb
  refine ⟨this.1,by simpa using this.2.1,this.2.2,fun hr => ?_⟩
  have := (h.rd b hr).2.1
  rw [hb] at this
  cases this
 ·subst hj
  rw [getS_cons_self]
  exact hent hR

theorem Inv.touchO (h : Inv w0 L R0 S w C R Al H) {i : Nat} (hi : Al i) {g : Nat} (hg : C g = some (i,[])) {w1 : World} (hw : w1 = w ∨ w1 = w.drew) (o : Obj) {ent : Ent}
  (hent : EntOK { w1 with heap := w1.heap.setIfInBounds g o } C R Al H i ent) :
  Inv w0 L R0 ((i,ent) :: S) { w1 with heap := w1.heap.setIfInBounds g o } C R Al H ∧ ∀ x c,AV w R Al H x c → AV { w1 with heap := w1.heap.setIfInBounds g o } R Al H x c := by
 have hh : w1.heap = w.heap := by rcases hw with rfl | rfl <;> rfl
 refine h.upd (w' := { w1 with heap := w1.heap.setIfInBounds g o }) (S' := (i,ent) :: S) (C' := C) (Al' := Al) (H' := H) (fun j => j = i) (fun b => b = g) (by rcases hw with rfl | rfl <;> rfl) (by rcases hw with rfl | rfl <;> rfl) (by rcases hw with rfl | rfl <;> rfl) (by simp [hh])
  (fun b _ hd => by simp only [hh]; rw [Array.getElem?_setIfInBounds_ne (Ne.symm hd)]) (fun b hd => ⟨i,[],by rw [hd]; exact hg,rfl⟩)
  (fun b j p _ => Iff.rfl) (fun b j p hj hb => ?_) (fun j hj => ⟨hj,rfl⟩) (fun j hj hn => absurd hj hn) (fun j hj => getS_cons_ne _ _ hj) (fun j hj => ?_) (fun j hj => hj ▸ hi)
 ·have := h.col b j p hb
  refine ⟨this.1,by simpa [hh] using this.2.1,this.2.2,fun hr => ?_⟩
  have := (h.rd b hr).2.1
  rw [hb] at this
  cases this
 ·subst hj
  rw [getS_cons_self]
  exact hent

theorem Inv.setBox (h : Inv w0 L R0 S w C R Al H) {i : Nat} {b : Nat} {T : TypeId} {cells : Array Value} (hi : Al i) (hp : H i = .pointer (some ⟨b,0,none⟩)) (hb : C b = some (i,[])) (hc : w.heap[b]? = some (.cells cells T (0,0))) {cs' : List AVal} {cells' : Array Value} (hcs : AVs w R Al H cs' cells'.toList) :
  Inv w0 L R0 ((i,.box cs') :: S) (w.setRow b cells') C R Al H ∧ ∀ x c,AV w R Al H x c → AV (w.setRow b cells') R Al H x c :=
 h.touch hi hb cells' fun hR => ⟨b,cells',T,hp,hb,setRow_heap w b _ _ _ _ hc,AVs.mono hR (fun _ hj => ⟨hj,rfl⟩) _ _ hcs⟩

theorem one1_ok {v : AVal} {c : Value} (h : AV w R Al H v c) (hv : one1 v = true) (hH : ∀ i,Al i → (H i).oneCell' = true) : c.oneCell' = true ∧ c.cells = #[c] := by
 cases v with
 | undef => simp [one1] at hv
 | tup _ => simp [one1] at hv
 | agg _ => simp [one1] at hv
 | int k n => simp only [AV] at h; subst h; exact ⟨rfl,rfl⟩
 | bool k => simp only [AV] at h; subst h; exact ⟨rfl,rfl⟩
 | str k => simp only [AV] at h; subst h; exact ⟨rfl,rfl⟩
 | nil => simp only [AV] at h; subst h; exact ⟨rfl,rfl⟩
 | pnil => simp only [AV] at h; subst h; exact ⟨rfl,rfl⟩
 | sl e xs =>
  simp only [AV] at h
  obtain ⟨A,n,c',fl,he,_⟩ := h
  simp only [List.cons.injEq,and_true] at he
  subst he
  exact ⟨rfl,rfl⟩
 | ref i =>
  simp only [AV] at h
  obtain ⟨h1,rfl⟩ := h
  exact ⟨hH i h1,one_cells (hH i h1)⟩
 | ptr i o =>
  simp only [AV] at h
  obtain ⟨h1,b,e1,rfl⟩ := h
  exact ⟨rfl,rfl⟩
 | eptr i s j o =>
  simp only [AV] at h
  obtain ⟨h1,b,n,c',e1,rfl⟩ := h
  exact ⟨rfl,rfl⟩
 | pel e x o =>
  simp only [AV] at h
  obtain ⟨a,fl,rfl,_⟩ := h
  exact ⟨rfl,rfl⟩
 | vw i s lo n =>
  simp only [AV] at h
  obtain ⟨_,h⟩ := h
  rcases h with ⟨_,_,_,_,rfl⟩ | ⟨g,N,c',A,_,_,_,_,rfl,_⟩ <;> exact ⟨rfl,rfl⟩
 | emp =>
  simp only [AV] at h
  obtain ⟨a,rfl⟩ := h
  exact ⟨rfl,rfl⟩
 | sub i ver s j off =>
  simp only [AV] at h
  exact ⟨h.2.1,one_cells h.2.1⟩
 | fn f ps cs =>
  simp only [AV] at h
  obtain ⟨us,vs,rfl,_⟩ := h
  exact ⟨rfl,rfl⟩
end
end Go.Rv
namespace Go.Rv
section
variable {w0 w : World} {L : Hnd} {R0 : Nat → Prop} {S : Upd} {C : Col} {R Al : Nat → Prop} {H : Nat → Value} {P : Program}

theorem Lst.mem {α : Type} {f : Nat → α → List Value → Prop} {Q : Value → Prop} (h : ∀ j x c,f j x c → ∀ u ∈ c,Q u) : ∀ (xs : List α) (j : Nat) (fl : List Value),Lst f j xs fl → ∀ u ∈ fl,Q u
 | [],_,_,hl,u,hu => by rw [show _ = [] from hl] at hu; cases hu
 | x :: xs,j,_,⟨c,r,he,hf,hr⟩,u,hu => by
  rw [he] at hu
  rcases List.mem_append.1 hu with hu | hu
  ·exact h _ _ _ hf u hu
  ·exact Lst.mem h xs (j + 1) r hr u hu

theorem readSl_cells (hx : Ctx w C R Al H S) {e : Kd} (hro : e.ro = true) {v : AVal} {cv : Value} (ha : AV w R Al H v cv) {xs : List e.ty} (h : readSl S e v = some xs) :
  ∃ A n c fl,cv = .slice A n c ∧ n = xs.length ∧ n ≤ c ∧ Lst (fun j x c => Rp w noC R 0 e x [j] c) 0 xs fl ∧
   ((A = none ∧ xs = []) ∨ (xs = []) ∨ ∃ a,A = some a ∧ a.spot = none ∧ (R a.block ∨ ∃ i t es,C a.block = some (i,[]) ∧ getS S i = .row t e es) ∧ ∀ (j : Nat) (u : Value),fl[j]? = some u → w.cell? (a.add j) = some u) := by
 unfold readSl at h
 split at h
 ·simp only [Option.some.injEq] at h
  subst h
  simp only [AV] at ha
  exact ⟨none,0,0,[],ha,rfl,Nat.le_refl _,rfl,.inl ⟨rfl,rfl⟩⟩
 ·simp only [Option.some.injEq] at h
  subst h
  simp only [AV] at ha
  obtain ⟨a,ha⟩ := ha
  exact ⟨a,0,0,[],ha,rfl,Nat.le_refl _,rfl,.inr (.inl rfl)⟩
 ·rename_i i s lo n
  split at h
  ·rename_i t e' ys hr
   cases hs : Nat.beq s e'.size
   ·rw [hs] at h; cases h
   rw [hs] at h
   have hs := Nat.eq_of_beq_eq_true hs
   obtain ⟨he,hxs⟩ := castL_some h
   subst he
   simp only at hxs
   subst hxs
   obtain ⟨_,fl,ho,hcg,hl⟩ := row_ok hx hr
   have hl' : Lst (fun j x c => Rp w noC R 0 e' x [j] c) 0 ys fl := Lst.imp (fun j x c hx => Rp.ro (fun b hb => ⟨hb,rfl⟩) e' hro x _ _ c hx) _ _ _ hl
   have hl2 := Lst.some (w := w) (R := R) _ 0 (fun j => [j]) _ (Lst.cut (fun x c hx => Rp.length _ _ _ _ hx) lo n ys 0 0 fl (Lst.any _ _ _ _ hl'))
   rcases vw_row hx ha hr with ⟨A,v1,v2,v3,v4,_⟩ | ⟨g,c,A,v1,v0,v2,v3,v4,v5,_⟩
   ·subst v1 v2 v3
    exact ⟨A,0,0,_,v4,by simp,Nat.le_refl _,hl2,.inr (.inl (by simp))⟩
   ·have hlen : ((ys.drop lo).take n).length = n := by rw [List.length_take,List.length_drop]; omega
    refine ⟨some A,n,c - lo,_,v4,hlen.symm,by omega,hl2,.inr ?_⟩
    by_cases h0 : c - lo = 0
    ·left
     rw [show n = 0 from by omega]; simp
    ·right
     have hA := v5 h0
     subst hA
     refine ⟨_,rfl,rfl,.inr ⟨i,t,ys,hcg g (by rw [v1]; exact ownB_of v0),hr⟩,fun j u hj => ?_⟩
     have ho := ho.row (g := g) (by rw [v1]; exact ownB_of v0)
     rw [v1] at ho
     rw [List.getElem?_take] at hj
     split at hj
     ·rw [List.getElem?_drop] at hj
      have := ho.cells (g := g) rfl _ u hj
      simp only [Addr.add_lit,Nat.zero_add] at this ⊢
      rw [hs]; exact this
     ·cases hj
  ·rename_i e' ys hr
   cases hs : Nat.beq s e'.size
   ·rw [hs] at h; cases h
   rw [hs] at h
   obtain ⟨he,hxs⟩ := castL_some h
   subst he
   simp only at hxs
   subst hxs
   have hv := (vw_fro hx ha hr (Nat.eq_of_beq_eq_true hs)).2
   simp only [AV] at hv
   obtain ⟨A,n,c,fl,he,hn,hc,hl,hat⟩ := hv
   simp only [List.cons.injEq,and_true] at he
   refine ⟨A,n,c,fl,he,hn,hc,hl,?_⟩
   rcases hat with hat | ⟨a,h1,h2,h3,h4⟩
   ·exact .inr (.inl hat)
   ·exact .inr (.inr ⟨a,h1,h2,.inl h3,h4⟩)
  ·cases h
 ·obtain ⟨he,hxs⟩ := castL_some h
  subst he
  simp only at hxs
  subst hxs
  simp only [AV] at ha
  obtain ⟨A,n,c,fl,he,hn,hc,hl,hat⟩ := ha
  simp only [List.cons.injEq,and_true] at he
  refine ⟨A,n,c,fl,he,hn,hc,hl,?_⟩
  rcases hat with hat | ⟨a,h1,h2,h3,h4⟩
  ·exact .inr (.inl hat)
  ·exact .inr (.inr ⟨a,h1,h2,.inl h3,h4⟩)
 ·rename_i i
  simp only [AV] at ha
  obtain ⟨_,rfl⟩ := ha
  split at h
  ·rename_i t e' ys hr
   obtain ⟨he,hxs⟩ := castL_some h
   subst he
   simp only at hxs
   subst hxs
   obtain ⟨_,fl,ho,hcg,hl⟩ := row_ok hx hr
   have hl' : Lst (fun j x c => Rp w noC R 0 e' x [j] c) 0 ys fl := Lst.imp (fun j x c hx => Rp.ro (fun b hb => ⟨hb,rfl⟩) e' hro x _ _ c hx) _ _ _ hl
   rcases ho.2 with ⟨A,hv,hn⟩ | ⟨g,cap,cur,hv,hb,hg,hnc,hcm,hcs,htk⟩
   ·exact ⟨A,0,0,fl,hv,hn.symm,Nat.le_refl _,hl',.inr (.inl (List.eq_nil_of_length_eq_zero hn))⟩
   ·refine ⟨some ⟨g,0,none⟩,ys.length,cap,fl,hv,rfl,hnc,hl',.inr (.inr ⟨⟨g,0,none⟩,rfl,rfl,.inr ⟨i,t,ys,hcg g (by rw [hv]; exact ownB_of hb),hr⟩,fun j u hj => ?_⟩)⟩
    have ho := ho.row (g := g) (by rw [hv]; exact ownB_of hb)
    rw [hv] at ho
    exact ho.cells (g := g) rfl j u hj
  ·rename_i e' ys hr
   obtain ⟨he,hxs⟩ := castL_some h
   subst he
   simp only at hxs
   subst hxs
   have hent := hx.ent i
   rw [hr] at hent
   simp only [EntOK] at hent
   obtain ⟨A,n,c,fl,he,hn,hc,hl,hat⟩ := hent
   simp only [List.cons.injEq,and_true] at he
   refine ⟨A,n,c,fl,he,hn,hc,hl,?_⟩
   rcases hat with hat | ⟨a,h1,h2,h3,h4⟩
   ·exact .inr (.inl hat)
   ·exact .inr (.inr ⟨a,h1,h2,.inl h3,h4⟩)
  ·cases h
 ·cases h

theorem takeSl_ok (hx : Ctx w C R Al H S) {e : Kd} {v : AVal} {cv : Value} (ha : AV w R Al H v cv) {xs : List e.ty} {is : List (Option Nat)} (h : takeSl S none e v = some (xs,is)) (p : List Nat) : Rp w noC R 0 (.sl none e) xs p [cv] ∧ is = [] := by
 unfold takeSl at h
 simp only at h
 split at h
 ·simp only [Option.some.injEq,Prod.mk.injEq] at h
  obtain ⟨rfl,rfl⟩ := h
  simp only [AV] at ha
  subst ha
  exact ⟨⟨none,0,0,[],rfl,rfl,Nat.le_refl _,rfl,.inl rfl⟩,rfl⟩
 ·simp only [Option.some.injEq,Prod.mk.injEq] at h
  obtain ⟨rfl,rfl⟩ := h
  simp only [AV] at ha
  obtain ⟨a,ha⟩ := ha
  subst ha
  exact ⟨⟨a,0,0,[],rfl,rfl,Nat.le_refl _,rfl,.inl rfl⟩,rfl⟩
 ·split at h
  ·rename_i ys hy
   simp only [Option.some.injEq,Prod.mk.injEq] at h
   obtain ⟨rfl,rfl⟩ := h
   obtain ⟨he,hxs⟩ := castL_some hy
   subst he
   simp only at hxs
   subst hxs
   simp only [AV] at ha
   exact ⟨noC_path _ _ _ _ _ ha,rfl⟩
  ·cases h
 ·rename_i i
  simp only [AV] at ha
  obtain ⟨_,rfl⟩ := ha
  split at h
  ·rename_i e' ys hr
   split at h
   ·rename_i zs hz
    simp only [Option.some.injEq,Prod.mk.injEq] at h
    obtain ⟨rfl,rfl⟩ := h
    obtain ⟨he,hxs⟩ := castL_some hz
    subst he
    simp only at hxs
    subst hxs
    have hent := hx.ent i
    rw [hr] at hent
    simp only [EntOK] at hent
    exact ⟨noC_path _ _ _ _ _ hent,rfl⟩
   ·cases h
  ·cases h
 ·cases h

theorem takeCells_ro (hx : Ctx w C R Al H S) : ∀ (k : Kd) (_ : k.ro = true) (cs : List AVal) (x : k.ty) (rest : List AVal) (is : List (Option Nat)),takeCells S k cs = some (x,rest,is) → ∀ (vs : List Value),AVs w R Al H cs vs →
  ∃ c r,vs = c ++ r ∧ (∀ p,Rp w noC R 0 k x p c) ∧ AVs w R Al H rest r := by
 intro k
 induction k with
 | int k =>
  intro _ cs x rest is h vs hv
  cases cs with
  | nil => simp [takeCells] at h
  | cons c cs =>
   simp only [AVs] at hv
   obtain ⟨v,r,h1,h2,h3⟩ := hv
   cases c <;> simp only [takeCells] at h <;> first | (cases h; done) | skip
   split at h
   ·rename_i hk
    subst hk
    simp only [Option.some.injEq,Prod.mk.injEq] at h
    obtain ⟨rfl,rfl,rfl⟩ := h
    simp only [AV] at h2
    exact ⟨[v],r,h1,fun _ => by rw [h2]; rfl,h3⟩
   ·cases h
 | bool =>
  intro _ cs x rest is h vs hv
  cases cs with
  | nil => simp [takeCells] at h
  | cons c cs =>
   simp only [AVs] at hv
   obtain ⟨v,r,h1,h2,h3⟩ := hv
   cases c <;> simp only [takeCells] at h <;> first | (cases h; done) | skip
   simp only [Option.some.injEq,Prod.mk.injEq] at h
   obtain ⟨rfl,rfl,rfl⟩ := h
   simp only [AV] at h2
   exact ⟨[v],r,h1,fun _ => by rw [h2]; rfl,h3⟩
 | str =>
  intro _ cs x rest is h vs hv
  cases cs with
  | nil => simp [takeCells] at h
  | cons c cs =>
   simp only [AVs] at hv
   obtain ⟨v,r,h1,h2,h3⟩ := hv
   cases c <;> simp only [takeCells] at h <;> first | (cases h; done) | skip
   simp only [Option.some.injEq,Prod.mk.injEq] at h
   obtain ⟨rfl,rfl,rfl⟩ := h
   simp only [AV] at h2
   exact ⟨[v],r,h1,fun _ => by rw [h2]; rfl,h3⟩
 | one a ih => intro hr cs x rest is h vs hv; exact ih hr cs x rest is h vs hv
 | pair a b iha ihb =>
  intro hr cs x rest is h vs hv
  have hr' : a.ro = true ∧ b.ro = true := by
   simp only [Kd.ro] at hr
   cases ha : a.ro <;> simp_all
  simp only [takeCells] at h
  split at h
  ·rename_i x1 r1 i1 h1
   split at h
   ·rename_i y r2 i2 h2
    simp only [Option.some.injEq,Prod.mk.injEq] at h
    obtain ⟨rfl,rfl,rfl⟩ := h
    obtain ⟨c1,q1,e1,f1,g1⟩ := iha hr'.1 _ _ _ _ h1 vs hv
    obtain ⟨c2,q2,e2,f2,g2⟩ := ihb hr'.2 _ _ _ _ h2 _ g1
    refine ⟨c1 ++ c2,q2,by rw [e1,e2,List.append_assoc],fun p => ⟨c1,c2,rfl,f1 _,f2 _⟩,g2⟩
   ·cases h
  ·cases h
 | sl o e ih =>
  intro hr cs x rest is h vs hv
  cases o with
  | some t => simp [Kd.ro] at hr
  | none =>
   cases cs with
   | nil => simp [takeCells] at h
   | cons c cs =>
    simp only [AVs] at hv
    obtain ⟨v,r,h1,h2,h3⟩ := hv
    simp only [takeCells] at h
    split at h
    ·rename_i ys js hy
     simp only [Option.some.injEq,Prod.mk.injEq] at h
     obtain ⟨rfl,rfl,rfl⟩ := h
     exact ⟨[v],r,h1,fun p => (takeSl_ok hx h2 hy p).1,h3⟩
    ·cases h

theorem seg_eq (fl : List Value) (a s o : Nat) (vs : List Value) (h1 : o + vs.length ≤ s) (_ : a + s ≤ fl.length) :
  fl.take a ++ (((fl.drop a).take s).take o ++ vs ++ ((fl.drop a).take s).drop (o + vs.length)) ++ fl.drop (a + s) = fl.take (a + o) ++ vs ++ fl.drop (a + o + vs.length) := by
 rw [List.take_take,Nat.min_eq_left (by omega)]
 have e1 : fl.take (a + o) = fl.take a ++ (fl.drop a).take o := by rw [List.take_add]
 have e2 : ((fl.drop a).take s).drop (o + vs.length) ++ fl.drop (a + s) = fl.drop (a + o + vs.length) := by
  rw [List.drop_take,List.drop_drop]
  have : fl.drop (a + s) = (fl.drop (a + (o + vs.length))).drop (s - (o + vs.length)) := by
   rw [List.drop_drop]; congr 1; omega
  rw [this,List.take_append_drop]
  congr 1; omega
 rw [e1,← e2]
 simp

end
end Go.Rv
namespace Go.Rv
section
variable {w0 w w' : World} {L : Hnd} {R0 : Nat → Prop} {S : Upd} {C C' : Col} {R Al : Nat → Prop} {H : Nat → Value} {P : Program}

def pths : (k : Kd) → List Nat → List (List Nat)
 | .one a,p => pths a p
 | .pair a b,p => pths a (0 :: p) ++ pths b (1 :: p)
 | .sl (some _) e,p => match e.ro with
  | true => [p]
  | false => [p,p]
 | _,_ => []

theorem takeSl_own {S : Upd} {t : Nat} {e : Kd} {v : AVal} {xs : List e.ty} {ids : List (Option Nat)} (h : takeSl S (some t) e v = some (xs,ids)) :
  (v = .nil ∧ xs = [] ∧ ids = (cond e.ro [none] [none,none])) ∨ (∃ i,v = .ref i ∧ e.ro = true ∧ getS S i = .row t e xs ∧ ids = [some i]) ∨ ∃ i ver,v = .ref i ∧ e.ro = false ∧ getS S i = .nrow t e ver xs ∧ ids = [some i,some ver] := by
 unfold takeSl at h
 simp only at h
 split at h
 ·simp only [Option.some.injEq,Prod.mk.injEq] at h
  exact .inl ⟨rfl,h.1.symm,h.2.symm⟩
 ·rename_i i
  split at h
  ·rename_i t' e' zs hr
   cases hb : (Nat.beq t' t && e.ro)
   ·rw [hb] at h; cases h
   ·rw [hb] at h
    simp only [cond_true] at h
    simp only [Bool.and_eq_true] at hb
    have ht := Nat.eq_of_beq_eq_true hb.1
    split at h
    ·rename_i ys hy
     simp only [Option.some.injEq,Prod.mk.injEq] at h
     obtain ⟨rfl,rfl⟩ := h
     obtain ⟨he,hxs⟩ := castL_some hy
     subst he ht
     simp only at hxs
     subst hxs
     exact .inr (.inl ⟨i,rfl,hb.2,hr,rfl⟩)
    ·cases h
  ·rename_i t' e' ver zs hr
   cases hb : (Nat.beq t' t && !e.ro)
   ·rw [hb] at h; cases h
   ·rw [hb] at h
    simp only [cond_true] at h
    simp only [Bool.and_eq_true,Bool.not_eq_true'] at hb
    have ht := Nat.eq_of_beq_eq_true hb.1
    split at h
    ·rename_i ys hy
     simp only [Option.some.injEq,Prod.mk.injEq] at h
     obtain ⟨rfl,rfl⟩ := h
     obtain ⟨he,hxs⟩ := castL_some hy
     subst he ht
     simp only at hxs
     subst hxs
     exact .inr (.inr ⟨i,ver,rfl,hb.2,hr,rfl⟩)
    ·cases h
  ·cases h
 ·cases h

theorem takeCells_len {S : Upd} : ∀ (k : Kd) (cs : List AVal) (x : k.ty) (rest : List AVal) (ids : List (Option Nat)) (p : List Nat),takeCells S k cs = some (x,rest,ids) → ids.length = (pths k p).length := by
 intro k
 induction k with
 | int k =>
  intro cs x rest ids p h
  cases cs with
  | nil => simp [takeCells] at h
  | cons c cs =>
   cases c <;> simp only [takeCells] at h <;> first | (cases h; done) | skip
   split at h
   ·simp only [Option.some.injEq,Prod.mk.injEq] at h; rw [← h.2.2]; rfl
   ·cases h
 | bool =>
  intro cs x rest ids p h
  cases cs with
  | nil => simp [takeCells] at h
  | cons c cs =>
   cases c <;> simp only [takeCells] at h <;> first | (cases h; done) | skip
   simp only [Option.some.injEq,Prod.mk.injEq] at h; rw [← h.2.2]; rfl
 | str =>
  intro cs x rest ids p h
  cases cs with
  | nil => simp [takeCells] at h
  | cons c cs =>
   cases c <;> simp only [takeCells] at h <;> first | (cases h; done) | skip
   simp only [Option.some.injEq,Prod.mk.injEq] at h; rw [← h.2.2]; rfl
 | one a ih => intro cs x rest ids p h; exact ih cs x rest ids p h
 | pair a b iha ihb =>
  intro cs x rest ids p h
  simp only [takeCells] at h
  split at h
  ·rename_i x1 r1 i1 h1
   split at h
   ·rename_i y r2 i2 h2
    simp only [Option.some.injEq,Prod.mk.injEq] at h
    rw [← h.2.2]
    simp only [pths,List.length_append]
    rw [iha _ _ _ _ (0 :: p) h1,ihb _ _ _ _ (1 :: p) h2]
   ·cases h
  ·cases h
 | sl o e ih =>
  intro cs x rest ids p h
  cases cs with
  | nil => simp [takeCells] at h
  | cons c cs =>
   simp only [takeCells] at h
   split at h
   ·rename_i ys js hy
    simp only [Option.some.injEq,Prod.mk.injEq] at h
    rw [← h.2.2]
    cases o with
    | none =>
     unfold takeSl at hy
     simp only at hy
     split at hy
     ·simp only [Option.some.injEq,Prod.mk.injEq] at hy; rw [← hy.2]; rfl
     ·simp only [Option.some.injEq,Prod.mk.injEq] at hy; rw [← hy.2]; rfl
     ·split at hy
      ·simp only [Option.some.injEq,Prod.mk.injEq] at hy; rw [← hy.2]; rfl
      ·cases hy
     ·split at hy
      ·split at hy
       ·simp only [Option.some.injEq,Prod.mk.injEq] at hy; rw [← hy.2]; rfl
       ·cases hy
      ·cases hy
     ·cases hy
    | some t =>
     rcases takeSl_own hy with ⟨_,_,rfl⟩ | ⟨i,_,hro,_,rfl⟩ | ⟨i,ver,_,hro,_,rfl⟩
     ·simp only [pths]; cases e.ro <;> rfl
     ·simp only [pths,hro]; rfl
     ·simp only [pths,hro]; rfl
   ·cases h

theorem takeCells_into (hx : Ctx w C R Al H S) (hR : ∀ b,R b → R b ∧ w'.heap[b]? = w.heap[b]?) {i : Nat} : ∀ (k : Kd) (_ : k.ok = true) (cs : List AVal) (x : k.ty) (rest : List AVal) (ids : List (Option Nat)) (p : List Nat),takeCells S k cs = some (x,rest,ids) → ∀ (vs : List Value),AVs w R Al H cs vs →
  (∀ (q m : Nat) (pq : List Nat),ids[q]? = some (some m) → (pths k p)[q]? = some pq → ∀ b p',C b = some (m,p') → C' b = some (i,p' ++ pq) ∧ w'.heap[b]? = w.heap[b]?) →
  ∃ c r,vs = c ++ r ∧ Rp w' C' R i k x p c ∧ AVs w R Al H rest r := by
 intro k
 induction k with
 | int k =>
  intro _ cs x rest ids p h vs hv _
  cases cs with
  | nil => simp [takeCells] at h
  | cons c cs =>
   simp only [AVs] at hv
   obtain ⟨v,r,h1,h2,h3⟩ := hv
   cases c <;> simp only [takeCells] at h <;> first | (cases h; done) | skip
   split at h
   ·rename_i hk
    subst hk
    simp only [Option.some.injEq,Prod.mk.injEq] at h
    obtain ⟨rfl,rfl,rfl⟩ := h
    simp only [AV] at h2
    exact ⟨[v],r,h1,by rw [h2]; rfl,h3⟩
   ·cases h
 | bool =>
  intro _ cs x rest ids p h vs hv _
  cases cs with
  | nil => simp [takeCells] at h
  | cons c cs =>
   simp only [AVs] at hv
   obtain ⟨v,r,h1,h2,h3⟩ := hv
   cases c <;> simp only [takeCells] at h <;> first | (cases h; done) | skip
   simp only [Option.some.injEq,Prod.mk.injEq] at h
   obtain ⟨rfl,rfl,rfl⟩ := h
   simp only [AV] at h2
   exact ⟨[v],r,h1,by rw [h2]; rfl,h3⟩
 | str =>
  intro _ cs x rest ids p h vs hv _
  cases cs with
  | nil => simp [takeCells] at h
  | cons c cs =>
   simp only [AVs] at hv
   obtain ⟨v,r,h1,h2,h3⟩ := hv
   cases c <;> simp only [takeCells] at h <;> first | (cases h; done) | skip
   simp only [Option.some.injEq,Prod.mk.injEq] at h
   obtain ⟨rfl,rfl,rfl⟩ := h
   simp only [AV] at h2
   exact ⟨[v],r,h1,by rw [h2]; rfl,h3⟩
 | one a ih => intro hk cs x rest ids p h vs hv hC; exact ih hk cs x rest ids p h vs hv hC
 | pair a b iha ihb =>
  intro hk cs x rest ids p h vs hv hC
  simp only [takeCells] at h
  split at h
  ·rename_i x1 r1 i1 h1
   split at h
   ·rename_i y r2 i2 h2
    simp only [Option.some.injEq,Prod.mk.injEq] at h
    obtain ⟨rfl,rfl,rfl⟩ := h
    have l1 := takeCells_len a _ _ _ _ (0 :: p) h1
    obtain ⟨c1,q1,e1,f1,g1⟩ := iha (Kd.ok_pair hk).1 _ _ _ _ (0 :: p) h1 vs hv (fun q m pq hq hp => hC q m pq (by rw [List.getElem?_append_left (List.getElem?_eq_some_iff.1 hq).1]; exact hq) (by
     simp only [pths]; rw [List.getElem?_append_left (List.getElem?_eq_some_iff.1 hp).1]; exact hp))
    obtain ⟨c2,q2,e2,f2,g2⟩ := ihb (Kd.ok_pair hk).2 _ _ _ _ (1 :: p) h2 _ g1 (fun q m pq hq hp => hC (i1.length + q) m pq (by rw [List.getElem?_append_right (by omega)]; simpa using hq) (by
     simp only [pths]; rw [List.getElem?_append_right (by omega),l1]; simpa using hp))
    exact ⟨c1 ++ c2,q2,by rw [e1,e2,List.append_assoc],⟨c1,c2,rfl,f1,f2⟩,g2⟩
   ·cases h
  ·cases h
 | sl o e ih =>
  intro hk cs x rest ids p h vs hv hC
  cases cs with
  | nil => simp [takeCells] at h
  | cons c cs =>
   simp only [AVs] at hv
   obtain ⟨v,r,h1,h2,h3⟩ := hv
   simp only [takeCells] at h
   split at h
   ·rename_i ys js hy
    simp only [Option.some.injEq,Prod.mk.injEq] at h
    obtain ⟨rfl,rfl,rfl⟩ := h
    cases o with
    | none => exact ⟨[v],r,h1,Rp.ro hR (.sl none e) hk ys [] p _ (takeSl_ok hx h2 hy []).1,h3⟩
    | some t =>
     have mv : ∀ m,js[0]? = some (some m) → Rp w C R m (.sl (some t) e) ys [] [H m] → v = H m → Rp w' C' R i (.sl (some t) e) ys p [v] := by
      intro m hj hrp hvm
      rw [hvm]
      refine Rp.move hR _ _ [] p _ (fun b q hb => ?_) hrp
      rw [List.append_nil] at hb
      exact hC 0 m p hj (by simp only [pths]; cases e.ro <;> rfl) b q hb
     rcases takeSl_own hy with ⟨rfl,rfl,rfl⟩ | ⟨m,rfl,hro,hr,rfl⟩ | ⟨m,ver,rfl,hro,hr,rfl⟩
     ·simp only [AV] at h2
      subst h2
      exact ⟨[_],r,h1,⟨_,[],rfl,Own.nil _ _ _ none,by simp [ownB],rfl⟩,h3⟩
     ·simp only [AV] at h2
      have hent := hx.ent m
      rw [hr] at hent
      exact ⟨[v],r,h1,mv m rfl hent h2.2,h3⟩
     ·simp only [AV] at h2
      exact ⟨[v],r,h1,mv m rfl (nrow_ok hx hr).2.1 h2.2,h3⟩
   ·cases h

def over (cs : List Value) (n o : Nat) (vs : List Value) : List Value := cs.take o ++ vs.take (n - o) ++ cs.drop (o + vs.length)

theorem over_append (c1 c2 : List Value) (a b o : Nat) (vs : List Value) (h1 : c1.length = a) (_ : c2.length = b) :
  over c1 a o vs ++ over c2 b (o - a) (vs.drop (a - o)) = over (c1 ++ c2) (a + b) o vs := by
 unfold over
 by_cases ho : a ≤ o
 ·rw [List.take_of_length_le (l := c1) (by omega),show a - o = 0 from by omega,List.take_zero,List.drop_eq_nil_of_le (as := c1) (by omega),List.drop_zero,List.take_append,List.take_of_length_le (l := c1) (by omega),List.drop_append,List.drop_eq_nil_of_le (as := c1) (by omega)]
  simp only [h1,List.append_nil,List.nil_append,List.append_assoc]
  rw [show b - (o - a) = a + b - o from by omega,show o - a + vs.length = o + vs.length - a from by omega]
 ·rw [show o - a = 0 from by omega,List.take_zero,List.nil_append,List.take_append,show o - c1.length = 0 from by omega,List.take_zero,List.append_nil,List.drop_append,h1]
  simp only [List.length_drop,Nat.zero_add,Nat.sub_zero]
  by_cases hv : vs.length ≤ a - o
  ·rw [List.take_of_length_le (l := vs) (by omega),List.drop_eq_nil_of_le (as := vs) (by omega),List.take_nil,List.nil_append,List.take_of_length_le (l := vs) (by omega)]
   rw [show vs.length - (a - o) = 0 from by omega,show o + vs.length - a = 0 from by omega]
   simp
  ·rw [List.drop_eq_nil_of_le (as := c1) (by omega),List.append_nil,List.nil_append,show a + b - o = (a - o) + b from by omega,List.take_add,show o + vs.length - a = vs.length - (a - o) from by omega]
   simp

theorem putF_ok (hx : Ctx w C R Al H S) {i : Nat} : ∀ (k : Kd) (_ : k.ok = true) (x : k.ty) (o : Nat) (vs : List AVal) (y : k.ty) (o' : Nat) (rest : List AVal),putF S k x o vs = some (y,o',rest) →
  ∀ (p : List Nat) (cs cvs : List Value),Rp w C R i k x p cs → AVs w R Al H vs cvs → o' = o - k.size ∧ AVs w R Al H rest (cvs.drop (k.size - o)) ∧ Rp w C R i k y p (over cs k.size o cvs) := by
 have skip : ∀ (k : Kd) (x : k.ty) (o : Nat) (vs : List AVal),k.size = 1 → ∀ (p : List Nat) (cs cvs : List Value),Rp w C R i k x p cs → AVs w R Al H vs cvs → o = o + 1 - k.size ∧ AVs w R Al H vs (cvs.drop (k.size - (o + 1))) ∧ Rp w C R i k x p (over cs k.size (o + 1) cvs) := by
  intro k x o vs hk p cs cvs h hv
  have hl := Rp.length _ _ _ _ h
  rw [hk] at hl ⊢
  refine ⟨by omega,by rw [show 1 - (o + 1) = 0 from by omega]; exact hv,?_⟩
  unfold over
  rw [List.take_of_length_le (by omega),show 1 - (o + 1) = 0 from by omega,List.take_zero,List.drop_eq_nil_of_le (by omega)]
  simpa using h
 have stay : ∀ (k : Kd) (x : k.ty) (cvs : List Value),k.size = 1 → AVs w R Al H [] cvs → ∀ (p : List Nat) (cs : List Value),Rp w C R i k x p cs → 0 = 0 - k.size ∧ AVs w R Al H [] (cvs.drop (k.size - 0)) ∧ Rp w C R i k x p (over cs k.size 0 cvs) := by
  intro k x cvs hk hv p cs h
  simp only [AVs] at hv
  subst hv
  refine ⟨by omega,by simp [AVs],by simpa [over] using h⟩
 have put : ∀ (k : Kd) (y : k.ty) (v : Value) (r : List Value) (rest : List AVal),k.size = 1 → Rp w C R i k y [] [v] → (∀ p,Rp w C R i k y p [v]) → AVs w R Al H rest r → ∀ (p : List Nat) (cs : List Value),cs.length = 1 → 0 = 0 - k.size ∧ AVs w R Al H rest ((v :: r).drop (k.size - 0)) ∧ Rp w C R i k y p (over cs k.size 0 (v :: r)) := by
  intro k y v r rest hk _ hp hr p cs hcs
  rw [hk]
  refine ⟨by omega,by simpa using hr,?_⟩
  unfold over
  rw [List.drop_eq_nil_of_le (by simp; omega)]
  simpa using hp p
 intro k
 induction k with
 | int k =>
  intro _ x o vs y o' rest h p cs cvs hr hv
  cases o with
  | succ o =>
   simp only [putF,Option.some.injEq,Prod.mk.injEq] at h
   obtain ⟨rfl,rfl,rfl⟩ := h
   exact skip (.int k) x o vs rfl p cs cvs hr hv
  | zero =>
   cases vs with
   | nil =>
    simp only [putF,Option.some.injEq,Prod.mk.injEq] at h
    obtain ⟨rfl,rfl,rfl⟩ := h
    exact stay (.int k) x cvs rfl hv p cs hr
   | cons v vs =>
    simp only [AVs] at hv
    obtain ⟨c,r,rfl,h2,h3⟩ := hv
    cases v <;> simp only [putF] at h <;> first | (cases h; done) | skip
    split at h
    ·rename_i hk
     subst hk
     simp only [Option.some.injEq,Prod.mk.injEq] at h
     obtain ⟨rfl,rfl,rfl⟩ := h
     simp only [AV] at h2
     subst h2
     exact put (.int _) _ _ r _ rfl rfl (fun _ => rfl) h3 p cs (Rp.length _ _ _ _ hr)
    ·cases h
 | bool =>
  intro _ x o vs y o' rest h p cs cvs hr hv
  cases o with
  | succ o =>
   simp only [putF,Option.some.injEq,Prod.mk.injEq] at h
   obtain ⟨rfl,rfl,rfl⟩ := h
   exact skip .bool x o vs rfl p cs cvs hr hv
  | zero =>
   cases vs with
   | nil =>
    simp only [putF,Option.some.injEq,Prod.mk.injEq] at h
    obtain ⟨rfl,rfl,rfl⟩ := h
    exact stay .bool x cvs rfl hv p cs hr
   | cons v vs =>
    simp only [AVs] at hv
    obtain ⟨c,r,rfl,h2,h3⟩ := hv
    cases v <;> simp only [putF] at h <;> first | (cases h; done) | skip
    simp only [Option.some.injEq,Prod.mk.injEq] at h
    obtain ⟨rfl,rfl,rfl⟩ := h
    simp only [AV] at h2
    subst h2
    exact put .bool _ _ r _ rfl rfl (fun _ => rfl) h3 p cs (Rp.length _ _ _ _ hr)
 | str =>
  intro _ x o vs y o' rest h p cs cvs hr hv
  cases o with
  | succ o =>
   simp only [putF,Option.some.injEq,Prod.mk.injEq] at h
   obtain ⟨rfl,rfl,rfl⟩ := h
   exact skip .str x o vs rfl p cs cvs hr hv
  | zero =>
   cases vs with
   | nil =>
    simp only [putF,Option.some.injEq,Prod.mk.injEq] at h
    obtain ⟨rfl,rfl,rfl⟩ := h
    exact stay .str x cvs rfl hv p cs hr
   | cons v vs =>
    simp only [AVs] at hv
    obtain ⟨c,r,rfl,h2,h3⟩ := hv
    cases v <;> simp only [putF] at h <;> first | (cases h; done) | skip
    simp only [Option.some.injEq,Prod.mk.injEq] at h
    obtain ⟨rfl,rfl,rfl⟩ := h
    simp only [AV] at h2
    subst h2
    exact put .str _ _ r _ rfl rfl (fun _ => rfl) h3 p cs (Rp.length _ _ _ _ hr)
 | one a ih => intro hk x o vs y o' rest h p cs cvs hr hv; exact ih hk x o vs y o' rest h p cs cvs hr hv
 | pair a b iha ihb =>
  intro hk x o vs y o' rest h p cs cvs hr hv
  obtain ⟨c1,c2,rfl,h1,h2⟩ := hr
  simp only [putF] at h
  split at h
  ·rename_i y1 o1 r1 e1
   split at h
   ·rename_i y2 o2 r2 e2
    simp only [Option.some.injEq,Prod.mk.injEq] at h
    obtain ⟨rfl,rfl,rfl⟩ := h
    obtain ⟨rfl,f2,f3⟩ := iha (Kd.ok_pair hk).1 _ _ _ _ _ _ e1 _ _ _ h1 hv
    obtain ⟨rfl,g2,g3⟩ := ihb (Kd.ok_pair hk).2 _ _ _ _ _ _ e2 _ _ _ h2 f2
    refine ⟨by simp only [Kd.size]; omega,?_,?_⟩
    ·rw [List.drop_drop] at g2
     simp only [Kd.size]
     rw [show a.size + b.size - o = a.size - o + (b.size - (o - a.size)) from by omega]
     exact g2
    ·exact ⟨_,_,(over_append c1 c2 a.size b.size o cvs (Rp.length _ _ _ _ h1) (Rp.length _ _ _ _ h2)).symm,f3,g3⟩
   ·cases h
  ·cases h
 | sl t e ih =>
  intro hk x o vs y o' rest h p cs cvs hr hv
  cases o with
  | succ o =>
   simp only [putF,Option.some.injEq,Prod.mk.injEq] at h
   obtain ⟨rfl,rfl,rfl⟩ := h
   exact skip (.sl t e) x o vs rfl p cs cvs hr hv
  | zero =>
   cases vs with
   | nil =>
    simp only [putF,Option.some.injEq,Prod.mk.injEq] at h
    obtain ⟨rfl,rfl,rfl⟩ := h
    exact stay (.sl t e) x cvs rfl hv p cs hr
   | cons v vs =>
    simp only [AVs] at hv
    obtain ⟨c,r,rfl,h2,h3⟩ := hv
    cases t with
    | some t => simp [putF] at h
    | none =>
     simp only [putF] at h
     split at h
     ·rename_i zs is hz
      simp only [Option.some.injEq,Prod.mk.injEq] at h
      obtain ⟨rfl,rfl,rfl⟩ := h
      have hq := fun p => Rp.ro (C' := C) (i' := i) (fun b hb => ⟨hb,rfl⟩) (.sl none e) hk zs [] p _ (takeSl_ok hx h2 hz []).1
      exact put (.sl none e) _ _ r _ rfl (hq []) hq h3 p cs (Rp.length _ _ _ _ hr)
     ·cases h

theorem hasOwn_none {k : Kd} {o : Nat} : ∀ {n : Nat},hasOwn k o n = false → ∀ q,o ≤ q → q < o + n → ownAt k q = none
 | 0,_,q,h1,h2 => by omega
 | n + 1,h,q,h1,h2 => by
  simp only [hasOwn,Bool.or_eq_false_iff] at h
  by_cases hq : q = o + n
  ·subst hq
   cases ho : ownAt k (o + n) with
   | none => rfl
   | some v => rw [ho] at h; simp at h
  ·exact hasOwn_none h.2 q h1 (by omega)

theorem Heads.make {v : Value} {t : TypeId} {e : Kd} {n : Nat} {fl : List Value} (h : Own w t e.size v n fl) : ∃ hv : Value,hv.oneCell' = true ∧ Heads w v e n hv := by
 rcases h.2 with ⟨A,rfl,rfl⟩ | ⟨g,cap,cur,rfl,hb,hg,hnc,hcm,hcs,htk⟩
 ·exact ⟨.func (.func 0) #[] #[],rfl,(fun a h => by cases h),fun g c N cur T o hv hc _ j off hj => by omega⟩
 ·refine ⟨.func (.func 0) cur #[],rfl,(fun a h => by cases h),fun g' c N cur' T o hv hc hg' j off hj ho => ?_⟩
  simp only [Value.slice.injEq,Option.some.injEq,Addr.mk.injEq,and_true] at hv
  obtain ⟨rfl,rfl,rfl⟩ := hv
  rw [hg] at hg'
  simp only [Option.some.injEq,Obj.cells.injEq] at hg'
  obtain ⟨rfl,_,_⟩ := hg'
  have hlt := ownAt_lt e off ho
  have : j * e.size + off < cur.size := by
   have h1 : (j + 1) * e.size ≤ cap * e.size := Nat.mul_le_mul_right _ (by omega)
   rw [Nat.add_mul,Nat.one_mul] at h1
   omega
  simp [hcell,this]
end
end Go.Rv
namespace Go.Rv
section
variable {w0 w : World} {L : Hnd} {R0 : Nat → Prop} {S : Upd} {C : Col} {R Al : Nat → Prop} {H : Nat → Value} {P : Program}

theorem one1s_solid {v : AVal} (h : (cellsV v).all one1 = true) : solid v = true := by
 cases v <;> first | rfl | (simp [cellsV,one1] at h)

theorem one1s_ok (hH : ∀ i,Al i → (H i).oneCell' = true) : ∀ (cs : List AVal) (vs : List Value),AVs w R Al H cs vs → cs.all one1 = true → ∀ u ∈ vs,u.oneCell' = true
 | [],vs,h,_,u,hu => by simp only [AVs] at h; rw [h] at hu; cases hu
 | c :: cs,vs,h,ho,u,hu => by
  simp only [AVs] at h
  obtain ⟨v,r,h1,h2,h3⟩ := h
  simp only [List.all_cons,Bool.and_eq_true] at ho
  rw [h1] at hu
  rcases List.mem_cons.1 hu with hu | hu
  ·rw [hu]; exact (one1_ok h2 ho.1 hH).1
  ·exact one1s_ok hH cs r h3 ho.2 u hu

theorem run_storeVar {t : TypeId} {ti : TI} {i : TypeInfo} {d : TypeDesc} {z : Value} (ht : TIok P t ti i d z) (g o : Nat) (T : TypeId) (cur : Array Value) (v : Value) (hg : w.heap[g]? = some (.cells cur T (0,0))) (hs : v.cells.toList.length = ti.size)
  (hf : o + v.cells.toList.length ≤ cur.size) (h1 : ∀ u ∈ v.cells.toList,u.oneCell' = true) :
  (Instr.storeAt t (.pointer (some ⟨g,o,none⟩)) v).run P w = .ok () (w.setRow g (cur.toList.take o ++ v.cells.toList ++ cur.toList.drop (o + v.cells.toList.length)).toArray) := by
 have h := run_storeCells_at P g o T v.cells.toList 0 cur w hg (by simpa using hf) h1
 simp only [Nat.add_zero] at h
 simp only [Array.length_toList] at hs
 simp [Instr.storeAt,Instr.sureAddr,storeVar,ht.run_size,hs,h]

theorem take_seg (cur vs : List Value) (a n : Nat) (h : a + vs.length ≤ n) (hn : n ≤ cur.length) : (cur.take a ++ vs ++ cur.drop (a + vs.length)).take n = (cur.take n).take a ++ vs ++ (cur.take n).drop (a + vs.length) := by
 have l1 : (cur.take a).length = a := by simp; omega
 rw [List.append_assoc,List.take_append,l1,List.take_append,List.take_take,List.take_take,Nat.min_eq_right (by omega),Nat.min_eq_left (by omega),List.take_of_length_le (l := vs) (by omega),List.append_assoc]
 congr 2
 rw [List.drop_take]
 congr 1
 omega

theorem getS_append_right' {u S : Upd} {i : Nat} (h : ∀ p ∈ u,p.1 ≠ i) : getS (u ++ S) i = getS S i := by
 induction u with
 | nil => rfl
 | cons p u ih =>
  obtain ⟨d,e⟩ := p
  rw [List.cons_append,getS_cons_ne _ _ (fun he => h (d,e) (by simp) he.symm)]
  exact ih (fun p hp => h p (by simp [hp]))

theorem getS_deadU (S : Upd) : ∀ (ids : List (Option Nat)) (i : Nat),some i ∈ ids → getS (deadU ids ++ S) i = .dead
 | [],i,h => by simp at h
 | o :: r,i,h => by
  cases o with
  | none => exact getS_deadU S r i (by simpa using h)
  | some m =>
   by_cases hm : i = m
   ·subst hm
    exact getS_cons_self _ _ _
   ·have : some i ∈ r := by
     rcases List.mem_cons.1 h with h | h
     ·exact absurd (Option.some.inj h) hm
     ·exact h
    show getS ((m,Ent.dead) :: (deadU r ++ S)) i = .dead
    rw [getS_cons_ne _ _ hm]
    exact getS_deadU S r i this

theorem mem_deadU {ids : List (Option Nat)} {p : Nat × Ent} (h : p ∈ deadU ids) : some p.1 ∈ ids := by
 unfold deadU at h
 obtain ⟨m,h1,rfl⟩ := List.mem_map.1 h
 obtain ⟨o,h2,h3⟩ := List.mem_filterMap.1 h1
 simp only [id] at h3
 rw [← h3]; exact h2

theorem takeCells_row' {S : Upd} : ∀ (k : Kd) (cs : List AVal) (x : k.ty) (rest : List AVal) (is : List (Option Nat)),takeCells S k cs = some (x,rest,is) → ∀ (j : Nat),some j ∈ is → IsRow S j := by
 intro k
 induction k with
 | int k =>
  intro cs x rest is h j hj
  cases cs with
  | nil => simp [takeCells] at h
  | cons c cs =>
   cases c <;> simp only [takeCells] at h <;> first | (cases h; done) | skip
   split at h
   ·simp only [Option.some.injEq,Prod.mk.injEq] at h; rw [← h.2.2] at hj; cases hj
   ·cases h
 | bool =>
  intro cs x rest is h j hj
  cases cs with
  | nil => simp [takeCells] at h
  | cons c cs =>
   cases c <;> simp only [takeCells] at h <;> first | (cases h; done) | skip
   simp only [Option.some.injEq,Prod.mk.injEq] at h; rw [← h.2.2] at hj; cases hj
 | str =>
  intro cs x rest is h j hj
  cases cs with
  | nil => simp [takeCells] at h
  | cons c cs =>
   cases c <;> simp only [takeCells] at h <;> first | (cases h; done) | skip
   simp only [Option.some.injEq,Prod.mk.injEq] at h; rw [← h.2.2] at hj; cases hj
 | one a ih => intro cs x rest is h; exact ih cs x rest is h
 | pair a b iha ihb =>
  intro cs x rest is h j hj
  simp only [takeCells] at h
  split at h
  ·rename_i x1 r1 i1 h1
   split at h
   ·rename_i y r2 i2 h2
    simp only [Option.some.injEq,Prod.mk.injEq] at h
    rw [← h.2.2] at hj
    rcases List.mem_append.1 hj with hj | hj
    ·exact iha _ _ _ _ h1 j hj
    ·exact ihb _ _ _ _ h2 j hj
   ·cases h
  ·cases h
 | sl o e ih =>
  intro cs x rest is h j hj
  cases cs with
  | nil => simp [takeCells] at h
  | cons c cs =>
   simp only [takeCells] at h
   split at h
   ·rename_i ys js hy
    simp only [Option.some.injEq,Prod.mk.injEq] at h
    rw [← h.2.2] at hj
    cases o with
    | none =>
     have : js = [] := by
      unfold takeSl at hy
      simp only at hy
      split at hy
      ·simp only [Option.some.injEq,Prod.mk.injEq] at hy; exact hy.2.symm
      ·simp only [Option.some.injEq,Prod.mk.injEq] at hy; exact hy.2.symm
      ·split at hy
       ·simp only [Option.some.injEq,Prod.mk.injEq] at hy; exact hy.2.symm
       ·cases hy
      ·split at hy
       ·split at hy
        ·simp only [Option.some.injEq,Prod.mk.injEq] at hy; exact hy.2.symm
        ·cases hy
       ·cases hy
      ·cases hy
     rw [this] at hj; cases hj
    | some t =>
     rcases takeSl_own hy with ⟨_,_,rfl⟩ | ⟨i,_,hro,hr,rfl⟩ | ⟨i,ver,_,hro,hr,rfl⟩
     ·cases hro : e.ro <;> rw [hro] at hj <;> simp at hj
     ·simp only [List.mem_singleton,Option.some.injEq] at hj
      subst hj
      exact .inl ⟨_,_,_,hr⟩
     ·simp only [List.mem_cons,Option.some.injEq,List.not_mem_nil,or_false] at hj
      rcases hj with hj | hj
      ·subst hj; exact .inr (.inl ⟨_,_,_,_,hr⟩)
      ·subst hj; exact .inr (.inr ⟨_,_,_,_,hr⟩)
   ·cases h

theorem takeCells_al (hx : Ctx w C R Al H S) {k : Kd} {cs : List AVal} {x : k.ty} {rest : List AVal} {is : List (Option Nat)} (h : takeCells S k cs = some (x,rest,is)) {j : Nat} (hj : some j ∈ is) : Al j := by
 rcases takeCells_row' k cs x rest is h j hj with ⟨t,e,ys,hr⟩ | ⟨t,e,v,ys,hr⟩ | ⟨m,t,e,ys,hr⟩
 ·exact hx.al j (by rw [hr]; simp)
 ·exact hx.al j (by rw [hr]; simp)
 ·exact (nrow_ok hx hr).2.2.1

theorem once_idx : ∀ (l : List (Option Nat)),(l.filterMap id).Nodup → ∀ (q j : Nat),l[q]? = some (some j) → l.idxOf? (some j) = some q := by
 intro l
 induction l with
 | nil => intro _ q j h; simp at h
 | cons o r ih =>
  intro hnd q j h
  cases q with
  | zero =>
   simp only [List.getElem?_cons_zero,Option.some.injEq] at h
   subst h
   simp [List.idxOf?_cons]
  | succ q =>
   simp only [List.getElem?_cons_succ] at h
   have hmem : j ∈ r.filterMap id := List.mem_filterMap.2 ⟨some j,List.mem_of_getElem? h,rfl⟩
   have hne : o ≠ some j := by
    intro ho
    subst ho
    simp only [List.filterMap_cons,id,List.nodup_cons] at hnd
    exact hnd.1 hmem
   have hnd' : (r.filterMap id).Nodup := by
    cases o with
    | none => simpa using hnd
    | some o => simp only [List.filterMap_cons,id,List.nodup_cons] at hnd; exact hnd.2
   rw [List.idxOf?_cons,if_neg (by simpa using hne),ih hnd' q j h]
   rfl

theorem idx_mem : ∀ (l : List (Option Nat)) (j q : Nat),l.idxOf? (some j) = some q → some j ∈ l := by
 intro l
 induction l with
 | nil => intro j q h; simp at h
 | cons o r ih =>
  intro j q h
  rw [List.idxOf?_cons] at h
  by_cases ho : o = some j
  ·rw [ho]; simp
  ·rw [if_neg (by simpa using ho)] at h
   cases hr : r.idxOf? (some j) with
   | none => rw [hr] at h; simp at h
   | some q' => exact List.mem_cons_of_mem _ (ih j q' hr)

theorem idx_none {l : List (Option Nat)} {j : Nat} (h : some j ∉ l) : l.idxOf? (some j) = none := by
 cases hq : l.idxOf? (some j) with
 | none => rfl
 | some q => exact absurd (idx_mem l j q hq) h

theorem store_elem {i t : Nat} {e : Kd} {xs : List e.ty} (_ : Ctx w C R Al H S) (hrp : Rp w C R i (.sl (some t) e) xs [] [H i]) {ti : TI} {tt : Nat} {inf : TypeInfo} {d : TypeDesc} {z : Value} (hr : TIok P tt ti inf d z) {j o : Nat} {y : e.ty} (hj : xs[j]? = some y) {cx cv : Value}
  (ha : ∃ g n c,H i = .slice (some ⟨g,0,none⟩) n c ∧ cx = .pointer (some ⟨g,j * e.size + o,none⟩)) (hsz : cv.cells.toList.length = ti.size) (hle : o + cv.cells.toList.length ≤ e.size) (h1 : ∀ u ∈ cv.cells.toList,u.oneCell' = true) :
  ∃ g cap cur fl,H i = .slice (some ⟨g,0,none⟩) xs.length cap ∧ 0 < cap ∧ C g = some (i,[]) ∧ w.heap[g]? = some (.cells cur t (0,0)) ∧ Own w t e.size (H i) xs.length fl ∧ Lst (fun j x c => Rp w C R i e x [j] c) 0 xs fl ∧ Rp w C R i e y [j] ((fl.drop (j * e.size)).take e.size) ∧
   (Instr.storeAt tt cx cv).run P w = .ok () (w.setRow g (cur.toList.take (j * e.size + o) ++ cv.cells.toList ++ cur.toList.drop (j * e.size + o + cv.cells.toList.length)).toArray) ∧
   ∀ cc : List Value,cc = over ((fl.drop (j * e.size)).take e.size) e.size o cv.cells.toList → Own (w.setRow g (cur.toList.take (j * e.size + o) ++ cv.cells.toList ++ cur.toList.drop (j * e.size + o + cv.cells.toList.length)).toArray) t e.size (H i) xs.length (fl.take (j * e.size) ++ cc ++ fl.drop (j * e.size + e.size)) := by
 obtain ⟨fl,ho,hcg,hlst⟩ := rp_row hrp
 obtain ⟨g',n',c',e5,e6⟩ := ha
 have hjl : j < xs.length := (List.getElem?_eq_some_iff.1 hj).1
 rcases ho.2 with ⟨A,hv',hn⟩ | ⟨g,cap,cur,hv',hb',hg,hnc,hcm,hcsz,htk⟩
 ·omega
 ·rw [hv'] at e5
  simp only [Value.slice.injEq,Option.some.injEq,Addr.mk.injEq,and_true] at e5
  obtain ⟨e5,_,_⟩ := e5
  subst e5 e6
  have hgc := hcg g (by rw [hv']; exact ownB_of hb')
  have hfl : fl.length = xs.length * e.size := ho.1
  have hbnd : j * e.size + e.size ≤ fl.length := by
   rw [hfl]
   have : (j + 1) * e.size ≤ xs.length * e.size := Nat.mul_le_mul_right _ hjl
   rw [Nat.add_mul,Nat.one_mul] at this
   exact this
  have hcur : fl.length ≤ cur.size := by rw [hfl,hcsz]; exact Nat.mul_le_mul_right _ hnc
  have hel := Lst.get (s := e.size) (fun j x c hx => Rp.length _ _ _ _ hx) xs 0 fl hlst j y hj
  rw [Nat.zero_add] at hel
  have hrun := run_storeVar hr g (j * e.size + o) t cur cv hg hsz (by omega) h1
  refine ⟨g,cap,cur,fl,hv',hb',hgc,hg,ho,hlst,hel,hrun,fun cc hcc => ?_⟩
  have hcl : cv.cells.toList.take (e.size - o) = cv.cells.toList := List.take_of_length_le (by omega)
  have key : (cur.toList.take (j * e.size + o) ++ cv.cells.toList ++ cur.toList.drop (j * e.size + o + cv.cells.toList.length)).take (xs.length * e.size) = fl.take (j * e.size) ++ cc ++ fl.drop (j * e.size + e.size) := by
   rw [hcc]
   unfold over
   rw [hcl,seg_eq fl (j * e.size) e.size o cv.cells.toList (by omega) (by omega)]
   rw [← htk]
   rw [hfl] at hbnd
   exact take_seg _ _ _ _ (by omega) (by simp only [Array.length_toList]; omega)
  have hccl : cc.length = e.size := by
   rw [hcc]; unfold over
   rw [hcl]
   simp only [List.length_append,List.length_take,List.length_drop]
   omega
  refine ⟨?_,.inr ⟨g,cap,_,hv',hb',setRow_heap w g _ _ _ _ hg,hnc,hcm,?_,?_⟩⟩
  ·simp only [List.length_append,List.length_take,List.length_drop]
   omega
  ·have hh1 : cur.toList.length = cur.size := by simp
   simp only [List.size_toArray,List.length_append,List.length_take,List.length_drop]
   omega
  ·exact key

theorem storeA_ok (hi : Inv w0 L R0 S w C R Al H) {nn : Nat} (hnn : ∀ i,Al i → i < nn) {T : Tab} (hT : TabOK P T) {t : TypeId} {ti : TI} (ht : T.get t = some ti) {x v : AVal} {cx cv : Value} (ha : AV w R Al H x cx) (hv : AV w R Al H v cv) {α : Type} {k : Upd → Nat → Option α} {r : α}
  (h : storeA S nn ti x v k = some r) : ∃ u m w',k u m = some r ∧ nn ≤ m ∧ (Instr.storeAt t cx cv).run P w = .ok () w' ∧ ∃ C' Al' H',Inv w0 L R0 (u ++ S) w' C' R Al' H' ∧ (∀ i,Al' i → i < m) ∧ ∀ y c,AV w R Al H y c → AV w' R Al' H' y c := by
 have hx := hi.ctx
 obtain ⟨inf,d,z,hr⟩ := hT.row ht
 unfold storeA at h
 obtain ⟨hc,h'⟩ := chk_some h
 clear h
 simp only [Bool.and_eq_true] at hc
 have hsz := Nat.eq_of_beq_eq_true hc.1
 have hcs := solid_cells hv (one1s_solid hc.2) (fun i h => one_cells (hi.one i h))
 have hl := AVs.length _ _ hcs
 have h1 := one1s_ok hi.one _ _ hcs hc.2
 split at h'
 ·rename_i i o
  simp only [AV] at ha
  split at h'
  ·rename_i cs hb
   obtain ⟨hcc,h'⟩ := chk_some h'
   have hle := Nat.le_of_ble_eq_true hcc
   obtain ⟨hal,b,cells,T',q1,q2,q3,q4⟩ := box_ok hx hb
   obtain ⟨_,b',e5,e6⟩ := ha
   rw [q1] at e5
   simp only [Value.pointer.injEq,Option.some.injEq,Addr.mk.injEq,and_true] at e5
   subst e5 e6
   have hlen := AVs.length _ _ q4
   simp only [Array.length_toList] at hlen
   have hrun := run_storeVar hr b o T' cells cv q3 (by omega) (by omega) h1
   obtain ⟨k1,k2⟩ := hi.setBox hal q1 q2 q3 (cells' := (cells.toList.take o ++ cv.cells.toList ++ cells.toList.drop (o + cv.cells.toList.length)).toArray) (by simpa using AVs.setSeg q4 hcs o)
   exact ⟨_,_,_,h',Nat.le_refl _,hrun,C,Al,H,k1,hnn,k2⟩
  ·rename_i t' e s hb
   obtain ⟨hcc,h2⟩ := chk_some h'
   simp only [Bool.and_eq_true] at hcc
   have ho := Nat.eq_of_beq_eq_true hcc.1
   subst ho
   have hal : Al i := hi.al i (by rw [hb]; simp)
   have hent := hi.ent i
   rw [hb] at hent
   obtain ⟨b,p,v0,q1,q2,q3,q4,q5,q6⟩ := hent
   obtain ⟨_,b',e5,e6⟩ := ha
   rw [q1] at e5
   simp only [Value.pointer.injEq,Option.some.injEq,Addr.mk.injEq,and_true] at e5
   subst e5 e6
   have hcells : cv.cells.toList = [.pointer none,.slice none 0 0] := by
    have hz := hcc.2
    unfold bldZ at hz
    split at hz
    ·rename_i h0
     rw [h0] at hcs
     simp only [AVs,AV] at hcs
     obtain ⟨a,r,e1,rfl,c,r',e2,rfl,e3⟩ := hcs
     rw [e1,e2,e3]
    ·cases hz
   have hrun := run_storeVar hr b 0 t' #[p,v0] cv q3 (by rw [hl]; exact hsz) (by simp [hcells]) h1
   have hce : (#[p,v0].toList.take 0 ++ cv.cells.toList ++ #[p,v0].toList.drop (0 + cv.cells.toList.length)).toArray = #[.pointer none,.slice none 0 0] := by rw [hcells]; rfl
   rw [hce] at hrun
   obtain ⟨k1,k2⟩ := hi.touch hal q2 #[.pointer none,.slice none 0 0] (ent := .bld t' e .empty) fun hR => ⟨b,.pointer none,.slice none 0 0,q1,q2,setRow_heap w b _ _ _ _ q3,.inl rfl,Own.nil _ _ _ none,fun g hg => by cases hg⟩
   exact ⟨[_],_,_,h2,Nat.le_refl _,hrun,C,Al,H,k1,hnn,k2⟩
  ·cases h'
 ·rename_i i s j o
  simp only [AV] at ha
  split at h'
  ·rename_i t' e xs hb
   obtain ⟨hcc,h3⟩ := chk_some h'
   clear h'
   have h' := h3
   clear h3
   simp only [Bool.and_eq_true] at hcc
   obtain ⟨⟨c1,c2⟩,c3⟩ := hcc
   have c1 := Nat.eq_of_beq_eq_true c1
   have c2 := Nat.le_of_ble_eq_true c2
   subst c1
   cases hj : xs[j]? with
   | none => rw [hj] at h'; cases h'
   | some y =>
    rw [hj] at h'
    simp only [Option.bind_some] at h'
    split at h'
    ·rename_i y' is hy'
     obtain ⟨hal,fl,ho,hcg,hlst⟩ := row_ok hx hb
     obtain ⟨_,g',n',c',e5,e6⟩ := ha
     have hjl : j < xs.length := (List.getElem?_eq_some_iff.1 hj).1
     rcases ho.2 with ⟨A,hv',hn⟩ | ⟨g,cap,cur,hv',hb',hg,hnc,hcm,hcsz,htk⟩
     ·omega
     ·rw [hv'] at e5
      simp only [Value.slice.injEq,Option.some.injEq,Addr.mk.injEq,and_true] at e5
      obtain ⟨e5,_,_⟩ := e5
      subst e5 e6
      have hgc := hcg g (by rw [hv']; exact ownB_of hb')
      have hfl : fl.length = xs.length * e.size := ho.1
      have hbnd : j * e.size + e.size ≤ fl.length := by
       rw [hfl]
       have : (j + 1) * e.size ≤ xs.length * e.size := Nat.mul_le_mul_right _ hjl
       rw [Nat.add_mul,Nat.one_mul] at this
       exact this
      have hcur : fl.length ≤ cur.size := by rw [hfl,hcsz]; exact Nat.mul_le_mul_right _ hnc
      have hel := Lst.get (s := e.size) (fun j x c hx => Rp.length _ _ _ _ hx) xs 0 fl hlst j y hj
      rw [Nat.zero_add] at hel
      have hel0 : Rp w noC R 0 e y [] ((fl.drop (j * e.size)).take e.size) := Rp.ro (fun b hb => ⟨hb,rfl⟩) e c3 y _ _ _ hel
      have hset := AVs.setSeg (cellsOf_ok (Al := Al) (H := H) e y [] _ hel0) hcs o
      obtain ⟨cc,rr,f1,f2,f3⟩ := takeCells_ro hx e c3 _ _ _ _ hy' _ hset
      simp only [AVs] at f3
      subst f3
      rw [List.append_nil] at f1
      have hvl : cv.cells.toList.length = (cellsV v).length := hl
      have hrun := run_storeVar hr g (j * e.size + o) t' cur cv hg (by omega) (by omega) h1
      have key : (cur.toList.take (j * e.size + o) ++ cv.cells.toList ++ cur.toList.drop (j * e.size + o + cv.cells.toList.length)).take (xs.length * e.size) = fl.take (j * e.size) ++ cc ++ fl.drop (j * e.size + e.size) := by
       rw [← f1]
       rw [seg_eq fl (j * e.size) e.size o cv.cells.toList (by omega) (by omega)]
       rw [← htk]
       rw [hfl] at hbnd
       exact take_seg _ _ _ _ (by omega) (by simp only [Array.length_toList]; omega)
      obtain ⟨k1,k2⟩ := hi.touch hal hgc (cur.toList.take (j * e.size + o) ++ cv.cells.toList ++ cur.toList.drop (j * e.size + o + cv.cells.toList.length)).toArray (ent := .row t' e (xs.set j y')) (fun hR => by
       simp only [EntOK]
       refine ⟨H i,fl.take (j * e.size) ++ cc ++ fl.drop (j * e.size + e.size),rfl,⟨?_,.inr ⟨g,cap,_,by rw [hv']; simp,hb',setRow_heap w g _ _ _ _ hg,by simpa using hnc,hcm,?_,?_⟩⟩,hcg,?_⟩
       ·have := Rp.length _ _ _ _ (f2 [])
        simp only [List.length_append,List.length_take,List.length_drop,List.length_set]
        omega
       ·have hh1 : cur.toList.length = cur.size := by simp
        simp only [List.size_toArray,List.length_append,List.length_take,List.length_drop]
        omega
       ·simp only [List.length_set]
        exact key
       ·have hm : Lst (fun j x c => Rp (w.setRow g (cur.toList.take (j * e.size + o) ++ cv.cells.toList ++ cur.toList.drop (j * e.size + o + cv.cells.toList.length)).toArray) C R i e x [j] c) 0 xs fl → True := fun _ => trivial
        have hl2 := Lst.set (s := e.size) (f := fun j x c => Rp w C R i e x [j] c) (fun j x c hx => Rp.length _ _ _ _ hx) xs 0 fl hlst j y' cc hjl (by
         exact Rp.ro (fun b hb => ⟨hb,rfl⟩) e c3 y' _ _ _ (f2 []))
        exact Lst.imp (fun j x c hx => Rp.ro hR e c3 x _ _ c hx) _ _ _ hl2)
      exact ⟨_,_,_,h',Nat.le_refl _,hrun,C,Al,H,k1,hnn,k2⟩
    ·cases h'
  ·rename_i t' e ver xs hb
   obtain ⟨hcc,h3⟩ := chk_some h'
   clear h'
   have h' := h3
   clear h3
   simp only [Bool.and_eq_true] at hcc
   obtain ⟨⟨c1,c2⟩,c3⟩ := hcc
   have c1 := Nat.eq_of_beq_eq_true c1
   have c2 := Nat.le_of_ble_eq_true c2
   subst c1
   obtain ⟨hal,hrp,hver,hhd⟩ := nrow_ok hx hb
   obtain ⟨_,ha⟩ := ha
   have hvl : cv.cells.toList.length = (cellsV v).length := hl
   have hHi : (H i).oneCell' = true := hi.one i hal
   cases hho : hasOwn e o (cellsV v).length
   ·rw [hho] at h'
    simp only [cond_false] at h'
    cases hj : xs[j]? with
    | none => rw [hj] at h'; cases h'
    | some y =>
     rw [hj] at h'
     simp only [Option.bind_some] at h'
     split at h'
     ·rename_i y' o' hy'
      obtain ⟨g,cap,cur,fl,q1,q2,q3,q4,q5,q6,q7,q8,q9⟩ := store_elem hx hrp hr hj ha (by omega) (by omega) h1
      have hjl : j < xs.length := (List.getElem?_eq_some_iff.1 hj).1
      obtain ⟨_,_,p3⟩ := putF_ok hx e c3 y o _ y' o' [] hy' [j] _ _ q7 hcs
      have hOwn := q9 _ rfl
      obtain ⟨k1,k2⟩ := hi.touch hal q3 (cur.toList.take (j * e.size + o) ++ cv.cells.toList ++ cur.toList.drop (j * e.size + o + cv.cells.toList.length)).toArray (ent := .nrow t' e ver (xs.set j y')) (fun hR => by
       simp only [EntOK]
       have hnest : ∀ b r l,C b = some (i,r ++ [l]) → (w.setRow g (cur.toList.take (j * e.size + o) ++ cv.cells.toList ++ cur.toList.drop (j * e.size + o + cv.cells.toList.length)).toArray).heap[b]? = w.heap[b]? := fun b r l hb' => setRow_other w g b _ (fun he => by
        rw [he,q3] at hb'
        simp at hb')
       refine ⟨⟨H i,_,rfl,by rw [List.length_set]; exact hOwn,fun g' hg' => ?_,?_⟩,hver,?_⟩
       ·rw [q1,ownB_of q2] at hg'
        simp only [Option.some.injEq] at hg'
        rw [← hg']; exact q3
       ·have hl2 := Lst.set (s := e.size) (f := fun j x c => Rp w C R i e x [j] c) (fun j x c hx => Rp.length _ _ _ _ hx) xs 0 fl q6 j y' _ hjl (by rw [Nat.zero_add]; exact p3)
        exact Lst.imp (fun l x c hx => Rp.move hR e x [l] [l] c (fun b r hb' => ⟨hb',hnest b r l hb'⟩) hx) _ _ _ hl2
       ·refine ⟨hhd.1,fun g' c' N cur' T' o' hv' hc' hg' j' off hj' hown => ?_⟩
        rw [q1] at hv'
        simp only [Value.slice.injEq,Option.some.injEq,Addr.mk.injEq,and_true] at hv'
        obtain ⟨rfl,rfl,rfl⟩ := hv'
        rw [setRow_heap w g _ _ _ _ q4] at hg'
        simp only [Option.some.injEq,Obj.cells.injEq] at hg'
        obtain ⟨rfl,_,_⟩ := hg'
        rw [List.length_set] at hj'
        have hold := hhd.2 g _ _ cur t' (0,0) q1 q2 q4 j' off hj' hown
        have hlt := ownAt_lt e off hown
        have hcapb : (j' + 1) * e.size ≤ cur.toList.length := by
         have := (List.getElem?_eq_some_iff.1 hold).1
         rcases q5.2 with ⟨A,hv'',hn⟩ | ⟨g2,cap2,cur2,hv'',_,hg2,hnc,_,hcsz,_⟩
         ·omega
         ·rw [q1] at hv''
          simp only [Value.slice.injEq,Option.some.injEq,Addr.mk.injEq,and_true] at hv''
          obtain ⟨rfl,_,rfl⟩ := hv''
          rw [q4] at hg2
          simp only [Option.some.injEq,Obj.cells.injEq,and_true] at hg2
          subst hg2
          simp only [Array.length_toList,hcsz]
          exact Nat.mul_le_mul_right _ (by omega)
        have hcsz0 : cur.toList.length = cur.size := by simp
        by_cases hjj : j' = j
        ·subst hjj
         have hout : off < o ∨ o + cv.cells.toList.length ≤ off := by
          rcases Nat.lt_or_ge off o with h | h
          ·exact .inl h
          ·rcases Nat.lt_or_ge off (o + cv.cells.toList.length) with h' | h'
           ·have := hasOwn_none hho off h (by omega)
            rw [this] at hown; simp at hown
           ·exact .inr h'
         rw [← hold]
         rw [Nat.add_mul,Nat.one_mul] at hcapb
         rcases hout with h | h
         ·rw [List.append_assoc,List.getElem?_append_left (by rw [List.length_take]; omega),List.getElem?_take,if_pos (by omega)]
         ·rw [List.getElem?_append_right (by rw [List.length_append,List.length_take]; omega),List.getElem?_drop]
          congr 1
          simp only [List.length_append,List.length_take]
          omega
        ·rw [← hold]
         rcases Nat.lt_or_ge j' j with h | h
         ·have : (j' + 1) * e.size ≤ j * e.size := Nat.mul_le_mul_right _ h
          rw [Nat.add_mul,Nat.one_mul] at this hcapb
          rw [List.append_assoc,List.getElem?_append_left (by rw [List.length_take]; omega),List.getElem?_take,if_pos (by omega)]
         ·have : (j + 1) * e.size ≤ j' * e.size := Nat.mul_le_mul_right _ (by omega)
          rw [Nat.add_mul,Nat.one_mul] at this hcapb
          rw [List.getElem?_append_right (by rw [List.length_append,List.length_take]; omega),List.getElem?_drop]
          congr 1
          simp only [List.length_append,List.length_take]
          omega)
      exact ⟨_,_,_,h',Nat.le_refl _,q8,C,Al,H,k1,hnn,k2⟩
     ·cases h'
   ·rw [hho] at h'
    simp only [cond_true] at h'
    obtain ⟨hc2,h4⟩ := chk_some h'
    clear h'
    have h' := h4
    clear h4
    simp only [Bool.and_eq_true] at hc2
    have ho0 := Nat.eq_of_beq_eq_true hc2.1
    have hfull := Nat.eq_of_beq_eq_true hc2.2
    subst ho0
    cases hj : xs[j]? with
    | none => rw [hj] at h'; cases h'
    | some y =>
     rw [hj] at h'
     simp only [Option.bind_some] at h'
     split at h'
     ·rename_i y' ids hy'
      obtain ⟨hc3,h4⟩ := chk_some h'
      clear h'
      have h' := h4
      clear h4
      simp only [Bool.and_eq_true,Bool.not_eq_true'] at hc3
      have honce : (ids.filterMap id).Nodup := of_decide_eq_true hc3.1
      have hni : some i ∉ ids := by have := hc3.2; simpa using this
      obtain ⟨g,cap,cur,fl,q1,q2,q3,q4,q5,q6,q7,q8,q9⟩ := store_elem hx hrp hr hj ha (by omega) (by omega) h1
      have hjl : j < xs.length := (List.getElem?_eq_some_iff.1 hj).1
      have idal : ∀ m,some m ∈ ids → Al m := fun m hm => takeCells_al hx hy' hm
      have hover : over ((fl.drop (j * e.size)).take e.size) e.size 0 cv.cells.toList = cv.cells.toList := by
       have := Rp.length _ _ _ _ q7
       unfold over
       rw [List.take_zero,Nat.sub_zero,List.take_of_length_le (by omega),List.drop_eq_nil_of_le (by omega)]
       simp
      have hOwn := q9 _ hover.symm
      generalize hw' : w.setRow g (cur.toList.take (j * e.size + 0) ++ cv.cells.toList ++ cur.toList.drop (j * e.size + 0 + cv.cells.toList.length)).toArray = w' at q8 hOwn
      obtain ⟨hv,hv1,hvh⟩ := Heads.make hOwn
      let C' : Col := fun b => match C b with
       | some (m,p) => match ids.idxOf? (some m) with
        | some q => match (pths e [j])[q]? with
         | some pq => some (i,p ++ pq)
         | none => none
        | none => some (m,p)
       | none => none
      let Al' : Nat → Prop := fun m => Al m ∨ m = nn
      let H' : Nat → Value := fun m => if m = nn then hv else H m
      have hA : ∀ m,Al m → Al' m ∧ H' m = H m := fun m hm => ⟨.inl hm,by have := hnn m hm; simp only [H']; rw [if_neg (by omega)]⟩
      have hsame : ∀ b,b ≠ g → w'.heap[b]? = w.heap[b]? := fun b hb => by rw [← hw']; exact setRow_other w g b _ hb
      have hsz' : w'.heap.size = w.heap.size := by rw [← hw']; simp
      have hR : ∀ b,R b → R b ∧ w'.heap[b]? = w.heap[b]? := fun b hb => ⟨hb,hsame b (fun he => by
       have := (hi.rd b hb).2.1
       rw [he,q3] at this; cases this)⟩
      have hCo : ∀ b m p,some m ∉ ids → C b = some (m,p) → C' b = some (m,p) := fun b m p hm hb => by
       simp only [C',hb,idx_none hm]
      have hCi : ∀ b m p,C' b = some (m,p) → m ≠ i → C b = some (m,p) ∧ some m ∉ ids := by
       intro b m p hb hmi
       simp only [C'] at hb
       cases hc : C b with
       | none => rw [hc] at hb; cases hb
       | some mp =>
        obtain ⟨m',p'⟩ := mp
        rw [hc] at hb
        simp only at hb
        cases hq : ids.idxOf? (some m') with
        | some q =>
         rw [hq] at hb
         simp only at hb
         split at hb
         ·simp only [Option.some.injEq,Prod.mk.injEq] at hb
          exact absurd hb.1.symm hmi
         ·cases hb
        | none =>
         rw [hq] at hb
         simp only [Option.some.injEq,Prod.mk.injEq] at hb
         obtain ⟨rfl,rfl⟩ := hb
         refine ⟨rfl,fun hm => ?_⟩
         obtain ⟨q,hq'⟩ := List.getElem?_of_mem hm
         rw [once_idx ids honce q m' hq'] at hq
         cases hq
      have hnew : Rp w' C' R i e y' [j] cv.cells.toList := by
       obtain ⟨cc,rr,f1,f2,f3⟩ := takeCells_into (w' := w') (C' := C') hx hR (i := i) e c3 _ _ _ _ [j] hy' _ hcs (fun q m pq hq hp b p' hb => by
        refine ⟨?_,hsame b (fun he => ?_)⟩
        ·simp only [C',hb,once_idx ids honce q m hq,hp]
        ·rw [he,q3] at hb
         simp only [Option.some.injEq,Prod.mk.injEq] at hb
         exact hni (hb.1 ▸ List.mem_of_getElem? hq))
       simp only [AVs] at f3
       subst f3
       rw [List.append_nil] at f1
       rw [f1]; exact f2
      have hCgi : C' g = some (i,[]) := hCo g i [] hni q3
      have hent : EntOK w' C' R Al' H' i (.nrow t' e nn (xs.set j y')) := by
       have hin : i ≠ nn := by have := hnn i hal; omega
       have hHi' : H' i = H i := by simp only [H']; rw [if_neg hin]
       simp only [EntOK]
       rw [hHi']
       refine ⟨⟨H i,_,rfl,by rw [List.length_set]; exact hOwn,fun g' hg' => ?_,?_⟩,.inr rfl,?_⟩
       ·rw [q1,ownB_of q2] at hg'
        simp only [Option.some.injEq] at hg'
        rw [← hg']; exact hCgi
       ·have hold : Lst (fun l x c => Rp w' C' R i e x [l] c) 0 xs fl := Lst.imp (fun l x c hx => Rp.move hR e x [l] [l] c (fun b r hb' => ⟨hCo b i _ hni hb',hsame b (fun he => by
         rw [he,q3] at hb'; simp at hb')⟩) hx) _ _ _ q6
        exact Lst.set (s := e.size) (fun j x c hx => Rp.length _ _ _ _ hx) xs 0 fl hold j y' _ hjl (by rw [Nat.zero_add]; exact hnew)
       ·have : H' nn = hv := by simp [H']
        rw [this,List.length_set]
        exact hvh
      have key := hi.upd (w' := w') (S' := ((i,.nrow t' e nn (xs.set j y')) :: (nn,.ver) :: deadU ids) ++ S) (C' := C') (Al' := Al') (H' := H') (fun m => m = i ∨ m = nn ∨ some m ∈ ids) (fun b => b = g)
       (by rw [← hw']; rfl) (by rw [← hw']; rfl) (by rw [← hw']; rfl) (by rw [hsz']; exact Nat.le_refl _) (fun b _ hd => hsame b hd) (fun b hd => ⟨i,[],by rw [hd]; exact q3,.inl rfl⟩)
       (fun b m p hm => ⟨fun h => (hCi b m p h (fun he => hm (.inl he))).1,fun h => hCo b m p (fun h' => hm (.inr (.inr h'))) h⟩)
       (fun b m p hm hb => by
        have hcb : ∃ m' p',C b = some (m',p') ∧ (m = i ∨ m' = m) := by
         by_cases hmi : m = i
         ·simp only [C'] at hb
          cases hc : C b with
          | none => rw [hc] at hb; cases hb
          | some mp => exact ⟨mp.1,mp.2,rfl,.inl hmi⟩
         ·exact ⟨m,p,(hCi b m p hb hmi).1,.inr rfl⟩
        obtain ⟨m',p',hcb,hor⟩ := hcb
        have hcol := hi.col b m' p' hcb
        refine ⟨?_,by rw [hsz']; exact hcol.2.1,hcol.2.2,fun hr => ?_⟩
        ·rcases hor with rfl | rfl
         ·exact .inl hal
         ·exact .inl hcol.1
        ·rw [(hi.rd b hr).2.1] at hcb; cases hcb)
       hA (fun m hm hn => by
        rcases hm with hm | hm
        ·exact absurd hm hn
        ·simp only [H']; rw [if_pos hm]; exact hv1)
       (fun m hm => by
        rw [List.cons_append,getS_cons_ne _ _ (fun h => hm (.inl h)),List.cons_append,getS_cons_ne _ _ (fun h => hm (.inr (.inl h)))]
        exact getS_append_right' (fun p hp he => hm (.inr (.inr (he ▸ mem_deadU hp)))))
       (fun m hm => by
        by_cases hmi : m = i
        ·subst hmi
         rw [List.cons_append,getS_cons_self]
         exact hent
        ·rw [List.cons_append,getS_cons_ne _ _ hmi]
         by_cases hmn : m = nn
         ·subst hmn
          rw [List.cons_append,getS_cons_self]
          trivial
         ·rw [List.cons_append,getS_cons_ne _ _ hmn]
          rcases hm with hm | hm | hm
          ·exact absurd hm hmi
          ·exact absurd hm hmn
          ·rw [getS_deadU S ids m hm]; trivial)
       (fun m hm => by
        rcases hm with rfl | rfl | hm
        ·exact .inl hal
        ·exact .inr rfl
        ·exact .inl (idal m hm))
      refine ⟨_,_,w',h',by omega,q8,C',Al',H',key.1,fun m hm => ?_,key.2⟩
      rcases hm with hm | hm
      ·have := hnn m hm; omega
      ·omega
     ·cases h'
  ·cases h'
 ·cases h'

end
end Go.Rv
