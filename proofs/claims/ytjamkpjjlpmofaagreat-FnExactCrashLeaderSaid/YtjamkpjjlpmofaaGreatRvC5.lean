/- Operations that make rows are sound. No condition. -/
import Derived.Test.YtjamkpjjlpmofaaGreatRvC
import Derived.Great.BuildSlice
import Derived.Lib.AppendZerosOnto
import Derived.Lib.AppendStr
namespace Go.Rv
section
variable {w0 w : World} {L : Hnd} {R0 : Nat → Prop} {S : Upd} {C : Col} {R Al : Nat → Prop} {H : Nat → Value} {P : Program}

def Left (w0 : World) (L : Hnd) (R0 : Nat → Prop) (S : Upd) (R Al : Nat → Prop) (H : Nat → Value) (w : World) (n : Nat) (v : AVal) (cv : Value) (w' : World) : Prop :=
 ∃ C' Al' H',Inv w0 L R0 S w' C' R Al' H' ∧ (∀ i,Al' i → i < n) ∧ AV w' R Al' H' v cv ∧ ∀ y c,AV w R Al H y c → AV w' R Al' H' y c

theorem Lst.keep {w w' : World} {R : Nat → Prop} (hR : ∀ b,R b → R b ∧ w'.heap[b]? = w.heap[b]?) {e : Kd} (hro : e.ro = true) {xs : List e.ty} {fl : List Value} {b : Nat}
  (h : Lst (fun j x c => Rp w noC R 0 e x [j] c) b xs fl) : Lst (fun j x c => Rp w' noC R 0 e x [j] c) b xs fl := Lst.imp (fun _ x c hx => Rp.ro hR e hro x _ _ c hx) _ _ _ h

theorem Lst.shift {w : World} {R : Nat → Prop} {e : Kd} : ∀ (xs : List e.ty) (fl : List Value) (b b' : Nat),Lst (fun j x c => Rp w noC R 0 e x [j] c) b xs fl → Lst (fun j x c => Rp w noC R 0 e x [j] c) b' xs fl
 | [],_,_,_,h => h
 | _ :: xs,_,b,b',⟨c,r,he,hf,hr⟩ => ⟨c,r,he,noC_path _ _ _ _ _ hf,Lst.shift xs r (b + 1) (b' + 1) hr⟩

theorem grown_R (hi : Inv w0 L R0 S w C R Al H) {w' : World} {ob : Option Nat} (hg : w.grownBy w' ob) (hob : ∀ g,ob = some g → ∃ i,C g = some (i,[])) : ∀ b,R b → R b ∧ w'.heap[b]? = w.heap[b]? := by
 intro b hb
 refine ⟨hb,hg.block b (hi.rd b hb).1 (fun he => ?_)⟩
 obtain ⟨i,hc⟩ := hob b he.symm
 rw [(hi.rd b hb).2.1] at hc
 cases hc

theorem run_append_Own {t ty e : TypeId} {i : TypeInfo} {z : Value} {size bytes : Nat} (hu : P.underlying t = some (.slice e)) (hin : P.info? e = some i) (hz : i.zero = some z)
  (hsize : i.size = size) (hby : i.bytes = bytes) (hzs : z.cells.size = size) (hsz : 0 < size) {v : Value} {n : Nat} {xs : List Value} (how : Own w e size v n xs)
  (a : Addr) (m c : Nat) (news : List Value) (hl : news.length = m * size) (hnews : ∀ (j : Nat) (u : Value),news[j]? = some u → w.cell? (a.add j) = some u) (h1 : ∀ u ∈ news,u.oneCell' = true)
  (h63 : n + m ≤ maxLen) (hbytes : (n + m) * bytes ≤ 140737488355328) :
  ∃ v' w',(Builtin.append_ #[t,t] ty #[v,.slice (some a) m c]).run P w = .ok v' w' ∧ Own w' e size v' (n + m) (xs ++ news) ∧ w.grownBy w' (ownB v) ∧ ∀ g,ownB v' = some g → w.heap.size ≤ g ∨ ownB v = some g := by
 have hmx : maxLen = 9223372036854775807 := rfl
 rcases how.2 with ⟨A,rfl,rfl⟩ | ⟨b,cap,cur,rfl,hb,hcb,hnc,hcm,hcs,htk⟩
 ·have hxs : xs = [] := by have := how.1; simpa using this
  subst hxs
  cases A with
  | none =>
   obtain ⟨v2,w2,e1,e2,e3,_⟩ := run_append_own (P := P) w w.heap.size t ty e i z size bytes hu hin hz hsize hby hzs hsz (.slice none 0 0) 0 [] ⟨by simp,.inl ⟨rfl,rfl⟩⟩ a m c news hl hnews h1 h63 hbytes (Nat.le_refl _)
   refine ⟨v2,w2,e1,Own.of ⟨e2.1,?_⟩,e3,fun g hg => .inl (e2.lt g (ownB_block hg)).1⟩
   exact e2.2.imp id fun ⟨g,cap,cur,q1,q2,r⟩ => ⟨g,cap,cur,q1,Nat.zero_le _,r⟩
  | some a0 =>
   cases m with
   | zero =>
    have hn0 : news = [] := by simpa using hl
    subst hn0
    refine ⟨_,w,?_,Own.nil _ _ _ (some a0),⟨rfl,rfl,rfl,Nat.le_refl _,fun _ _ _ => rfl⟩,fun g hg => .inr hg⟩
    simp [Builtin.append_,run_underlying hu,sizeOf,typeInfo,hin,Builtin.lenOf,Builtin.firstCells,loadCells,loadCellsFrom,storeCells]
   | succ m =>
    have e1 := run_append_grow (P := P) w t ty e i z hu hin hz a0 0 0 [] (by simp) (by simp) a (m + 1) c news (by rw [hsize]; exact hl) hnews (by omega) (by omega) (by rw [hby]; exact growslice_fits (by omega) hbytes)
    have hge := grownCap_ge w (0 + (m + 1)) 0 e
    have hcm : grownCap w (0 + (m + 1)) 0 e ≤ maxLen := grownCap_le_maxLen w (0 + (m + 1)) 0 e h63
    have hlen : ([] ++ news : List Value).length = (0 + (m + 1)) * size := by simpa using hl
    refine ⟨_,_,e1,⟨hlen,.inr ⟨w.heap.size,_,_,rfl,by omega,heap_alloc_new w.drew _,hge,hcm,?_,?_⟩⟩,⟨rfl,rfl,rfl,by simp,fun k hk _ => heap_alloc_old w.drew _ k hk⟩,fun g hg => .inl ?_⟩
    ·simp only [Nat.zero_add] at hge ⊢
     simp only [Array.size_append,List.size_toArray,size_zeroCells,hzs,hl,List.length_nil,Nat.zero_add,← Nat.add_mul]
     congr 1
     omega
    ·simp only [Array.toList_append,List.append_assoc]
     rw [← List.append_assoc,← hlen]
     exact List.take_left
    ·have hg := ownB_block hg
     simp only [Value.ownBlock,Option.some.injEq] at hg
     omega
 ·have hob : ownB (.slice (some ⟨b,0,none⟩) n cap) = some b := ownB_of hb
  have how' := how.row hob
  obtain ⟨v2,w2,e1,e2,e3,_⟩ := run_append_own (P := P) w 0 t ty e i z size bytes hu hin hz hsize hby hzs hsz _ n xs how' a m c news hl hnews h1 h63 hbytes (Nat.zero_le _)
  refine ⟨v2,w2,e1,Own.of e2,by rw [hob]; exact e3,fun g hg => ?_⟩
  have hg := ownB_block hg
  by_cases hroom : n + m ≤ cap
  ·obtain ⟨w3,q1,q2,q3⟩ := run_append_fits (P := P) w 0 t ty e i size hu hin hsize b n cap xs how' a m c news hl hnews h1 hroom
   rw [e1] at q1
   simp only [Result.ok.injEq] at q1
   obtain ⟨rfl,rfl⟩ := q1
   exact .inr (by rw [hob]; simpa [Value.ownBlock] using hg)
  ·have holds : ∀ (j : Nat) (u : Value),xs[j]? = some u → w.cell? ((⟨b,0,none⟩ : Addr).add j) = some u := how'.cells (g := b) rfl
   have q1 := run_append_grow (P := P) w t ty e i z hu hin hz ⟨b,0,none⟩ n cap xs (by rw [hsize]; exact how.1) holds a m c news (by rw [hsize]; exact hl) hnews (by omega) (by omega) (by rw [hby]; exact growslice_fits (by omega) hbytes)
   rw [e1] at q1
   simp only [Result.ok.injEq] at q1
   obtain ⟨rfl,rfl⟩ := q1
   simp only [Value.ownBlock,Option.some.injEq] at hg
   exact .inl (by omega)

end
end Go.Rv
namespace Go.Rv
section
variable {w0 w : World} {L : Hnd} {R0 : Nat → Prop} {S : Upd} {C : Col} {R Al : Nat → Prop} {H : Nat → Value} {P : Program}

theorem getS_deadL (S : Upd) : ∀ (ids : List Nat) (i : Nat),i ∈ ids → getS ((ids.map fun i => (i,Ent.dead)) ++ S) i = .dead
 | [],i,h => by cases h
 | m :: r,i,h => by
  by_cases hm : i = m
  ·subst hm
   exact getS_cons_self _ _ _
  ·show getS ((m,Ent.dead) :: ((r.map fun i => (i,Ent.dead)) ++ S)) i = .dead
   rw [getS_cons_ne _ _ hm]
   exact getS_deadL S r i (by
    rcases List.mem_cons.1 h with h | h
    ·exact absurd h hm
    ·exact h)

theorem Inv.newN (h : Inv w0 L R0 S w C R Al H) {n : Nat} (hn : ∀ i,Al i → i < n) {w' : World} (ob : Option Nat) (hg : w.grownBy w' ob) (dead : List Nat) (hdead : ∀ m ∈ dead,Al m) (hob : ∀ g,ob = some g → ∃ m p,m ∈ dead ∧ C g = some (m,p))
  (C' : Col) (hC1 : ∀ b i p,i ≠ n → (C' b = some (i,p) ↔ C b = some (i,p) ∧ i ∉ dead)) (hC2 : ∀ b p,C' b = some (n,p) → b < w'.heap.size ∧ (w.heap.size ≤ b ∨ ∃ m q,m ∈ dead ∧ C b = some (m,q)))
  {t : Nat} {e : Kd} {xs : List e.ty} {v : Value} (hv1 : v.oneCell' = true) (hrp : Rp w' C' R n (.sl (some t) e) xs [] [v]) :
  ∃ Al' H',Inv w0 L R0 (((n,.nrow t e (n + 1) xs) :: (n + 1,.ver) :: (dead.map fun i => (i,.dead))) ++ S) w' C' R Al' H' ∧ (∀ i,Al' i → i < n + 2) ∧ AV w' R Al' H' (.ref n) v ∧ ∀ x c,AV w R Al H x c → AV w' R Al' H' x c := by
 have hown : ∃ fl,Own w' t e.size v xs.length fl := by
  obtain ⟨v',fl,he,ho,_⟩ := hrp
  simp only [List.cons.injEq,and_true] at he
  rw [he]; exact ⟨fl,ho⟩
 obtain ⟨fl,hown⟩ := hown
 obtain ⟨hv,hv2,hvh⟩ := Heads.make hown
 let Al' : Nat → Prop := fun m => Al m ∨ m = n ∨ m = n + 1
 let H' : Nat → Value := fun m => if m = n then v else if m = n + 1 then hv else H m
 have hA : ∀ m,Al m → Al' m ∧ H' m = H m := fun m hm => ⟨.inl hm,by have := hn m hm; simp only [H']; rw [if_neg (by omega),if_neg (by omega)]⟩
 have hH1 : H' n = v := by simp [H']
 have hH2 : H' (n + 1) = hv := by simp [H']
 have key := h.upd (w' := w') (S' := ((n,.nrow t e (n + 1) xs) :: (n + 1,.ver) :: (dead.map fun i => (i,.dead))) ++ S) (C' := C') (Al' := Al') (H' := H') (fun m => m = n ∨ m = n + 1 ∨ m ∈ dead) (fun b => ob = some b)
  hg.os hg.tape hg.output hg.size (fun b hb hd => hg.block b hb (fun he => hd he.symm)) (fun b hd => by
   obtain ⟨m,p,h1,h2⟩ := hob b hd
   exact ⟨m,p,h2,.inr (.inr h1)⟩)
  (fun b i p hi => by
   rw [hC1 b i p (fun he => hi (.inl he))]
   exact ⟨fun h => h.1,fun h => ⟨h,fun hd => hi (.inr (.inr hd))⟩⟩)
  (fun b i p hi hb => by
   by_cases hin : i = n
   ·subst hin
    obtain ⟨h1,h2⟩ := hC2 b p hb
    refine ⟨.inr (.inl rfl),h1,?_,fun hr => ?_⟩
    ·rcases h2 with h2 | ⟨m,q,_,h2⟩
     ·exact .inl (Nat.le_trans h.size h2)
     ·exact (h.col b m q h2).2.2
    ·rcases h2 with h2 | ⟨m,q,_,h2⟩
     ·have := (h.rd b hr).1; omega
     ·rw [(h.rd b hr).2.1] at h2; cases h2
   ·have := (hC1 b i p hin).1 hb
    have hcol := h.col b i p this.1
    rcases hi with hi | hi | hi
    ·exact absurd hi hin
    ·have := hn i hcol.1; omega
    ·exact absurd hi this.2)
  hA (fun i hi hal => by
   rcases hi with hi | hi | hi
   ·exact absurd hi hal
   ·rw [hi,hH1]; exact hv1
   ·rw [hi,hH2]; exact hv2)
  (fun i hi => by
   rw [List.cons_append,getS_cons_ne _ _ (fun h => hi (.inl h)),List.cons_append,getS_cons_ne _ _ (fun h => hi (.inr (.inl h)))]
   exact getS_append_right' (fun p hp he => hi (.inr (.inr (by
    obtain ⟨m,h1,rfl⟩ := List.mem_map.1 hp
    simp only at he
    rw [← he]; exact h1)))))
  (fun i hi => by
   by_cases hin : i = n
   ·subst hin
    rw [List.cons_append,getS_cons_self]
    simp only [EntOK]
    rw [hH1,hH2]
    exact ⟨hrp,.inr (.inr rfl),hvh⟩
   ·rw [List.cons_append,getS_cons_ne _ _ hin]
    by_cases hin2 : i = n + 1
    ·subst hin2
     rw [List.cons_append,getS_cons_self]
     trivial
    ·rw [List.cons_append,getS_cons_ne _ _ hin2]
     rcases hi with hi | hi | hi
     ·exact absurd hi hin
     ·exact absurd hi hin2
     ·rw [getS_deadL S dead i hi]; trivial)
  (fun i hi => by
   rcases hi with hi | hi | hi
   ·exact .inr (.inl hi)
   ·exact .inr (.inr hi)
   ·exact .inl (hdead i hi))
 refine ⟨Al',H',key.1,fun i hi => ?_,?_,key.2⟩
 ·rcases hi with hi | hi | hi
  ·have := hn i hi; omega
  ·omega
  ·omega
 ·simp only [AV]
  exact ⟨.inr (.inl rfl),hH1.symm⟩

theorem run_append_rows {t ty e : TypeId} {i : TypeInfo} {z : Value} {size bytes : Nat} (hu : P.underlying t = some (.slice e)) (hin : P.info? e = some i) (hz : i.zero = some z)
  (hsize : i.size = size) (hby : i.bytes = bytes) (hzs : z.cells.size = size) (hsz : 0 < size) (hbp : 0 < bytes) {v : Value} {n : Nat} {xs : List Value} (how : Own w e size v n xs)
  {v2 : Value} {m : Nat} {ys : List Value} (how2 : Own w e size v2 m ys) (h1 : ∀ u ∈ ys,u.oneCell' = true) (hbytes : (n + m) * bytes ≤ maxBytes) :
  ∃ v' w',(Builtin.append_ #[t,t] ty #[v,v2]).run P w = .ok v' w' ∧ Own w' e size v' (n + m) (xs ++ ys) ∧ w.grownBy w' (ownB v) ∧ ∀ g,ownB v' = some g → w.heap.size ≤ g ∨ ownB v = some g := by
 have maxe : maxLen = 9223372036854775807 := rfl
 have h63 : n + m ≤ maxLen := by
  have : (n + m) * 1 ≤ (n + m) * bytes := Nat.mul_le_mul_left _ hbp
  simp only [maxBytes] at hbytes
  omega
 rcases how2.2 with ⟨A,rfl,rfl⟩ | ⟨g,cap,cur,rfl,hb,hg,hnc,hcm,hcs,htk⟩
 ·have hys : ys = [] := by have := how2.1; simpa using this
  subst hys
  cases A with
  | none =>
   refine ⟨v,w,?_,by simpa using how,⟨rfl,rfl,rfl,Nat.le_refl _,fun _ _ _ => rfl⟩,fun g hg => .inr hg⟩
   rcases how.2 with ⟨A,rfl,hxl⟩ | ⟨g,cap,cur,rfl,_,_,hnc,_⟩
   ·cases A <;> simp [storeCells,Builtin.append_,run_underlying hu,sizeOf,typeInfo,hin,Builtin.lenOf,Builtin.firstCells]
   ·simp [Builtin.append_,run_underlying hu,sizeOf,typeInfo,hin,Builtin.lenOf,Builtin.firstCells,hnc,storeCells]
  | some a => exact run_append_Own (P := P) (ty := ty) hu hin hz hsize hby hzs hsz how a 0 0 [] (by simp) (by simp) (by simp) h63 (by simpa [maxBytes] using hbytes)
 ·refine run_append_Own (P := P) (ty := ty) hu hin hz hsize hby hzs hsz how ⟨g,0,none⟩ m cap ys how2.1 (fun j u hj => ?_) h1 h63 (by simpa [maxBytes] using hbytes)
  have ho := how2.row (g := g) (ownB_of hb)
  exact ho.cells (g := g) rfl j u hj

def shiftP (d : Nat) (p : List Nat) : Option (List Nat) := match p.getLast? with
 | some j => some (p.dropLast ++ [d + j])
 | none => none

theorem shiftP_snoc (d : Nat) (r : List Nat) (j : Nat) : shiftP d (r ++ [j]) = some (r ++ [d + j]) := by simp [shiftP]
theorem Lst.from {α : Type} {f g : Nat → α → List Value → Prop} (d : Nat) (h : ∀ j x c,f j x c → g (d + j) x c) : ∀ (xs : List α) (j : Nat) (fl : List Value),Lst f j xs fl → Lst g (d + j) xs fl
 | [],_,_,hl => hl
 | _ :: xs,j,_,⟨c,r,he,hf,hr⟩ => ⟨c,r,he,h _ _ _ hf,by rw [Nat.add_assoc]; exact Lst.from d h xs (j + 1) r hr⟩

theorem appN_ok (hi : Inv w0 L R0 S w C R Al H) {n : Nat} (hn : ∀ i,Al i → i < n) {t e' : TypeId} {i : TypeInfo} {z : Value} {size bytes : Nat} {e : Kd} (hu : P.underlying t = some (.slice e')) (hin : P.info? e' = some i) (hz : i.zero = some z)
  (hsize : i.size = size) (hby : i.bytes = bytes) (hzs : z.cells.size = size) (hes : e.size = size) (hbp : 0 < bytes) {x : AVal} {cx cy : Value} (hx : AV w R Al H x cx) {m t2 ver2 : Nat} {e2 : Kd} {ys : List e2.ty} (hy : AV w R Al H (.ref m) cy) (hm : getS S m = .nrow t2 e2 ver2 ys) {ty : TypeId} {α : Type} {k : AVal → Upd → Nat → Option α} {r : α}
  (h : appN S n e' e bytes x m t2 e2 ys k = some r) :
  ∃ v u m cv w',k v u m = some r ∧ n ≤ m ∧ (Builtin.append_ #[t,t] ty #[cx,cy]).run P w = .ok cv w' ∧ Left w0 L R0 (u ++ S) R Al H w m v cv w' := by
 have hctx := hi.ctx
 unfold appN at h
 obtain ⟨hc,h'⟩ := chk_some h
 clear h
 simp only [Bool.and_eq_true,decide_eq_true_eq] at hc
 obtain ⟨⟨c1,c2⟩,c3⟩ := hc
 have c1 := Nat.eq_of_beq_eq_true c1
 subst c1
 obtain ⟨halm,hrpm,hverm,_⟩ := nrow_ok hctx hm
 simp only [AV] at hy
 obtain ⟨_,rfl⟩ := hy
 have hes2 : e2.size = size := by rw [← hes,← c2,Kd.er_size]
 have spos : 0 < size := by rw [← hes]; exact e.size_pos
 obtain ⟨gl,hom,hcm,hlm⟩ := rp_row hrpm
 have hone : ∀ u ∈ gl,u.oneCell' = true := Lst.mem (Q := fun u => u.oneCell' = true) (fun j x c hx => Rp.one _ _ _ _ hx) _ _ _ hlm
 -- x: nothing,or row i
 have core : ∀ (old : Option Nat) (xs : List e2.ty) (fl : List Value),Own w t2 size cx xs.length fl → (∀ i,old = some i → Al i ∧ i ≠ m ∧ (∀ g,ownB cx = some g → C g = some (i,[])) ∧ Lst (fun j x c => Rp w C R i e2 x [j] c) 0 xs fl) → (old = none → xs = [] ∧ fl = [] ∧ ownB cx = none) → (xs.length + ys.length) * bytes ≤ maxBytes →
   ∃ cv w',(Builtin.append_ #[t,t] ty #[cx,H m]).run P w = .ok cv w' ∧ Left w0 L R0 (((n,.nrow t2 e2 (n + 1) (xs ++ ys)) :: (n + 1,.ver) :: ((old.toList ++ [m]).map fun i => (i,.dead))) ++ S) R Al H w (n + 2) (.ref n) cv w' := by
  intro old xs fl how hold hnone hbytes
  obtain ⟨cv,w',r1,r2,r3,r4⟩ := run_append_rows (P := P) (ty := ty) hu hin hz hsize hby hzs spos hbp how (by rw [← hes2]; exact hom) hone hbytes
  have hob : ∀ g,ownB cx = some g → ∃ i,old = some i ∧ C g = some (i,[]) := by
   intro g hg
   cases ho : old with
   | none => rw [(hnone ho).2.2] at hg; cases hg
   | some j => exact ⟨j,rfl,(hold j ho).2.2.1 g hg⟩
  have hnm : m < n := hn m halm
  have hno : ∀ i,old = some i → i < n := fun i h => hn i (hold i h).1
  let C' : Col := fun b => if ownB cv = some b then some (n,[]) else match C b with
   | some (i,p) => if old = some i then (match p with | [] => none | p => some (n,p)) else if i = m then (match shiftP xs.length p with | some q => some (n,q) | none => none) else some (i,p)
   | none => none
  have hlt := r2.lt
  have hold' : ∀ b i p,C b = some (i,p) → b < w.heap.size := fun b i p h => (hi.col b i p h).2.1
  -- a block of ours that is not the head's
  have nothead : ∀ b i r j,C b = some (i,r ++ [j]) → ownB cv ≠ some b := by
   intro b i r j hb hcv
   rcases r4 b hcv with h4 | h4
   ·have := hold' b _ _ hb; omega
   ·obtain ⟨i',_,h5⟩ := hob b h4
    rw [h5] at hb; simp at hb
  have sameN : ∀ b i r j,C b = some (i,r ++ [j]) → w'.heap[b]? = w.heap[b]? := by
   intro b i r j hb
   refine r3.block b (hold' b _ _ hb) (fun he => ?_)
   obtain ⟨i',_,h5⟩ := hob b he.symm
   rw [h5] at hb; simp at hb
  have hR : ∀ b,R b → R b ∧ w'.heap[b]? = w.heap[b]? := grown_R hi r3 (fun g hg => by obtain ⟨i,_,h⟩ := hob g hg; exact ⟨i,h⟩)
  have hl1 : Lst (fun j x c => Rp w' C' R n e2 x [j] c) 0 xs fl := by
   cases ho : old with
   | none => rw [(hnone ho).1,(hnone ho).2.1]; rfl
   | some i0 =>
    refine Lst.imp (fun j x c hx => Rp.move hR e2 x [j] [j] c (fun b r hb => ⟨?_,sameN b _ r j hb⟩) hx) _ _ _ (hold i0 ho).2.2.2
    simp only [C']
    rw [if_neg (nothead b _ r j hb),hb]
    simp only [ho,if_true]
    cases hr : r ++ [j] with
    | nil => simp at hr
    | cons a l => rfl
  have hl2 : Lst (fun j x c => Rp w' C' R n e2 x [j] c) (xs.length + 0) ys gl := by
   refine Lst.from (f := fun j x c => Rp w C R m e2 x [j] c) xs.length (fun j x c hx => Rp.move hR e2 x [j] [xs.length + j] c (fun b r hb => ⟨?_,sameN b _ r j hb⟩) hx) ys 0 gl hlm
   simp only [C']
   rw [if_neg (nothead b _ r j hb),hb]
   simp only
   rw [if_neg (fun ho => (hold m ho).2.1 rfl),shiftP_snoc]
   simp
  have hrp : Rp w' C' R n (.sl (some t2) e2) (xs ++ ys) [] [cv] := by
   refine ⟨cv,fl ++ gl,rfl,by rw [hes2,List.length_append]; exact r2,fun g hg => ?_,Lst.append xs 0 fl ys gl hl1 (by simpa using hl2)⟩
   simp only [C']; rw [if_pos hg]
  have hcv1 : cv.oneCell' = true := by
   rcases r2.2 with ⟨A,hv,_⟩ | ⟨g,cap,cur,hv,_⟩ <;> rw [hv] <;> rfl
  obtain ⟨Al',H',g1,g2,g3,g4⟩ := hi.newN hn (w' := w') (ownB cx) r3 (old.toList ++ [m]) (fun j hj => by
    rcases List.mem_append.1 hj with hj | hj
    ·exact (hold j (by simpa using hj)).1
    ·rw [List.mem_singleton.1 hj]; exact halm) (fun g hg => by
    obtain ⟨i,h1,h2⟩ := hob g hg
    exact ⟨i,[],by rw [h1]; simp,h2⟩) C' (fun b i p hin' => by
    have hmem : i ∈ old.toList ++ [m] ↔ old = some i ∨ i = m := by simp
    rw [hmem]
    simp only [C']
    by_cases hb : ownB cv = some b
    ·rw [if_pos hb]
     constructor
     ·intro h; simp only [Option.some.injEq,Prod.mk.injEq] at h; exact absurd h.1.symm hin'
     ·rintro ⟨h1,h2⟩
      rcases r4 b hb with h4 | h4
      ·have := hold' b _ _ h1; omega
      ·obtain ⟨i',h5,h6⟩ := hob b h4
       rw [h6] at h1
       simp only [Option.some.injEq,Prod.mk.injEq] at h1
       exact absurd (.inl (h1.1 ▸ h5)) h2
    ·rw [if_neg hb]
     cases hc : C b with
     | none => simp
     | some q =>
      obtain ⟨i',p'⟩ := q
      simp only
      by_cases h1 : old = some i'
      ·rw [if_pos h1]
       constructor
       ·intro h
        split at h
        ·cases h
        ·simp only [Option.some.injEq,Prod.mk.injEq] at h; exact absurd h.1.symm hin'
       ·rintro ⟨h2,h3⟩
        simp only [Option.some.injEq,Prod.mk.injEq] at h2
        exact absurd (.inl (h2.1 ▸ h1)) h3
      ·rw [if_neg h1]
       by_cases h2 : i' = m
       ·rw [if_pos h2]
        constructor
        ·intro h
         split at h
         ·simp only [Option.some.injEq,Prod.mk.injEq] at h; exact absurd h.1.symm hin'
         ·cases h
        ·rintro ⟨h3,h4⟩
         simp only [Option.some.injEq,Prod.mk.injEq] at h3
         exact absurd (.inr (h3.1 ▸ h2)) h4
       ·rw [if_neg h2]
        constructor
        ·intro h
         refine ⟨h,?_⟩
         simp only [Option.some.injEq,Prod.mk.injEq] at h
         rw [← h.1]
         rintro (h3 | h3)
         ·exact h1 h3
         ·exact h2 h3
        ·exact fun h => h.1)
   (fun b p hb => by
    have hmem : ∀ i,i ∈ old.toList ++ [m] ↔ old = some i ∨ i = m := by simp
    simp only [C'] at hb
    by_cases hcv : ownB cv = some b
    ·refine ⟨hlt b hcv,?_⟩
     rcases r4 b hcv with h4 | h4
     ·exact .inl h4
     ·obtain ⟨i',h5,h6⟩ := hob b h4
      exact .inr ⟨i',[],(hmem i').2 (.inl h5),h6⟩
    ·rw [if_neg hcv] at hb
     cases hc : C b with
     | none => rw [hc] at hb; cases hb
     | some q =>
      obtain ⟨i',p'⟩ := q
      rw [hc] at hb
      simp only at hb
      refine ⟨Nat.lt_of_lt_of_le (hold' b _ _ hc) r3.size,.inr ⟨i',p',?_,rfl⟩⟩
      by_cases h1 : old = some i'
      ·exact (hmem i').2 (.inl h1)
      ·rw [if_neg h1] at hb
       by_cases h2 : i' = m
       ·exact (hmem i').2 (.inr h2)
       ·rw [if_neg h2] at hb
        simp only [Option.some.injEq,Prod.mk.injEq] at hb
        have := hn i' (hi.col b i' p' hc).1
        omega)
   hcv1 hrp
  exact ⟨cv,w',r1,C',Al',H',g1,g2,g3,g4⟩
 split at h'
 ·obtain ⟨hc,h2⟩ := chk_some h'
  simp only [AV] at hx
  subst hx
  obtain ⟨cv,w',h3,h4⟩ := core none [] [] (Own.nil _ _ _ none) (by intro j hj; cases hj) (fun _ => ⟨rfl,rfl,rfl⟩) (by simpa using Nat.le_of_ble_eq_true hc)
  exact ⟨_,_,_,cv,w',h2,by omega,h3,h4⟩
 ·obtain ⟨hc,h2⟩ := chk_some h'
  simp only [AV] at hx
  obtain ⟨A,rfl⟩ := hx
  obtain ⟨cv,w',h3,h4⟩ := core none [] [] (Own.nil _ _ _ A) (by intro j hj; cases hj) (fun _ => ⟨rfl,rfl,ownB_zero A 0⟩) (by simpa using Nat.le_of_ble_eq_true hc)
  exact ⟨_,_,_,cv,w',h2,by omega,h3,h4⟩
 ·rename_i j
  split at h'
  ·rename_i t' e1 ver1 xs' hrow
   obtain ⟨hc,h2⟩ := chk_some h'
   clear h'
   simp only [Bool.and_eq_true,Bool.not_eq_true'] at hc
   have ht' := Nat.eq_of_beq_eq_true hc.1
   have hjm : j ≠ m := by
    intro he
    have := hc.2
    rw [he,Nat.beq_refl] at this
    cases this
   split at h2
   ·rename_i xs hxs
    obtain ⟨hc2,h3⟩ := chk_some h2
    obtain ⟨he,hxs⟩ := castL_some hxs
    subst he
    simp only at hxs
    subst hxs ht'
    simp only [AV] at hx
    obtain ⟨hal,rfl⟩ := hx
    obtain ⟨_,hrpj,_,_⟩ := nrow_ok hctx hrow
    obtain ⟨fl,ho,hcg,hlst⟩ := rp_row hrpj
    obtain ⟨cv,w',h4,h5⟩ := core (some j) xs' fl (by rw [← hes2]; exact ho) (by
     intro i hi'
     simp only [Option.some.injEq] at hi'
     subst hi'
     exact ⟨hal,hjm,hcg,hlst⟩) (by intro h; cases h) (Nat.le_of_ble_eq_true hc2)
    exact ⟨_,_,_,cv,w',h3,by omega,h4,h5⟩
   ·cases h2
  ·cases h'
 ·cases h'
end
end Go.Rv
namespace Go.Rv
section
variable {w0 w : World} {L : Hnd} {R0 : Nat → Prop} {S : Upd} {C : Col} {R Al : Nat → Prop} {H : Nat → Value} {P : Program}

theorem appA_ok (hi : Inv w0 L R0 S w C R Al H) {n : Nat} (hn : ∀ i,Al i → i < n) {t e' : TypeId} {i : TypeInfo} {z : Value} {size bytes : Nat} {e : Kd} (hu : P.underlying t = some (.slice e')) (hin : P.info? e' = some i) (hz : i.zero = some z)
  (hsize : i.size = size) (hby : i.bytes = bytes) (hzs : z.cells.size = size) (hes : e.size = size) (hbp : 0 < bytes) {x y : AVal} {cx cy : Value} (hx : AV w R Al H x cx) (hy : AV w R Al H y cy) {ty : TypeId} {α : Type} {k : AVal → Upd → Nat → Option α} {r : α}
  (h : appA S n e' e bytes x y k = some r) :
  ∃ v u m cv w',k v u m = some r ∧ n ≤ m ∧ (Builtin.append_ #[t,t] ty #[cx,cy]).run P w = .ok cv w' ∧ Left w0 L R0 (u ++ S) R Al H w m v cv w' := by
 have hctx := hi.ctx
 unfold appA at h
 split at h
 ·rename_i m t2 e2 ys heq
  split at heq
  ·rename_i m'
   split at heq
   ·rename_i t3 e3 ver3 zs hm
    simp only [Option.some.injEq,Sigma.mk.injEq,Prod.mk.injEq] at heq
    obtain ⟨rfl,rfl,rfl,heq⟩ := heq
    have heq := eq_of_heq heq
    subst heq
    exact appN_ok hi hn hu hin hz hsize hby hzs hes hbp hx hy hm h
   ·cases heq
  ·cases heq
 split at h
 ·cases h
 ·rename_i ys hys
  have spos : 0 < size := by rw [← hes]; exact e.size_pos
  have maxe : maxLen = 9223372036854775807 := rfl
  have core : ∀ (old : Option Nat) (xs : List e.ty) (fl : List Value) (hro : e.ro = true),Own w e' size cx xs.length fl → Lst (fun j x c => Rp w noC R 0 e x [j] c) 0 xs fl →
    (∀ j,old = some j → Al j ∧ ∀ g,ownB cx = some g → C g = some (j,[])) → (old = none → ownB cx = none) → (xs.length + ys.length) * bytes ≤ maxBytes →
    ∃ cv w',(Builtin.append_ #[t,t] ty #[cx,cy]).run P w = .ok cv w' ∧ Left w0 L R0 ((n,.row e' e (xs ++ ys)) :: kill old S) R Al H w (n + 1) (.ref n) cv w' := by
   intro old xs fl hro how hl hold hnone hbytes
   obtain ⟨A,m,c,gl,hcy,hm,hmc,hgl,hplace⟩ := readSl_cells hctx hro hy hys
   have hlen : gl.length = ys.length * size := by rw [← hes]; exact Lst.length (fun j x c hx => Rp.length _ _ _ _ hx) _ _ _ hgl
   have hone : ∀ u ∈ gl,u.oneCell' = true := Lst.mem (Q := fun u => u.oneCell' = true) (fun j x c hx => Rp.one _ _ _ _ hx) _ _ _ hgl
   have hlapp : Lst (fun j x c => Rp w noC R 0 e x [j] c) 0 (xs ++ ys) (fl ++ gl) := Lst.append xs 0 fl ys gl hl (Lst.shift _ _ _ _ hgl)
   have hob : ∀ g,ownB cx = some g → ∃ i,C g = some (i,[]) := by
    intro g hg
    cases ho : old with
    | none => rw [hnone ho] at hg; cases hg
    | some j => exact ⟨j,(hold j ho).2 g hg⟩
   have h63 : xs.length + ys.length ≤ maxLen := by
    have : (xs.length + ys.length) * 1 ≤ (xs.length + ys.length) * bytes := Nat.mul_le_mul_left _ hbp
    simp only [maxBytes] at hbytes
    omega
   have fin : ∀ cv w',(Builtin.append_ #[t,t] ty #[cx,cy]).run P w = .ok cv w' → Own w' e' size cv (xs.length + ys.length) (fl ++ gl) → w.grownBy w' (ownB cx) → (∀ g,ownB cv = some g → w.heap.size ≤ g ∨ ownB cx = some g) →
     ∃ cv w',(Builtin.append_ #[t,t] ty #[cx,cy]).run P w = .ok cv w' ∧ Left w0 L R0 ((n,.row e' e (xs ++ ys)) :: kill old S) R Al H w (n + 1) (.ref n) cv w' := by
    intro cv w' h1 h2 h3 h4
    have hR := grown_R hi h3 hob
    obtain ⟨C',Al',H',g1,g2,g3,g4⟩ := hi.newRow hn (w' := w') (t := e') (e := e) (xs := xs ++ ys) (v := cv) (fl := fl ++ gl) old (ownB cx) hold hnone h3 (by rw [hes]; simpa using h2) h4 (Lst.keep hR hro hlapp) hro
    exact ⟨cv,w',h1,C',Al',H',g1,g2,g3,g4⟩
   subst hm
   rcases hplace with ⟨rfl,hys0⟩ | hys0 | ⟨a,rfl,ha1,ha2,ha3⟩
   ·subst hys0
    have hgl0 : gl = [] := hgl
    subst hgl0 hcy
    simp only [List.length_nil] at hmc ⊢
    refine fin cx w ?_ (by simpa using how) ⟨rfl,rfl,rfl,Nat.le_refl _,fun _ _ _ => rfl⟩ (fun g hg => .inr hg)
    rcases how.2 with ⟨A,rfl,hxl⟩ | ⟨g,cap,cur,rfl,_,_,hnc,_⟩
    ·cases A <;> simp [storeCells,Builtin.append_,run_underlying hu,sizeOf,typeInfo,hin,Builtin.lenOf,Builtin.firstCells]
    ·simp [Builtin.append_,run_underlying hu,sizeOf,typeInfo,hin,Builtin.lenOf,Builtin.firstCells,hnc,storeCells]
   ·subst hys0
    have hgl0 : gl = [] := hgl
    subst hgl0 hcy
    simp only [List.length_nil]
    cases A with
    | none =>
     refine fin cx w ?_ (by simpa using how) ⟨rfl,rfl,rfl,Nat.le_refl _,fun _ _ _ => rfl⟩ (fun g hg => .inr hg)
     rcases how.2 with ⟨A,rfl,hxl⟩ | ⟨g,cap,cur,rfl,_,_,hnc,_⟩
     ·cases A <;> simp [storeCells,Builtin.append_,run_underlying hu,sizeOf,typeInfo,hin,Builtin.lenOf,Builtin.firstCells]
     ·simp [Builtin.append_,run_underlying hu,sizeOf,typeInfo,hin,Builtin.lenOf,Builtin.firstCells,hnc,storeCells]
    | some a =>
     obtain ⟨v',w',h1,h2,h3,h4⟩ := run_append_Own (P := P) (ty := ty) hu hin hz hsize hby hzs spos how a 0 c [] (by simp) (by simp) (by simp) (by simpa using h63) (by simpa [maxBytes] using hbytes)
     exact fin v' w' h1 (by simpa using h2) h3 h4
   ·subst hcy
    obtain ⟨v',w',h1,h2,h3,h4⟩ := run_append_Own (P := P) (ty := ty) hu hin hz hsize hby hzs spos how a ys.length c gl hlen ha3 hone h63 (by simpa [maxBytes] using hbytes)
    exact fin v' w' h1 h2 h3 h4
  split at h
  ·obtain ⟨hc,h'⟩ := chk_some h
   simp only [Bool.and_eq_true] at hc
   simp only [AV] at hx
   subst hx
   obtain ⟨cv,w',h1,h2⟩ := core none [] [] hc.1 (Own.nil _ _ _ none) rfl (by intro j hj; cases hj) (fun _ => rfl) (by simpa using Nat.le_of_ble_eq_true hc.2)
   exact ⟨_,_,_,cv,w',h',by omega,h1,h2⟩
  ·obtain ⟨hc,h'⟩ := chk_some h
   simp only [Bool.and_eq_true] at hc
   simp only [AV] at hx
   obtain ⟨A,hx⟩ := hx
   subst hx
   obtain ⟨cv,w',h1,h2⟩ := core none [] [] hc.1 (Own.nil _ _ _ A) rfl (by intro j hj; cases hj) (fun _ => ownB_zero A 0) (by simpa using Nat.le_of_ble_eq_true hc.2)
   exact ⟨_,_,_,cv,w',h',by omega,h1,h2⟩
  ·rename_i j
   split at h
   ·rename_i t' e2 xs' hrow
    obtain ⟨hc,h'⟩ := chk_some h
    clear h
    simp only [Bool.and_eq_true] at hc
    have ht' := Nat.eq_of_beq_eq_true hc.2
    split at h'
    ·rename_i xs hxs
     obtain ⟨hc2,h2⟩ := chk_some h'
     obtain ⟨he,hxs⟩ := castL_some hxs
     subst he
     simp only at hxs
     subst hxs ht'
     simp only [AV] at hx
     obtain ⟨hal,rfl⟩ := hx
     obtain ⟨_,fl,ho,hcg,hlst⟩ := row_ok hctx hrow
     obtain ⟨cv,w',h3,h4⟩ := core (some j) xs' fl hc.1 (by rw [← hes]; exact ho) (Lst.imp (fun j x c hx => Rp.ro (fun b hb => ⟨hb,rfl⟩) e2 hc.1 x _ _ c hx) _ _ _ hlst) (by
      intro i hi'
      simp only [Option.some.injEq] at hi'
      subst hi'
      exact ⟨hal,hcg⟩) (by intro h; cases h) (Nat.le_of_ble_eq_true hc2)
     exact ⟨_,_,_,cv,w',h2,by omega,h3,h4⟩
    ·cases h'
   ·cases h
  ·cases h

end
end Go.Rv
namespace Go.Rv
section
variable {w0 w : World} {L : Hnd} {R0 : Nat → Prop} {S : Upd} {C : Col} {R Al : Nat → Prop} {H : Nat → Value} {P : Program}

theorem takeV_some {k : Kd} {v : AVal} {x : k.ty} {is : List (Option Nat)} (h : takeV S k v = some (x,is)) : takeCells S k (cellsV v) = some (x,[],is) ∧ k.agg = aggV v ∧ solid v = true := by
 unfold takeV at h
 split at h
 ·rename_i y js hy
  cases hb : (k.agg == aggV v && solid v)
  ·rw [hb] at h; cases h
  ·rw [hb] at h
   simp only [cond_true,Option.some.injEq,Prod.mk.injEq] at h
   obtain ⟨rfl,rfl⟩ := h
   simp only [Bool.and_eq_true,beq_iff_eq] at hb
   exact ⟨hy,hb⟩
 ·cases h

theorem takeV_ro (hx : Ctx w C R Al H S) {k : Kd} (hro : k.ro = true) {v : AVal} {x : k.ty} {is : List (Option Nat)} (h : takeV S k v = some (x,is)) {c : Value} (hv : AV w R Al H v c) : ∀ p,Rp w noC R 0 k x p c.cells.toList := by
 obtain ⟨h1,h2,h3⟩ := takeV_some h
 obtain ⟨cc,r,e1,e2,e3⟩ := takeCells_ro hx k hro _ _ _ _ h1 _ (solid_cells hv h3 (fun i hi => one_cells (hx.one i hi)))
 simp only [AVs] at e3
 subst e3
 rw [List.append_nil] at e1
 rw [e1]
 exact e2

theorem buildL_ok {st : St} (hx : Ctx w C R Al H st.sto) {a : Act} (he : ∀ t,AV w R Al H (getE st.env t) (a.tmps.getD t undef)) {e : Kd} (hro : e.ro = true) (place : Nat → Option (Nat × Nat)) (hp : ∀ i,place i = some (i * e.size,e.size)) :
  ∀ (ps : List (Nat × Operand)) (b : Nat) (xs : List e.ty),buildL st e ps b = some xs → ∀ (cells : Array Value),(b + ps.length) * e.size ≤ cells.size →
   ∃ cells' fl,Instr.fill place cells (ps.map fun p => (p.1,a.eval p.2)) = some cells' ∧ Lst (fun j x c => Rp w noC R 0 e x [j] c) b xs fl ∧ xs.length = ps.length ∧
    cells'.toList = cells.toList.take (b * e.size) ++ fl ++ cells.toList.drop ((b + ps.length) * e.size)
 | [],b,xs,h,cells,hl => by
  simp only [buildL,Option.some.injEq] at h
  subst h
  exact ⟨cells,[],rfl,rfl,rfl,by simp⟩
 | p :: r,b,xs,h,cells,hl => by
  unfold buildL at h
  split at h
  ·rename_i x is hb hv
   have hb := Nat.eq_of_beq_eq_true hb
   split at h
   ·rename_i ys hys
    simp only [Option.some.injEq] at h
    subst h
    have hrp := takeV_ro hx hro hv (oper_ok he p.2)
    have hlen := Rp.length _ _ _ _ (hrp [])
    simp only [Array.length_toList] at hlen
    simp only [List.length_cons] at hl
    have hl1 : (b + 1) * e.size ≤ cells.size := Nat.le_trans (Nat.mul_le_mul_right _ (by omega)) hl
    have hfit : b * e.size + (a.eval p.2).cells.size ≤ cells.size := by rw [hlen]; rw [Nat.add_mul,Nat.one_mul] at hl1; exact hl1
    have harr := fold_set_arr (a.eval p.2).cells (b * e.size) cells hfit
    have hsz : ((a.eval p.2).cells.zipIdx.foldl (fun cs (p : Value × Nat) => cs.setIfInBounds (b * e.size + p.2) p.1) cells).size = cells.size := by
     have := congrArg List.length harr
     simp only [Array.length_toList,List.length_append,List.length_take,List.length_drop] at this
     omega
    obtain ⟨cells',fl,e1,e2,e3,e4⟩ := buildL_ok hx he hro place hp r (b + 1) ys hys _ (by rw [hsz]; rw [show b + 1 + r.length = b + (r.length + 1) from by omega]; exact hl)
    refine ⟨cells',(a.eval p.2).cells.toList ++ fl,?_,⟨_,fl,rfl,hrp _,e2⟩,by simp [e3],?_⟩
    ·simp only [List.map_cons,Instr.fill,hb,hp]
     rw [if_neg (by simp [hlen]; omega)]
     exact e1
    ·rw [e4,harr]
     have hn1 : (b + 1) * e.size = b * e.size + (a.eval p.2).cells.size := by rw [hlen,Nat.add_mul,Nat.one_mul]
     have ll : (cells.toList.take (b * e.size) ++ (a.eval p.2).cells.toList).length = (b + 1) * e.size := by
      rw [hn1]; simp only [List.length_append,List.length_take,Array.length_toList]; omega
     rw [List.take_append_of_le_length (by omega),List.take_of_length_le (by omega)]
     rw [show (b + 1 + r.length) * e.size = (cells.toList.take (b * e.size) ++ (a.eval p.2).cells.toList).length + r.length * e.size from by rw [ll,← Nat.add_mul]]
     rw [← List.drop_drop,List.drop_left,List.drop_drop]
     simp only [List.append_assoc]
     congr 3
     rw [← hn1,← Nat.add_mul]
     simp only [List.length_cons]
     congr 2
     omega
   ·cases h
  ·cases h

theorem buildSlice_run {st : St} (hx : Ctx w C R Al H st.sto) {a : Act} (he : ∀ t,AV w R Al H (getE st.env t) (a.tmps.getD t undef)) {t e' : TypeId} {inf : TypeInfo} {z : Value} {e : Kd}
  (hu : P.underlying t = some (.slice e')) (hin : P.info? e' = some inf) (hz : inf.zero = some z) (hes : e.size = inf.size) (hro : e.ro = true) {ps : Array (Nat × Operand)} {xs : List e.ty} {n : Nat} (hb : buildL st e ps.toList 0 = some xs) (hl : xs.length = n) (hsm : n * inf.size ≤ 16777216) :
  ∃ cells fl,(Instr.buildSlice t n (ps.map fun (i,x) => (i,a.eval x))).run P w = .ok (.slice (some ⟨w.heap.size,0,none⟩) n n) (w.alloc (.cells cells e')) ∧ cells.toList = fl ∧ Lst (fun j x c => Rp w noC R 0 e x [j] c) 0 xs fl := by
 have hpl : (ps.map fun (x : Nat × Operand) => match x with | (i,x) => (i,a.eval x)).toList = ps.toList.map fun p => (p.1,a.eval p.2) := by simp
 by_cases h0 : n = 0
 ·subst h0
  have hxs : xs = [] := List.eq_nil_of_length_eq_zero hl
  subst hxs
  have hps : ps.toList = [] := by
   cases hq : ps.toList with
   | nil => rfl
   | cons p r =>
    exfalso
    rw [hq] at hb
    unfold buildL at hb
    split at hb
    ·split at hb
     ·simp at hb
     ·cases hb
    ·cases hb
  have hps' : ps = #[] := by apply Array.ext'; simpa using hps
  subst hps'
  refine ⟨#[],[],?_,rfl,rfl⟩
  simp [Instr.buildSlice,run_underlying hu,sizeOf,typeInfo,hin,Instr.fill,newRow]
  congr 2
  first | rfl | (apply Array.ext'; simp)
 ·have hpos : 0 < inf.size := by rw [← hes]; exact e.size_pos
  have hnn : 0 < n * inf.size := Nat.mul_pos (by omega) hpos
  have hlp : ps.toList.length = n := by
   have : ∀ (l : List (Nat × Operand)) (b : Nat) (ys : List e.ty),buildL st e l b = some ys → ys.length = l.length := by
    intro l
    induction l with
    | nil => intro b ys h; simp only [buildL,Option.some.injEq] at h; subst h; rfl
    | cons p r ih =>
     intro b ys h
     unfold buildL at h
     split at h
     ·split at h
      ·rename_i zs hz
       simp only [Option.some.injEq] at h
       subst h
       simp [ih _ _ hz]
      ·cases h
     ·cases h
   rw [← this _ _ _ hb,hl]
  obtain ⟨cells',fl,e1,e2,e3,e4⟩ := buildL_ok hx he hro (fun i => some (i * inf.size,inf.size)) (fun i => by rw [hes]) ps.toList 0 xs hb ((Array.range (n * inf.size)).map (z.cells[· % z.cells.size]!)) (by rw [hes,Nat.zero_add,hlp]; simp)
  refine ⟨cells',fl,run_buildSlice w t e' n _ cells' inf z hu hin hz (by omega) (by omega) (by rw [hpl]; exact e1),?_,e2⟩
  rw [e4,hes,Nat.zero_mul,Nat.zero_add,hlp]
  rw [List.drop_eq_nil_of_le (by simp)]
  simp

theorem buildSlice_ok {st : St} (hi : Inv w0 L R0 st.sto w C R Al H) {n0 : Nat} (hn : ∀ i,Al i → i < n0) {a : Act} (he : ∀ t,AV w R Al H (getE st.env t) (a.tmps.getD t undef)) {t e' : TypeId} {inf : TypeInfo} {z : Value} {e : Kd}
  (hu : P.underlying t = some (.slice e')) (hin : P.info? e' = some inf) (hz : inf.zero = some z) (hes : e.size = inf.size) (hro : e.ro = true) {ps : Array (Nat × Operand)} {xs : List e.ty} {n : Nat} (hb : buildL st e ps.toList 0 = some xs) (hl : xs.length = n) (hsm : n * inf.size ≤ 16777216) :
  ∃ cv w',(Instr.buildSlice t n (ps.map fun (i,x) => (i,a.eval x))).run P w = .ok cv w' ∧ Left w0 L R0 ((n0,.row e' e xs) :: st.sto) R Al H w (n0 + 1) (.ref n0) cv w' ∧ Later w w' := by
 have hx := hi.ctx
 have hlat : ∀ o,Later w (w.alloc o) := fun o => ⟨rfl,rfl,rfl,by simp,fun b hb => heap_alloc_old w _ b hb⟩
 have fin : ∀ (cells : Array Value) (fl : List Value),cells.toList = fl → Lst (fun j x c => Rp w noC R 0 e x [j] c) 0 xs fl →
   Left w0 L R0 ((n0,.row e' e xs) :: st.sto) R Al H w (n0 + 1) (.ref n0) (.slice (some ⟨w.heap.size,0,none⟩) n n) (w.alloc (.cells cells e')) := by
  intro cells fl hc hlst
  have hfl : fl.length = n * e.size := by rw [← hl]; exact Lst.length (fun j x c hx => Rp.length _ _ _ _ hx) _ _ _ hlst
  have hcs : cells.size = n * e.size := by rw [← hfl,← hc]; simp
  have hm : n ≤ maxLen := by
   have : n * 1 ≤ n * inf.size := Nat.mul_le_mul_left _ (by rw [← hes]; exact e.size_pos)
   have hmx : maxLen = 9223372036854775807 := rfl
   omega
  have how := World.ownsRow_lit (base := 0) (e := e') (size := e.size) w cells n (Nat.zero_le _) hm hcs
  rw [hc] at how
  have hR : ∀ b,R b → R b ∧ (w.alloc (.cells cells e')).heap[b]? = w.heap[b]? := fun b hb => ⟨hb,heap_alloc_old w _ b (hi.rd b hb).1⟩
  obtain ⟨C',Al',H',g1,g2,g3,g4⟩ := hi.newRow hn (w' := w.alloc (.cells cells e')) (t := e') (e := e) (xs := xs) (v := .slice (some ⟨w.heap.size,0,none⟩) n n) (fl := fl) none none (by intro i h; cases h) (fun _ => rfl) (World.grownBy_alloc w _ none)
   (by rw [hl]; exact Own.of how) (fun g hg => by have hg := ownB_block hg; simp only [Value.ownBlock,Option.some.injEq] at hg; exact .inl (by omega)) (Lst.keep hR hro hlst) hro
  exact ⟨C',Al',H',g1,g2,g3,g4⟩
 obtain ⟨cells,fl,h1,h2,h3⟩ := buildSlice_run (P := P) hx he hu hin hz hes hro hb hl hsm
 exact ⟨_,_,h1,fin cells fl h2 h3,hlat _⟩

theorem madeCells_flat (z : List Value) (n : Nat) (hz : 0 < z.length) : (madeCells z.toArray (n * z.length)).toList = (List.replicate n z).flatten := by
 apply List.ext_getElem?
 intro j
 have hfl : ∀ n j,(List.replicate n z).flatten[j]? = if j < n * z.length then z[j % z.length]? else none := by
  intro n
  induction n with
  | zero => intro j; simp
  | succ n ih =>
   intro j
   rw [List.replicate_succ,List.flatten_cons]
   by_cases hj : j < z.length
   ·rw [List.getElem?_append_left hj,Nat.mod_eq_of_lt hj,if_pos (by rw [Nat.add_mul]; omega)]
   ·rw [List.getElem?_append_right (by omega),ih]
    have : (j - z.length) % z.length = j % z.length := by rw [← Nat.mod_eq_sub_mod (by omega)]
    rw [this]
    by_cases hk : j - z.length < n * z.length
    ·rw [if_pos hk,if_pos (by rw [Nat.add_mul]; omega)]
    ·rw [if_neg hk,if_neg (by rw [Nat.add_mul]; omega)]
 rw [hfl]
 by_cases hj : j < n * z.length
 ·have hm : j % z.length < z.length := Nat.mod_lt _ hz
  simp [madeCells,hj,hm]
 ·simp [madeCells,hj]

theorem Lst.replicate {e : Kd} {x : e.ty} {c : List Value} (h : ∀ p,Rp w noC R 0 e x p c) : ∀ (n b : Nat),Lst (fun j x c => Rp w noC R 0 e x [j] c) b (List.replicate n x) (List.replicate n c).flatten
 | 0,_ => rfl
 | n + 1,b => ⟨c,(List.replicate n c).flatten,by simp [List.replicate_succ],h _,Lst.replicate h n (b + 1)⟩

theorem makeSlice_ok (hi : Inv w0 L R0 S w C R Al H) {n0 : Nat} (hn : ∀ i,Al i → i < n0) {t e' : TypeId} {inf : TypeInfo} {z : Value} {e : Kd} (hu : P.underlying t = some (.slice e')) (hin : P.info? e' = some inf) (hz : inf.zero = some z) (hes : e.size = inf.size) (hro : e.ro = true)
  {x : e.ty} {zs : List AVal} {is : List (Option Nat)} (hzs : AVs w R Al H zs z.cells.toList) (htk : takeCells [] e zs = some (x,[],is)) (hbp : 0 < inf.bytes) (kl kc : IntKind) (n : Nat) (hbytes : inf.bytes * n ≤ maxBytes) :
  ∃ cv w',(Instr.makeSlice t (.int kl (n : Int)) (.int kc (n : Int))).run P w = .ok cv w' ∧ Left w0 L R0 ((n0,.row e' e (List.replicate n x)) :: S) R Al H w (n0 + 1) (.ref n0) cv w' ∧ Later w w' := by
 have hx0 : Ctx w C R Al H ([] : Upd) := ⟨fun i => trivial,hi.ctx.colt,hi.ctx.rdt,fun i h => absurd rfl h,hi.one⟩
 obtain ⟨c,r,e1,e2,e3⟩ := takeCells_ro hx0 e hro _ _ _ _ htk _ hzs
 simp only [AVs] at e3
 subst e3
 rw [List.append_nil] at e1
 have hmx : maxLen = 9223372036854775807 := rfl
 have h63 : n ≤ maxLen := by
  have : 1 * n ≤ inf.bytes * n := Nat.mul_le_mul_right _ hbp
  simp only [maxBytes] at hbytes
  omega
 obtain ⟨w',h1,h2,h3⟩ := run_make_full (P := P) w 0 t e' inf z inf.size hu hin hz rfl kl kc n (by simp only [maxBytes] at hbytes; omega) h63 (Nat.zero_le _)
 have hcl : c.length = e.size := Rp.length _ _ _ _ (e2 [])
 have hzl : z.cells.toList.length = inf.size := by rw [e1,hcl,hes]
 have hmade : (madeCells z.cells (n * inf.size)).toList = (List.replicate n c).flatten := by
  have := madeCells_flat z.cells.toList n (by rw [hzl,← hes]; exact e.size_pos)
  rw [hzl] at this
  rw [e1] at this
  have hza : z.cells = c.toArray := by apply Array.ext'; simpa using e1
  rw [hza]
  exact this
 rw [hmade] at h2
 have hR : ∀ b,R b → R b ∧ w'.heap[b]? = w.heap[b]? := fun b hb => ⟨hb,h3.block b (hi.rd b hb).1 (by simp)⟩
 obtain ⟨C',Al',H',g1,g2,g3,g4⟩ := hi.newRow hn (w' := w') (t := e') (e := e) (xs := List.replicate n x) (v := .slice (some ⟨w.heap.size,0,none⟩) n n) (fl := (List.replicate n c).flatten) none none (by intro i h; cases h) (fun _ => rfl) h3
  (by rw [List.length_replicate,hes]; exact Own.of h2) (fun g hg => by have hg := ownB_block hg; simp only [Value.ownBlock,Option.some.injEq] at hg; exact .inl (by omega)) (Lst.keep hR hro (Lst.replicate e2 n 0)) hro
 exact ⟨_,w',h1,⟨C',Al',H',g1,g2,g3,g4⟩,h3.os,h3.tape,h3.output,h3.size,fun b hb => h3.block b hb (by simp)⟩
end
end Go.Rv
namespace Go.Rv
section
variable {w0 w : World} {L : Hnd} {R0 : Nat → Prop} {S : Upd} {C C' : Col} {R Al : Nat → Prop} {H : Nat → Value} {P : Program}

def pthsL (e : Kd) : Nat → Nat → List (List Nat)
 | 0,_ => []
 | n + 1,b => pths e [b] ++ pthsL e n (b + 1)

theorem buildO_len {st : St} {e : Kd} : ∀ (ps : List (Nat × Operand)) (b : Nat) (xs : List e.ty) (ids : List (Option Nat)),buildO st e ps b = some (xs,ids) → xs.length = ps.length ∧ ids.length = (pthsL e ps.length b).length
 | [],b,xs,ids,h => by
  simp only [buildO,Option.some.injEq,Prod.mk.injEq] at h
  obtain ⟨rfl,rfl⟩ := h
  exact ⟨rfl,rfl⟩
 | p :: r,b,xs,ids,h => by
  unfold buildO at h
  split at h
  ·rename_i x is hb hv
   split at h
   ·rename_i ys js hys
    simp only [Option.some.injEq,Prod.mk.injEq] at h
    obtain ⟨rfl,rfl⟩ := h
    obtain ⟨h1,h2⟩ := buildO_len r (b + 1) ys js hys
    refine ⟨by simp [h1],?_⟩
    simp only [List.length_cons,pthsL,List.length_append,h2]
    rw [takeCells_len e _ _ _ _ [b] (takeV_some hv).1]
   ·cases h
  ·cases h

theorem buildO_ok {st : St} (hx : Ctx w C R Al H st.sto) {a : Act} (he : ∀ t,AV w R Al H (getE st.env t) (a.tmps.getD t undef)) {e : Kd} (hok : e.ok = true) {n0 : Nat} (place : Nat → Option (Nat × Nat)) (hp : ∀ i,place i = some (i * e.size,e.size)) :
  ∀ (ps : List (Nat × Operand)) (b : Nat) (xs : List e.ty) (ids : List (Option Nat)),buildO st e ps b = some (xs,ids) → (∀ (q m : Nat) (pq : List Nat),ids[q]? = some (some m) → (pthsL e ps.length b)[q]? = some pq → ∀ b p',C b = some (m,p') → C' b = some (n0,p' ++ pq)) →
   ∀ (cells : Array Value),(b + ps.length) * e.size ≤ cells.size →
   ∃ cells' fl,Instr.fill place cells (ps.map fun p => (p.1,a.eval p.2)) = some cells' ∧ Lst (fun j x c => Rp w C' R n0 e x [j] c) b xs fl ∧ xs.length = ps.length ∧
    cells'.toList = cells.toList.take (b * e.size) ++ fl ++ cells.toList.drop ((b + ps.length) * e.size)
 | [],b,xs,ids,h,hC,cells,hl => by
  simp only [buildO,Option.some.injEq,Prod.mk.injEq] at h
  obtain ⟨rfl,rfl⟩ := h
  exact ⟨cells,[],rfl,rfl,rfl,by simp⟩
 | p :: r,b,xs,ids,h,hC,cells,hl => by
  unfold buildO at h
  split at h
  ·rename_i x is hb hv
   have hb := Nat.eq_of_beq_eq_true hb
   split at h
   ·rename_i ys js hys
    simp only [Option.some.injEq,Prod.mk.injEq] at h
    obtain ⟨rfl,rfl⟩ := h
    obtain ⟨hv1,hv2,hv3⟩ := takeV_some hv
    have hln := takeCells_len e _ _ _ _ [b] hv1
    have hrp : Rp w C' R n0 e x [b] (a.eval p.2).cells.toList := by
     obtain ⟨cc,rr,f1,f2,f3⟩ := takeCells_into (w' := w) (C' := C') hx (fun b hb => ⟨hb,rfl⟩) (i := n0) e hok _ _ _ _ [b] hv1 _ (solid_cells (oper_ok he p.2) hv3 (fun i hi => one_cells (hx.one i hi))) (fun q m pq hq hp b' p' hb' =>
      ⟨hC q m pq (by rw [List.getElem?_append_left (List.getElem?_eq_some_iff.1 hq).1]; exact hq) (by
       simp only [List.length_cons,pthsL]
       rw [List.getElem?_append_left (List.getElem?_eq_some_iff.1 hp).1]; exact hp) b' p' hb',rfl⟩)
     simp only [AVs] at f3
     subst f3
     rw [List.append_nil] at f1
     rw [f1]; exact f2
    have hlen := Rp.length _ _ _ _ hrp
    simp only [Array.length_toList] at hlen
    simp only [List.length_cons] at hl
    have hl1 : (b + 1) * e.size ≤ cells.size := Nat.le_trans (Nat.mul_le_mul_right _ (by omega)) hl
    have hfit : b * e.size + (a.eval p.2).cells.size ≤ cells.size := by rw [hlen]; rw [Nat.add_mul,Nat.one_mul] at hl1; exact hl1
    have harr := fold_set_arr (a.eval p.2).cells (b * e.size) cells hfit
    have hsz : ((a.eval p.2).cells.zipIdx.foldl (fun cs (p : Value × Nat) => cs.setIfInBounds (b * e.size + p.2) p.1) cells).size = cells.size := by
     have := congrArg List.length harr
     simp only [Array.length_toList,List.length_append,List.length_take,List.length_drop] at this
     omega
    obtain ⟨cells',fl,e1,e2,e3,e4⟩ := buildO_ok hx he hok place hp r (b + 1) ys js hys (fun q m pq hq hp => hC (is.length + q) m pq (by rw [List.getElem?_append_right (by omega)]; simpa using hq) (by
     simp only [List.length_cons,pthsL]
     rw [List.getElem?_append_right (by omega),hln]; simpa using hp)) _ (by rw [hsz]; rw [show b + 1 + r.length = b + (r.length + 1) from by omega]; exact hl)
    refine ⟨cells',(a.eval p.2).cells.toList ++ fl,?_,⟨_,fl,rfl,hrp,e2⟩,by simp [e3],?_⟩
    ·simp only [List.map_cons,Instr.fill,hb,hp]
     rw [if_neg (by simp [hlen]; omega)]
     exact e1
    ·rw [e4,harr]
     have hn1 : (b + 1) * e.size = b * e.size + (a.eval p.2).cells.size := by rw [hlen,Nat.add_mul,Nat.one_mul]
     have ll : (cells.toList.take (b * e.size) ++ (a.eval p.2).cells.toList).length = (b + 1) * e.size := by
      rw [hn1]; simp only [List.length_append,List.length_take,Array.length_toList]; omega
     rw [List.take_append_of_le_length (by omega),List.take_of_length_le (by omega)]
     rw [show (b + 1 + r.length) * e.size = (cells.toList.take (b * e.size) ++ (a.eval p.2).cells.toList).length + r.length * e.size from by rw [ll,← Nat.add_mul]]
     rw [← List.drop_drop,List.drop_left,List.drop_drop]
     simp only [List.append_assoc]
     congr 3
     rw [← hn1,← Nat.add_mul]
     simp only [List.length_cons]
     congr 2
     omega
   ·cases h
  ·cases h

theorem buildO_al {st : St} (hx : Ctx w C R Al H st.sto) {e : Kd} : ∀ (ps : List (Nat × Operand)) (b : Nat) (xs : List e.ty) (ids : List (Option Nat)),buildO st e ps b = some (xs,ids) → ∀ m,some m ∈ ids → Al m
 | [],b,xs,ids,h,m,hm => by
  simp only [buildO,Option.some.injEq,Prod.mk.injEq] at h
  rw [← h.2] at hm; cases hm
 | p :: r,b,xs,ids,h,m,hm => by
  unfold buildO at h
  split at h
  ·rename_i x is hb hv
   split at h
   ·rename_i ys js hys
    simp only [Option.some.injEq,Prod.mk.injEq] at h
    rw [← h.2] at hm
    rcases List.mem_append.1 hm with hm | hm
    ·exact takeCells_al hx (takeV_some hv).1 hm
    ·exact buildO_al hx r (b + 1) ys js hys m hm
   ·cases h
  ·cases h

theorem buildSliceO_ok {st : St} (hi : Inv w0 L R0 st.sto w C R Al H) {n0 : Nat} (hn : ∀ i,Al i → i < n0) {a : Act} (he : ∀ t,AV w R Al H (getE st.env t) (a.tmps.getD t undef)) {t e' : TypeId} {inf : TypeInfo} {z : Value} {e : Kd}
  (hu : P.underlying t = some (.slice e')) (hin : P.info? e' = some inf) (hz : inf.zero = some z) (hes : e.size = inf.size) (hok : e.ok = true) {ps : Array (Nat × Operand)} {xs : List e.ty} {ids : List (Option Nat)} {n : Nat} (hb : buildO st e ps.toList 0 = some (xs,ids)) (honce : once ids = true) (hl : xs.length = n) (hsm : n * inf.size ≤ 16777216) :
  ∃ cv w',(Instr.buildSlice t n (ps.map fun (i,x) => (i,a.eval x))).run P w = .ok cv w' ∧ Left w0 L R0 (((n0,.nrow e' e (n0 + 1) xs) :: (n0 + 1,.ver) :: deadU ids) ++ st.sto) R Al H w (n0 + 2) (.ref n0) cv w' ∧ Later w w' := by
 have hx := hi.ctx
 have hpl : (ps.map fun (x : Nat × Operand) => match x with | (i,x) => (i,a.eval x)).toList = ps.toList.map fun p => (p.1,a.eval p.2) := by simp
 obtain ⟨hlp,hlid⟩ := buildO_len _ _ _ _ hb
 have hlp : ps.toList.length = n := by rw [← hlp,hl]
 have honce : (ids.filterMap id).Nodup := of_decide_eq_true honce
 have idal := buildO_al hx _ _ _ _ hb
 let C' : Col := fun b => if b = w.heap.size then some (n0,[]) else match C b with
  | some (m,p) => match ids.idxOf? (some m) with
   | some q => match (pthsL e n 0)[q]? with
    | some pq => some (n0,p ++ pq)
    | none => none
   | none => some (m,p)
  | none => none
 have hC : ∀ (q m : Nat) (pq : List Nat),ids[q]? = some (some m) → (pthsL e ps.toList.length 0)[q]? = some pq → ∀ b p',C b = some (m,p') → C' b = some (n0,p' ++ pq) := by
  intro q m pq hq hp b p' hb
  have := (hi.col b m p' hb).2.1
  simp only [C']
  rw [if_neg (by omega),hb]
  simp only [once_idx ids honce q m hq]
  rw [hlp] at hp
  rw [hp]
 have hrun : ∃ cells fl,(Instr.buildSlice t n (ps.map fun (i,x) => (i,a.eval x))).run P w = .ok (.slice (some ⟨w.heap.size,0,none⟩) n n) (w.alloc (.cells cells e')) ∧ cells.toList = fl ∧ Lst (fun j x c => Rp w C' R n0 e x [j] c) 0 xs fl := by
  by_cases h0 : n = 0
  ·subst h0
   have hxs : xs = [] := List.eq_nil_of_length_eq_zero hl
   subst hxs
   have hps' : ps = #[] := by apply Array.ext'; exact List.eq_nil_of_length_eq_zero (l := ps.toList) hlp.symm
   subst hps'
   refine ⟨#[],[],?_,rfl,rfl⟩
   simp [Instr.buildSlice,run_underlying hu,sizeOf,typeInfo,hin,Instr.fill,newRow]
   congr 2
   first | rfl | (apply Array.ext'; simp)
  ·have hpos : 0 < inf.size := by rw [← hes]; exact e.size_pos
   have hnn : 0 < n * inf.size := Nat.mul_pos (by omega) hpos
   obtain ⟨cells',fl,e1,e2,e3,e4⟩ := buildO_ok hx he hok (fun i => some (i * inf.size,inf.size)) (fun i => by rw [hes]) ps.toList 0 xs ids hb hC ((Array.range (n * inf.size)).map (z.cells[· % z.cells.size]!)) (by rw [hes,Nat.zero_add,hlp]; simp)
   refine ⟨cells',fl,run_buildSlice w t e' n _ cells' inf z hu hin hz (by omega) (by omega) (by rw [hpl]; exact e1),?_,e2⟩
   rw [e4,hes,Nat.zero_mul,Nat.zero_add,hlp]
   rw [List.drop_eq_nil_of_le (by simp)]
   simp
 obtain ⟨cells,fl,h1,h2,h3⟩ := hrun
 have hfl : fl.length = n * e.size := by rw [← hl]; exact Lst.length (fun j x c hx => Rp.length _ _ _ _ hx) _ _ _ h3
 have hcs : cells.size = n * e.size := by rw [← hfl,← h2]; simp
 have hm : n ≤ maxLen := by
  have : n * 1 ≤ n * inf.size := Nat.mul_le_mul_left _ (by rw [← hes]; exact e.size_pos)
  have hmx : maxLen = 9223372036854775807 := rfl
  omega
 have how := World.ownsRow_lit (base := 0) (e := e') (size := e.size) w cells n (Nat.zero_le _) hm hcs
 rw [h2] at how
 have hR : ∀ b,R b → R b ∧ (w.alloc (.cells cells e')).heap[b]? = w.heap[b]? := fun b hb => ⟨hb,heap_alloc_old w _ b (hi.rd b hb).1⟩
 have hCb : ∀ b i p,C' b = some (i,p) → b < w.heap.size + 1 := by
  intro b i p hb
  simp only [C'] at hb
  by_cases hbs : b = w.heap.size
  ·omega
  ·rw [if_neg hbs] at hb
   cases hc : C b with
   | none => rw [hc] at hb; cases hb
   | some q => have := (hi.col b q.1 q.2 hc).2.1; omega
 have hrp : Rp (w.alloc (.cells cells e')) C' R n0 (.sl (some e') e) xs [] [.slice (some ⟨w.heap.size,0,none⟩) n n] := by
  refine ⟨_,fl,rfl,by rw [hl]; exact Own.of how,fun g hg => ?_,?_⟩
  ·have hg := ownB_block hg
   simp only [Value.ownBlock,Option.some.injEq] at hg
   simp only [C']; rw [if_pos hg.symm]
  ·refine Lst.imp (fun j x c hx => Rp.move hR e x [j] [j] c (fun b r hb => ⟨hb,?_⟩) hx) _ _ _ h3
   have hne : b ≠ w.heap.size := by
    intro he
    simp only [C'] at hb
    rw [if_pos he] at hb
    simp at hb
   have := hCb b _ _ hb
   exact heap_alloc_old w _ b (by omega)
 obtain ⟨Al',H',g1,g2,g3,g4⟩ := hi.newN hn (w' := w.alloc (.cells cells e')) none (World.grownBy_alloc w _ none) (ids.filterMap id) (fun m hm => idal m (by
   obtain ⟨o,h1,h2⟩ := List.mem_filterMap.1 hm
   simp only [id] at h2
   rw [← h2]; exact h1)) (by intro g h; cases h) C' (fun b i p hin' => by
   have hmem : i ∈ ids.filterMap id ↔ some i ∈ ids := by
    rw [List.mem_filterMap]
    exact ⟨fun ⟨o,h1,h2⟩ => by simp only [id] at h2; rw [← h2]; exact h1,fun h => ⟨_,h,rfl⟩⟩
   rw [hmem]
   simp only [C']
   by_cases hbs : b = w.heap.size
   ·rw [if_pos hbs]
    constructor
    ·intro h; simp only [Option.some.injEq,Prod.mk.injEq] at h; exact absurd h.1.symm hin'
    ·rintro ⟨h,_⟩; have := (hi.col b i p h).2.1; omega
   ·rw [if_neg hbs]
    cases hc : C b with
    | none => simp
    | some q =>
     obtain ⟨m,p'⟩ := q
     simp only
     cases hq : ids.idxOf? (some m) with
     | none =>
      simp only
      constructor
      ·intro h
       refine ⟨h,fun hi' => ?_⟩
       simp only [Option.some.injEq,Prod.mk.injEq] at h
       rw [← h.1] at hi'
       obtain ⟨q,hq'⟩ := List.getElem?_of_mem hi'
       rw [once_idx ids honce q m hq'] at hq
       cases hq
      ·exact fun h => h.1
     | some q =>
      simp only
      constructor
      ·intro h
       split at h
       ·simp only [Option.some.injEq,Prod.mk.injEq] at h; exact absurd h.1.symm hin'
       ·cases h
      ·rintro ⟨h,h'⟩
       simp only [Option.some.injEq,Prod.mk.injEq] at h
       rw [← h.1] at h'
       exact absurd (idx_mem ids m q hq) h')
  (fun b p hb => by
   refine ⟨by have := hCb b _ _ hb; simpa using this,?_⟩
   simp only [C'] at hb
   by_cases hbs : b = w.heap.size
   ·left; omega
   ·rw [if_neg hbs] at hb
    cases hc : C b with
    | none => rw [hc] at hb; cases hb
    | some q =>
     obtain ⟨m,p'⟩ := q
     rw [hc] at hb
     simp only at hb
     right
     cases hq : ids.idxOf? (some m) with
     | none =>
      rw [hq] at hb
      simp only [Option.some.injEq,Prod.mk.injEq] at hb
      have := hn m (hi.col b m p' hc).1
      omega
     | some q =>
      exact ⟨m,p',List.mem_filterMap.2 ⟨_,idx_mem ids m q hq,rfl⟩,rfl⟩)
  rfl hrp
 exact ⟨_,_,h1,⟨C',Al',H',g1,g2,g3,g4⟩,rfl,rfl,rfl,by simp,fun b hb => heap_alloc_old w _ b hb⟩

theorem Lst.replicateN {e : Kd} {i : Nat} {x : e.ty} {c : List Value} (h : ∀ p,Rp w C R i e x p c) : ∀ (n b : Nat),Lst (fun j x c => Rp w C R i e x [j] c) b (List.replicate n x) (List.replicate n c).flatten
 | 0,_ => rfl
 | n + 1,b => ⟨c,(List.replicate n c).flatten,by simp [List.replicate_succ],h _,Lst.replicateN h n (b + 1)⟩

theorem makeSliceO_ok (hi : Inv w0 L R0 S w C R Al H) {n0 : Nat} (hn : ∀ i,Al i → i < n0) {t e' : TypeId} {inf : TypeInfo} {z : Value} {e : Kd} (hu : P.underlying t = some (.slice e')) (hin : P.info? e' = some inf) (hz : inf.zero = some z) (hes : e.size = inf.size) (hok : e.ok = true)
  {x : e.ty} {zs : List AVal} {is : List (Option Nat)} (hzs : AVs w R Al H zs z.cells.toList) (htk : takeCells [] e zs = some (x,[],is)) (hbp : 0 < inf.bytes) (kl kc : IntKind) (n : Nat) (hbytes : inf.bytes * n ≤ maxBytes) :
  ∃ cv w',(Instr.makeSlice t (.int kl (n : Int)) (.int kc (n : Int))).run P w = .ok cv w' ∧ Left w0 L R0 ([(n0,.nrow e' e (n0 + 1) (List.replicate n x)),(n0 + 1,.ver)] ++ S) R Al H w (n0 + 2) (.ref n0) cv w' ∧ Later w w' := by
 have hx0 : Ctx w C R Al H ([] : Upd) := ⟨fun i => trivial,hi.ctx.colt,hi.ctx.rdt,fun i h => absurd rfl h,hi.one⟩
 have hmx : maxLen = 9223372036854775807 := rfl
 have h63 : n ≤ maxLen := by
  have : 1 * n ≤ inf.bytes * n := Nat.mul_le_mul_right _ hbp
  simp only [maxBytes] at hbytes
  omega
 obtain ⟨w',h1,h2,h3⟩ := run_make_full (P := P) w 0 t e' inf z inf.size hu hin hz rfl kl kc n (by simp only [maxBytes] at hbytes; omega) h63 (Nat.zero_le _)
 have hR : ∀ b,R b → R b ∧ w'.heap[b]? = w.heap[b]? := fun b hb => ⟨hb,h3.block b (hi.rd b hb).1 (by simp)⟩
 let C' : Col := fun b => if b = w.heap.size then some (n0,[]) else C b
 have hsub := fun p => takeCells_into (w' := w') (C' := C') hx0 hR (i := n0) e hok _ _ _ _ p htk _ hzs (fun q m pq hq _ => by
  rcases takeCells_row' e _ _ _ _ htk m (List.mem_of_getElem? hq) with ⟨t,e,ys,hr⟩ | ⟨t,e,v,ys,hr⟩ | ⟨m,t,e,ys,hr⟩ <;> cases hr)
 have hc : ∀ p,Rp w' C' R n0 e x p z.cells.toList := by
  intro p
  obtain ⟨c,r,e1,e2,e3⟩ := hsub p
  simp only [AVs] at e3
  subst e3
  rw [List.append_nil] at e1
  rw [e1]; exact e2
 have hcl : z.cells.toList.length = e.size := Rp.length _ _ _ _ (hc [])
 have hmade : (madeCells z.cells (n * inf.size)).toList = (List.replicate n z.cells.toList).flatten := by
  have := madeCells_flat z.cells.toList n (by rw [hcl]; exact e.size_pos)
  rw [hcl,hes] at this
  simpa using this
 rw [hmade] at h2
 have how := Own.of h2
 have hnb : ∀ g,ownB (.slice (some ⟨w.heap.size,0,none⟩) n n) = some g → g = w.heap.size := fun g hg => by
  have hg := ownB_block hg
  simp only [Value.ownBlock,Option.some.injEq] at hg
  exact hg.symm
 have hrp : Rp w' C' R n0 (.sl (some e') e) (List.replicate n x) [] [.slice (some ⟨w.heap.size,0,none⟩) n n] := by
  refine ⟨_,_,rfl,by rw [List.length_replicate,hes]; exact how,fun g hg => ?_,Lst.replicateN hc n 0⟩
  simp only [C']; rw [if_pos (hnb g hg)]
 have hwsz : w.heap.size < w'.heap.size ∨ n = 0 := by
  by_cases hn0 : n = 0
  ·exact .inr hn0
  ·left
   rcases how.2 with ⟨A,hv,h⟩ | ⟨g,cap,cur,hv,hb,hg,_⟩
   ·exact absurd h hn0
   ·simp only [Value.slice.injEq,Option.some.injEq,Addr.mk.injEq,and_true] at hv
    rw [← hv.1] at hg
    exact (Array.getElem?_eq_some_iff.1 hg).1
 let C2 : Col := fun b => if b = w.heap.size ∧ 0 < n then some (n0,[]) else C b
 have hC2 : ∀ b r,(C' b = some (n0,r) → C2 b = some (n0,r)) ∨ n = 0 := by
  intro b r
  by_cases hn0 : n = 0
  ·exact .inr hn0
  ·left
   intro h
   simp only [C',C2] at h ⊢
   by_cases hb : b = w.heap.size
   ·rw [if_pos ⟨hb,by omega⟩]; rw [if_pos hb] at h; exact h
   ·rw [if_neg (fun h => hb h.1)]; rw [if_neg hb] at h; exact h
 have hrp2 : Rp w' C2 R n0 (.sl (some e') e) (List.replicate n x) [] [.slice (some ⟨w.heap.size,0,none⟩) n n] := by
  by_cases hn0 : n = 0
  ·subst hn0
   exact ⟨_,[],rfl,by rw [List.length_replicate]; exact ⟨by simp,.inl ⟨_,rfl,rfl⟩⟩,fun g hg => by simp [ownB] at hg,rfl⟩
  ·exact Rp.move (fun b hb => ⟨hb,rfl⟩) _ _ [] [] _ (fun b r hb => ⟨(hC2 b (r ++ [])).resolve_right hn0 hb,rfl⟩) hrp
 obtain ⟨Al',H',g1,g2,g3,g4⟩ := hi.newN hn (w' := w') none h3 [] (by simp) (by intro g h; cases h) C2 (fun b i p hin' => by
   simp only [C2,List.not_mem_nil,not_false_iff,and_true]
   by_cases hb : b = w.heap.size ∧ 0 < n
   ·rw [if_pos hb]
    constructor
    ·intro h; simp only [Option.some.injEq,Prod.mk.injEq] at h; exact absurd h.1.symm hin'
    ·intro h; have := (hi.col b i p h).2.1; omega
   ·rw [if_neg hb])
  (fun b p hb => by
   simp only [C2] at hb
   by_cases hbs : b = w.heap.size ∧ 0 < n
   ·refine ⟨?_,.inl (by omega)⟩
    rcases hwsz with h | h <;> omega
   ·rw [if_neg hbs] at hb
    have := hn n0 (hi.col b n0 p hb).1
    omega)
  rfl hrp2
 exact ⟨_,w',h1,⟨C2,Al',H',g1,g2,g3,g4⟩,h3.os,h3.tape,h3.output,h3.size,fun b hb => h3.block b hb (by simp)⟩
end
end Go.Rv
namespace Go.Rv
section
variable {w0 w : World} {L : Hnd} {R0 : Nat → Prop} {S : Upd} {C : Col} {R Al : Nat → Prop} {H : Nat → Value} {P : Program}

theorem zeroCells_flat (z : Array Value) (n : Nat) (hz : 0 < z.size) : (Builtin.zeroCells z n).toList = (List.replicate n z.toList).flatten := by
 have h := madeCells_flat z.toList n (by simpa using hz)
 have e : madeCells z.toList.toArray (n * z.toList.length) = Builtin.zeroCells z n := by
  simp [madeCells,Builtin.zeroCells]
 rw [e] at h
 exact h

theorem Inv.same (hi : Inv w0 L R0 S w C R Al H) {i : Nat} (hal : Al i) {ent : Ent} (he : getS S i = ent) : Inv w0 L R0 ((i,ent) :: S) w C R Al H :=
 (hi.upd (w' := w) (S' := (i,ent) :: S) (C' := C) (Al' := Al) (H' := H) (fun j => j = i) (fun _ => False) rfl rfl rfl (Nat.le_refl _) (fun _ _ _ => rfl) (fun b hd => hd.elim)
  (fun b j p _ => Iff.rfl) (fun b j p hj hb => by
   have := hi.col b j p hb
   refine ⟨this.1,this.2.1,this.2.2,fun hr => ?_⟩
   have := (hi.rd b hr).2.1
   rw [hb] at this
   cases this) (fun j hj => ⟨hj,rfl⟩) (fun j hj hn => absurd hj hn) (fun j hj => getS_cons_ne _ _ hj) (fun j hj => by
   subst hj
   rw [getS_cons_self,← he]
   exact hi.ent j) (fun j hj => hj ▸ hal)).1

theorem clr_ok (hi : Inv w0 L R0 S w C R Al H) {t e' : TypeId} {ti : TI} {inf : TypeInfo} {d : TypeDesc} {z : Value} {e : Kd} (hu : P.underlying t = some (.slice e')) (r : TIok P e' ti inf d z) {i lo n : Nat} {xs : List e.ty} (hb : getS S i = .row e' e xs)
  {cx : Value} (ha : AV w R Al H (.vw i e.size lo n) cx) (hro : e.ro = true) {x : e.ty} {is : List (Option Nat)} (htk : takeCells [] e ti.zero = some (x,[],is)) (h1 : ti.zero.all one1 = true) (ty : TypeId) :
  ∃ w',(Builtin.clear_ #[t] ty #[cx]).run P w = .ok (.tuple #[]) w' ∧ Inv w0 L R0 ((i,.row e' e (xs.take lo ++ List.replicate n x ++ xs.drop (lo + n))) :: S) w' C R Al H ∧ ∀ y c,AV w R Al H y c → AV w' R Al H y c := by
 have hx := hi.ctx
 obtain ⟨hal,fl,ho,hcg,hlst⟩ := row_ok hx hb
 have hzs : AVs w R Al H ti.zero z.cells.toList := by rw [r.zs]; exact absZs_ok _
 have hz1 := one1s_ok hi.one _ _ hzs h1
 have hx0 : Ctx w C R Al H ([] : Upd) := ⟨fun i => trivial,hx.colt,hx.rdt,fun i h => absurd rfl h,hi.one⟩
 obtain ⟨c,r',e1,e2,e3⟩ := takeCells_ro hx0 e hro _ _ _ _ htk _ hzs
 simp only [AVs] at e3
 subst e3
 rw [List.append_nil] at e1
 have hcl : c.length = e.size := Rp.length _ _ _ _ (e2 [])
 simp only [AV] at ha
 obtain ⟨_,ha⟩ := ha
 rcases ha with ⟨A,q1,q2,q3,q4⟩ | ⟨g,N,cc,A,q1,q2,q3,q4,q5,q6,q7⟩
 ·subst q2 q3 q4
  refine ⟨w,?_,?_,fun _ _ h => h⟩
  ·cases A <;> simp [Builtin.clear_,run_underlying hu]
  ·simpa using hi.same hal hb
 ·rcases ho.2 with ⟨A,h0,_⟩ | ⟨g2,cap,cur,hv,hbp,hgh,m1,m2,m3,m4⟩
  ·rw [q1] at h0; simp only [Value.slice.injEq] at h0; omega
  ·rw [q1] at hv
   simp only [Value.slice.injEq,Option.some.injEq,Addr.mk.injEq,and_true] at hv
   obtain ⟨rfl,rfl,rfl⟩ := hv
   by_cases hn : n = 0
   ·subst hn q5
    refine ⟨w,?_,?_,fun _ _ h => h⟩
    ·simp [Builtin.clear_,run_underlying hu]
    ·have : xs.take lo ++ List.replicate 0 x ++ xs.drop (lo + 0) = xs := by simp
     rw [this]
     exact hi.same hal hb
   ·have hA := q6 (by omega)
    subst hA q5
    have hfl : fl.length = xs.length * e.size := ho.1
    have hzl : (Builtin.zeroCells z.cells n).toList = (List.replicate n c).flatten := by
     rw [zeroCells_flat z.cells n (by have := e.size_pos; rw [← Array.length_toList,e1,hcl]; exact this),e1]
    have hzlen : (List.replicate n c).flatten.length = n * e.size := by simp [hcl]
    have hb1 : lo * e.size + n * e.size ≤ xs.length * e.size := by rw [← Nat.add_mul]; exact Nat.mul_le_mul_right _ q3
    have hb2 : xs.length * e.size ≤ cur.size := by rw [m3]; exact Nat.mul_le_mul_right _ m1
    have hst := run_storeCells_at P g (lo * e.size) e' (List.replicate n c).flatten 0 cur w hgh (by rw [hzlen]; omega) (fun v hv => by
     obtain ⟨l,hl,hvl⟩ := List.mem_flatten.1 hv
     rw [List.eq_of_mem_replicate hl] at hvl
     exact hz1 v (by rw [e1]; exact hvl))
    rw [Nat.add_zero,hzlen] at hst
    have hcgg := hcg g (by rw [q1]; exact ownB_of hbp)
    refine ⟨_,?_,hi.touch hal hcgg (cur.toList.take (lo * e.size) ++ (List.replicate n c).flatten ++ cur.toList.drop (lo * e.size + n * e.size)).toArray fun hR => ?_⟩
    ·obtain ⟨m,rfl⟩ : ∃ m,n = m + 1 := ⟨n - 1,by omega⟩
     simp only [Builtin.clear_,List.getElem?_cons_zero,run_underlying hu,Sem.run_bind,Result.andThen_ok,r.run_zero,hzl,hst,Sem.run_pure,List.getElem?_toArray]
    ·generalize hW : w.setRow g (cur.toList.take (lo * e.size) ++ (List.replicate n c).flatten ++ cur.toList.drop (lo * e.size + n * e.size)).toArray = w' at hR ⊢
     have hlst' : Lst (fun j x c => Rp w' noC R 0 e x [j] c) 0 xs fl :=
      Lst.imp (fun j x c hx => Rp.ro hR e hro x _ _ c hx) _ _ _ hlst
     have hsz : ∀ (j : Nat) (y : e.ty) (c' : List Value),Rp w' noC R 0 e y [j] c' → c'.length = e.size := fun j y c' h => Rp.length _ _ _ _ h
     have h2 := Lst.append _ _ _ _ _ (Lst.take hsz xs 0 fl hlst' lo) (Lst.replicate (e := e) (x := x) (c := c) (fun p => Rp.ro hR e hro x _ _ c (e2 p)) n (0 + (xs.take lo).length))
     have h3 := Lst.cut (fun y c' h => Rp.length _ _ _ _ h) (lo + n) (xs.length - (lo + n)) xs 0 0 fl (Lst.any _ _ _ _ hlst')
     have h3' := Lst.shift _ _ 0 (0 + (xs.take lo ++ List.replicate n x).length) (Lst.some _ 0 (fun j => [j]) _ h3)
     have h4 := Lst.append _ _ _ _ _ h2 h3'
     have hd : (xs.drop (lo + n)).take (xs.length - (lo + n)) = xs.drop (lo + n) := List.take_of_length_le (by simp)
     have hd' : (fl.drop ((lo + n) * e.size)).take ((xs.length - (lo + n)) * e.size) = fl.drop ((lo + n) * e.size) := List.take_of_length_le (by rw [List.length_drop,hfl,← Nat.sub_mul]; exact Nat.le_refl _)
     rw [hd,hd'] at h4
     have hlen : (xs.take lo ++ List.replicate n x ++ xs.drop (lo + n)).length = xs.length := by simp; omega
     have key : (cur.toList.take (lo * e.size) ++ (List.replicate n c).flatten ++ cur.toList.drop (lo * e.size + n * e.size)).take (xs.length * e.size) = fl.take (lo * e.size) ++ (List.replicate n c).flatten ++ fl.drop ((lo + n) * e.size) := by
      rw [← m4]
      have := take_seg cur.toList (List.replicate n c).flatten (lo * e.size) (xs.length * e.size) (by rw [hzlen]; omega) (by simpa using hb2)
      rw [hzlen] at this
      rw [this,Nat.add_mul]
     show Rp _ C R i (.sl (some e') e) _ [] [H i]
     refine ⟨H i,fl.take (lo * e.size) ++ (List.replicate n c).flatten ++ fl.drop ((lo + n) * e.size),rfl,⟨?_,.inr ⟨g,cc,_,by rw [hlen]; exact q1,hbp,by rw [← hW]; exact setRow_heap w g _ _ _ _ hgh,by rw [hlen]; exact m1,m2,?_,by rw [hlen]; exact key⟩⟩,fun b hb' => hcg b hb',Lst.imp (fun j y c' h => Rp.ro (fun b hb => ⟨hb,rfl⟩) e hro y _ _ c' h) _ _ _ h4⟩
     ·rw [hlen,← hfl]
      simp only [List.length_append,List.length_take,List.length_drop,hzlen,hfl,Nat.add_mul]
      omega
     ·have hh1 : cur.toList.length = cur.size := by simp
      simp only [List.size_toArray,List.length_append,List.length_take,List.length_drop,hzlen,hh1]
      omega

theorem clrA_ok (hi : Inv w0 L R0 S w C R Al H) {t e' : TypeId} {te : TI} {inf : TypeInfo} {d : TypeDesc} {z : Value} (hu : Nat.blt 0 e' = true → P.underlying t = some (.slice e')) (r : TIok P e' te inf d z) {x : AVal} {cx : Value} (ha : AV w R Al H x cx) (ty : TypeId) {n : Nat} {α : Type} {k : AVal → Upd → Nat → Option α} {q : α}
  (h : clrA S n e' te x k = some q) : ∃ u cv w',k .undef u n = some q ∧ (Builtin.clear_ #[t] ty #[cx]).run P w = .ok cv w' ∧ Inv w0 L R0 (u ++ S) w' C R Al H ∧ ∀ y c,AV w R Al H y c → AV w' R Al H y c := by
 unfold clrA at h
 split at h
 ·rename_i i s lo m
  split at h
  ·rename_i t' e xs hb
   split at h
   ·rename_i zz is hz
    obtain ⟨hc,h'⟩ := chk_some h
    simp only [Bool.and_eq_true,Nat.beq_eq] at hc
    obtain ⟨⟨⟨⟨c1,c2⟩,c3⟩,c4⟩,c5⟩ := hc
    subst c2 c3
    obtain ⟨w',g1,g2,g3⟩ := clr_ok (P := P) hi (hu c1) r hb ha c4 hz c5 ty
    exact ⟨_,_,w',h',g1,g2,g3⟩
   ·cases h
  ·cases h
 ·cases h
end
end Go.Rv
namespace Go.Rv
section
variable {w0 w : World} {L : Hnd} {R0 : Nat → Prop} {S : Upd} {C : Col} {R Al : Nat → Prop} {H : Nat → Value} {P : Program}

theorem growZ_ok (hi : Inv w0 L R0 S w C R Al H) {n0 : Nat} (hn : ∀ i,Al i → i < n0) {t tn ty e' : TypeId} {kn : IntKind} {inf : TypeInfo} {z : Value} {e : Kd} (hu : P.underlying t = some (.slice e')) (htn : P.underlying tn = some (.int kn)) (hin : P.info? e' = some inf) (hz : inf.zero = some z) (hes : e.size = inf.size) (hro : e.ro = true)
  {x : e.ty} {zs : List AVal} {is : List (Option Nat)} (hzs : AVs w R Al H zs z.cells.toList) (htk : takeCells [] e zs = some (x,[],is)) (hbp : 0 < inf.bytes) (kl : IntKind) (n : Nat) (h0 : 0 < n) (hbytes : inf.bytes * n ≤ maxBytes) :
  ∃ cv w',(Builtin.append_ #[t,tn] ty #[.slice none 0 0,.int kl (n : Int)]).run P w = .ok cv w' ∧ Left w0 L R0 ((n0,.row e' e (List.replicate n x)) :: S) R Al H w (n0 + 1) (.ref n0) cv w' := by
 have hx0 : Ctx w C R Al H ([] : Upd) := ⟨fun i => trivial,hi.ctx.colt,hi.ctx.rdt,fun i h => absurd rfl h,hi.one⟩
 obtain ⟨c,r,e1,e2,e3⟩ := takeCells_ro hx0 e hro _ _ _ _ htk _ hzs
 simp only [AVs] at e3
 subst e3
 rw [List.append_nil] at e1
 have hmx : maxLen = 9223372036854775807 := rfl
 have h63 : n ≤ maxLen := by
  have : 1 * n ≤ inf.bytes * n := Nat.mul_le_mul_right _ hbp
  simp only [maxBytes] at hbytes
  omega
 have hcl : c.length = e.size := Rp.length _ _ _ _ (e2 [])
 have hzl : z.cells.toList.length = inf.size := by rw [e1,hcl,hes]
 have hpos : 0 < inf.size := by rw [← hes]; exact e.size_pos
 have hcomm : inf.bytes * n = n * inf.bytes := Nat.mul_comm _ _
 simp only [maxBytes] at hbytes
 have hbig : (0 + n) * inf.bytes ≤ 140737488355328 := by rw [Nat.zero_add,← hcomm]; exact hbytes
 have h1 := Lib.run_append_grow_zeros (P := P) w t tn ty e' inf z kl kn hu htn hin hz none 0 0 [] (run_firstCells_none w.drew inf.size 0 0 0) n h0 hpos (by omega) (by omega) (by omega) (growslice_fits (by omega) hbig)
 have hmade : (Builtin.zeroCells z.cells n).toList = (List.replicate n c).flatten := by
  have := madeCells_flat z.cells.toList n (by rw [hzl]; exact hpos)
  rw [← e1,← this]
  rfl
 have hcz : z.cells.size = inf.size := by rw [← hzl]; simp
 have hge := grownCap_ge w (0 + n) 0 e'
 have hcm : grownCap w (0 + n) 0 e' ≤ maxLen := grownCap_le_maxLen w (0 + n) 0 e' (by omega)
 have hlz : (Builtin.zeroCells z.cells n).size = n * inf.size := by rw [size_zeroCells,hcz]
 have how : Own (w.drew.alloc (.cells (([] : List Value).toArray ++ Builtin.zeroCells z.cells n ++ Builtin.zeroCells z.cells (grownCap w (0 + n) 0 e' - (0 + n))) e')) e' inf.size (.slice (some ⟨w.heap.size,0,none⟩) (0 + n) (grownCap w (0 + n) 0 e')) n ((List.replicate n c).flatten) := by
  refine ⟨?_,.inr ⟨w.heap.size,_,_,by rw [Nat.zero_add],by omega,heap_alloc_new w.drew _,by omega,hcm,?_,?_⟩⟩
  ·rw [← hmade]; simp [hlz]
  ·simp only [Array.size_append,hlz,size_zeroCells,hcz,List.size_toArray,List.length_nil,Nat.zero_add,← Nat.add_mul]
   simp only [Nat.zero_add] at hge
   congr 1
   omega
  ·simp only [Array.toList_append,List.nil_append]
   rw [hmade,List.take_append_of_le_length (by rw [← hmade]; simp [hlz]),List.take_of_length_le (by rw [← hmade]; simp [hlz])]
 have hgb : w.grownBy (w.drew.alloc (.cells (([] : List Value).toArray ++ Builtin.zeroCells z.cells n ++ Builtin.zeroCells z.cells (grownCap w (0 + n) 0 e' - (0 + n))) e')) none := ⟨rfl,rfl,rfl,by simp,fun k hk _ => heap_alloc_old w.drew _ k hk⟩
 have hR := grown_R hi hgb (fun g hg => by cases hg)
 obtain ⟨C',Al',H',g1,g2,g3,g4⟩ := hi.newRow hn (t := e') (e := e) (xs := List.replicate n x) (fl := (List.replicate n c).flatten) none none (by intro i h; cases h) (fun _ => rfl) hgb
  (by rw [List.length_replicate,hes]; exact how) (fun g hg => by have hg := ownB_block hg; simp only [Value.ownBlock,Option.some.injEq] at hg; exact .inl (by omega)) (Lst.keep hR hro (Lst.replicate e2 n 0)) hro
 exact ⟨_,_,h1,C',Al',H',g1,g2,g3,g4⟩
theorem run_append_OwnS {t u ty e : TypeId} {i : TypeInfo} {z : Value} (hu : P.underlying t = some (.slice e)) (hus : P.underlying u = some .string) (hin : P.info? e = some i) (hz : i.zero = some z)
  (hsize : i.size = 1) (hby : i.bytes = 1) (hzs : z.cells.size = 1) {v : Value} {n : Nat} {xs : List Value} (how : Own w e 1 v n xs) (s : ByteArray) (hbytes : n + s.size ≤ 140737488355328) :
  ∃ v' w',(Builtin.append_ #[t,u] ty #[v,.string s]).run P w = .ok v' w' ∧ Own w' e 1 v' (n + s.size) (xs ++ Lib.strCells s) ∧ w.grownBy w' (ownB v) ∧ ∀ g,ownB v' = some g → w.heap.size ≤ g ∨ ownB v = some g := by
 have hmx : maxLen = 9223372036854775807 := rfl
 have hxl : xs.length = n := by simpa using how.1
 have hlen : (xs ++ Lib.strCells s).length = (n + s.size) * 1 := by rw [List.length_append,hxl,Lib.strCells_length,Nat.mul_one]
 have grown : ∀ (old : Nat),old < n + s.size → ∀ (row : Option Nat),
   Own (w.drew.alloc (.cells (xs.toArray ++ (Lib.strCells s).toArray ++ Builtin.zeroCells z.cells (grownCap w (n + s.size) old e - (n + s.size))) e)) e 1
    (.slice (some ⟨w.heap.size,0,none⟩) (n + s.size) (grownCap w (n + s.size) old e)) (n + s.size) (xs ++ Lib.strCells s) ∧
   w.grownBy (w.drew.alloc (.cells (xs.toArray ++ (Lib.strCells s).toArray ++ Builtin.zeroCells z.cells (grownCap w (n + s.size) old e - (n + s.size))) e)) row ∧
   ∀ g,ownB (.slice (some ⟨w.heap.size,0,none⟩) (n + s.size) (grownCap w (n + s.size) old e)) = some g → w.heap.size ≤ g := by
  intro old ho row
  have hge := grownCap_ge w (n + s.size) old e
  have hcm : grownCap w (n + s.size) old e ≤ maxLen := grownCap_le_maxLen w (n + s.size) old e (by omega)
  refine ⟨⟨hlen,.inr ⟨w.heap.size,_,_,rfl,by omega,heap_alloc_new w.drew _,hge,hcm,?_,?_⟩⟩,⟨rfl,rfl,rfl,by simp,fun k hk _ => heap_alloc_old w.drew _ k hk⟩,fun g hg => ?_⟩
  ·simp only [Array.size_append,List.size_toArray,size_zeroCells,hzs,hxl,Lib.strCells_length]
   omega
  ·simp only [Array.toList_append,List.append_assoc]
   rw [← List.append_assoc,← hlen]
   exact List.take_left
  ·have hg := ownB_block hg
   simp only [Value.ownBlock,Option.some.injEq] at hg
   omega
 rcases how.2 with ⟨A,rfl,rfl⟩ | ⟨g,cap,cur,rfl,hcp,hg,hnc,hcm,hcs,htake⟩
 ·have hx : xs = [] := List.eq_nil_of_length_eq_zero hxl
  subst hx
  by_cases hm : s.size = 0
  ·have hn : Lib.strCells s = [] := List.eq_nil_of_length_eq_zero (by rw [Lib.strCells_length]; exact hm)
   refine ⟨.slice A 0 0,w,?_,by rw [hm,hn]; exact Own.nil _ _ _ A,⟨rfl,rfl,rfl,Nat.le_refl _,fun _ _ _ => rfl⟩,fun g hg => .inr hg⟩
   have hf := Lib.run_firstCells_string (P := P) w 1 s
   rw [hm,hn] at hf
   cases A <;> simp [Builtin.append_,run_underlying hu,run_underlying hus,sizeOf,typeInfo,hin,hsize,Builtin.lenOf,hm,hf,storeCells]
  ·cases A with
   | none =>
    have hr := run_append_nil_string (P := P) w t u ty e i z hu hus hin hz s (by omega) (by omega) (by rw [hby]; omega)
    have hgr := grown 0 (by omega) (ownB (.slice none 0 0))
    simp only [Nat.zero_add,List.nil_append,Array.empty_append] at hgr ⊢
    have e1 : (s.data.map fun b => Value.int .u8 b.toNat) = (Lib.strCells s).toArray := by
     apply Array.ext'
     simp [Lib.strCells]
    rw [e1] at hr
    exact ⟨_,_,hr,hgr.1,hgr.2.1,fun g hg => .inl (hgr.2.2 g hg)⟩
   | some a =>
    have hr := Lib.run_append_grow_string (P := P) w t u ty e i z hu hus hin hz a 0 0 [] (by simp) (by simp) s (by omega) (by omega) (by rw [hby]; exact growslice_fits (by omega) (by omega))
    have hgr := grown 0 (by omega) (ownB (.slice (some a) 0 0))
    exact ⟨_,_,hr,hgr.1,hgr.2.1,fun g hg => .inl (hgr.2.2 g hg)⟩
 ·have hob : ownB (.slice (some ⟨g,0,none⟩) n cap) = some g := ownB_of hcp
  by_cases hroom : n + s.size ≤ cap
  ·have hcs' : cur.size = cap := by simpa using hcs
   have hr := Lib.run_append_room_string (P := P) w t u ty e i hu hus hin hsize g n cap cur hg s hroom (by omega)
   refine ⟨_,_,hr,⟨hlen,.inr ⟨g,cap,_,rfl,hcp,setRow_heap w g cur _ e _ hg,hroom,hcm,?_,?_⟩⟩,⟨rfl,rfl,rfl,by simp,fun k _ hk => setRow_other w g k _ (fun e => hk (by rw [hob,e]))⟩,fun g' hg' => .inr ?_⟩
   ·simp only [List.size_toArray,List.length_append,List.length_take,List.length_drop,Array.length_toList,Lib.strCells_length]
    omega
   ·have ht' : cur.toList.take n = xs := by simpa using htake
    rw [ht',← hlen]
    exact List.take_left
   ·have h1 := ownB_block hg'
    simp only [Value.ownBlock,Option.some.injEq] at h1
    rw [hob,← h1]
  ·have how' := how.row hob
   have holds : ∀ j u,xs[j]? = some u → w.cell? ((⟨g,0,none⟩ : Addr).add j) = some u := how'.cells (g := g) rfl
   have hr := Lib.run_append_grow_string (P := P) w t u ty e i z hu hus hin hz ⟨g,0,none⟩ n cap xs (by rw [hsize]; simpa using hxl) holds s (by omega) (by omega) (by rw [hby]; exact growslice_fits (by omega) (by omega))
   have hgr := grown cap (by omega) (ownB (.slice (some ⟨g,0,none⟩) n cap))
   exact ⟨_,_,hr,hgr.1,hgr.2.1,fun g' hg' => .inl (hgr.2.2 g' hg')⟩

theorem lst_u8 {w : World} {R : Nat → Prop} : ∀ (xs : List Int) (j : Nat),Lst (fun j x c => Rp w noC R 0 (.int .u8) x (j :: []) c) j xs (xs.map (Value.int .u8))
 | [],_ => rfl
 | x :: xs,j => ⟨[.int .u8 x],_,rfl,rfl,lst_u8 xs (j + 1)⟩
theorem appS_ok (hi : Inv w0 L R0 S w C R Al H) {n : Nat} (hn : ∀ i,Al i → i < n) {t tn e' : TypeId} {i : TypeInfo} {z : Value} (hu : P.underlying t = some (.slice e')) (hus : P.underlying tn = some .string) (hin : P.info? e' = some i) (hz : i.zero = some z)
  (hsize : i.size = 1) (hby : i.bytes = 1) (hzs : z.cells.size = 1) {j : Nat} {xs : List Int} (hrow : getS S j = .row e' (.int .u8) xs) {cx : Value} (hx : AV w R Al H (.ref j) cx) (s : ByteArray) {ty : TypeId} (hb : xs.length + s.size ≤ maxBytes) :
  ∃ cv w',(Builtin.append_ #[t,tn] ty #[cx,.string s]).run P w = .ok cv w' ∧ Left w0 L R0 ((n,.row e' (.int .u8) (xs ++ bytesNums s)) :: (j,.dead) :: S) R Al H w (n + 1) (.ref n) cv w' := by
 have hctx := hi.ctx
 simp only [AV] at hx
 obtain ⟨hal,rfl⟩ := hx
 obtain ⟨_,fl,ho,hcg,hlst⟩ := row_ok hctx hrow
 have hl : Lst (fun j x c => Rp w noC R 0 (.int .u8) x [j] c) 0 xs fl := Lst.imp (fun j x c hx => Rp.ro (fun b hb => ⟨hb,rfl⟩) (.int .u8) rfl x _ _ c hx) _ _ _ hlst
 obtain ⟨cv,w',h1,h2,h3,h4⟩ := run_append_OwnS (P := P) (ty := ty) hu hus hin hz hsize hby hzs ho s (by simpa [maxBytes] using hb)
 have hob : ∀ g,ownB (H j) = some g → ∃ i,C g = some (i,[]) := fun g hg => ⟨j,hcg g hg⟩
 have hR := grown_R hi h3 hob
 have hbl : (bytesNums s).length = s.size := by unfold bytesNums; rw [List.length_map,Array.length_toList]; rfl
 have hsc : Lib.strCells s = (bytesNums s).map (Value.int .u8) := by unfold Lib.strCells bytesNums; rw [List.map_map]; rfl
 have hlapp : Lst (fun j x c => Rp w noC R 0 (.int .u8) x [j] c) 0 (xs ++ bytesNums s) (fl ++ Lib.strCells s) := by
  rw [hsc]
  exact Lst.append xs 0 fl (bytesNums s) _ hl (lst_u8 _ _)
 obtain ⟨C',Al',H',g1,g2,g3,g4⟩ := hi.newRow hn (w' := w') (t := e') (e := .int .u8) (xs := xs ++ bytesNums s) (v := cv) (fl := fl ++ Lib.strCells s) (some j) (ownB (H j)) (by
  intro i hi'
  simp only [Option.some.injEq] at hi'
  subst hi'
  exact ⟨hal,hcg⟩) (by intro h; cases h) h3 (by rw [List.length_append,hbl]; exact h2) h4 (Lst.keep hR rfl hlapp) rfl
 exact ⟨cv,w',h1,C',Al',H',g1,g2,g3,g4⟩
end
end Go.Rv
