/- Quiet operations of the evaluator are sound. No condition. -/
import Derived.Test.YtjamkpjjlpmofaaGreatRvA
import Derived.Laws.Slices
import Derived.Laws.Strings
import Derived.MapKept
namespace Go.Rv

theorem chk_some {α : Type} {b : Bool} {x : Option α} {r : α} (h : chk b x = some r) : b = true ∧ x = some r := by
 cases b
 ·simp [chk] at h
 ·exact ⟨rfl,by simpa [chk] using h⟩

def Ext (w w' : World) : Prop := ∀ b,b < w.heap.size → w'.heap[b]? = w.heap[b]?

theorem Ext.refl (w : World) : Ext w w := fun _ _ => rfl

structure Ctx (w : World) (C : Col) (R Al : Nat → Prop) (H : Nat → Value) (S : Upd) : Prop where
 ent : ∀ i,EntOK w C R Al H i (getS S i)
 colt : ∀ b i p,C b = some (i,p) → b < w.heap.size
 rdt : ∀ b,R b → b < w.heap.size
 al : ∀ i,getS S i ≠ .dead → Al i
 one : ∀ i,Al i → (H i).oneCell' = true

theorem Ext.cell {w w' : World} (h : Ext w w') {a : Addr} (ha : a.block < w.heap.size) : w'.cell? a = w.cell? a := World.cell?_of_block (h _ ha)

theorem Rp.one {w : World} {C : Col} {R : Nat → Prop} {i : Nat} : ∀ (k : Kd) (x : k.ty) (p : List Nat) (cs : List Value),Rp w C R i k x p cs → ∀ u ∈ cs,u.oneCell' = true := by
 intro k
 induction k with
 | int k => intro x p cs h u hu; rw [show cs = _ from h] at hu; simp only [List.mem_singleton] at hu; subst hu; rfl
 | bool => intro x p cs h u hu; rw [show cs = _ from h] at hu; simp only [List.mem_singleton] at hu; subst hu; rfl
 | str => intro x p cs h u hu; rw [show cs = _ from h] at hu; simp only [List.mem_singleton] at hu; subst hu; rfl
 | one a ih => intro x p cs h; exact ih x p cs h
 | pair a b iha ihb =>
  intro x p cs h u hu
  obtain ⟨c1,c2,he,h1,h2⟩ := h
  rw [he] at hu
  rcases List.mem_append.1 hu with hu | hu
  ·exact iha _ _ _ h1 u hu
  ·exact ihb _ _ _ h2 u hu
 | sl o e ih =>
  intro xs p cs h u hu
  cases o with
  | none =>
   obtain ⟨A,n,c,fl,he,_⟩ := h
   rw [he] at hu; simp only [List.mem_singleton] at hu; subst hu; rfl
  | some t =>
   obtain ⟨v,fl,he,ho,_⟩ := h
   rw [he] at hu; simp only [List.mem_singleton] at hu; subst hu
   rcases ho.2 with ⟨A,hv,_⟩ | ⟨g,cap,cur,hv,_⟩ <;> rw [hv] <;> rfl

section
variable {w : World} {C : Col} {R Al : Nat → Prop} {H : Nat → Value}

theorem pickCells_ok {agg : Bool} {size off : Nat} {cs : List AVal} {v : AVal} (h : pickCells agg size off cs = some v) {fl0 : List Value} (hs : AVs w R Al H cs fl0) :
  ∃ cv fl,fl = (fl0.drop off).take size ∧ fl.length = size ∧ (match agg with | true => cv = .agg fl.toArray | false => fl = [cv]) ∧ AV w R Al H v cv := by
 have hseg := AVs.take size _ _ (AVs.drop off _ _ hs)
 have hlen := AVs.length _ _ hseg
 unfold pickCells at h
 cases agg
 ·simp only at h
  split at h
  ·rename_i u hu
   rw [hu] at hseg hlen
   cases hb : Nat.beq size 1
   ·rw [hb] at h; simp at h
   ·rw [hb] at h
    simp only [cond_true,Option.some.injEq] at h
    have h1 : size = 1 := Nat.eq_of_beq_eq_true hb
    subst h
    simp only [AVs] at hseg
    obtain ⟨cv,r,e1,e2,e3⟩ := hseg
    subst e3
    refine ⟨cv,_,rfl,?_,?_,e2⟩
    ·rw [hlen,h1]; rfl
    ·exact e1
  ·cases h
 ·simp only at h
  cases hb : Nat.beq (List.take size (List.drop off cs)).length size
  ·rw [hb] at h; simp at h
  ·rw [hb] at h
   simp only [cond_true,Option.some.injEq] at h
   subst h
   refine ⟨.agg ((fl0.drop off).take size).toArray,_,rfl,?_,rfl,?_⟩
   ·rw [hlen]; exact Nat.eq_of_beq_eq_true hb
   ·simp only [AV]; exact ⟨_,rfl,by simpa using hseg⟩

theorem noC_path {w : World} {R : Nat → Prop} : ∀ (k : Kd) (x : k.ty) (p q : List Nat) (cs : List Value),Rp w noC R 0 k x p cs → Rp w noC R 0 k x q cs := by
 intro k
 induction k with
 | int k => intro x p q cs h; exact h
 | bool => intro x p q cs h; exact h
 | str => intro x p q cs h; exact h
 | one a ih => intro x p q cs h; exact ih x p q cs h
 | pair a b iha ihb =>
  intro x p q cs h
  obtain ⟨c1,c2,he,h1,h2⟩ := h
  exact ⟨c1,c2,he,iha _ _ _ _ h1,ihb _ _ _ _ h2⟩
 | sl o e ih =>
  intro xs p q cs h
  cases o with
  | none =>
   obtain ⟨A,n,c,fl,he,hn,hc,hl,ha⟩ := h
   exact ⟨A,n,c,fl,he,hn,hc,Lst.imp (fun j x c hx => ih x _ _ c hx) _ _ _ hl,ha⟩
  | some t =>
   obtain ⟨v,fl,he,ho,hc,hl⟩ := h
   refine ⟨v,fl,he,ho,fun g hg => ?_,Lst.imp (fun j x c hx => ih x _ _ c hx) _ _ _ hl⟩
   have := hc g hg
   simp [noC] at this

theorem cellsOf_ok : ∀ (k : Kd) (x : k.ty) (p : List Nat) (cs : List Value),Rp w noC R 0 k x p cs → AVs w R Al H (cellsOf k x) cs := by
 intro k
 induction k with
 | int k => intro x p cs h; simp only [cellsOf,AVs,AV]; exact ⟨_,[],h,rfl,rfl⟩
 | bool => intro x p cs h; simp only [cellsOf,AVs,AV]; exact ⟨_,[],h,rfl,rfl⟩
 | str => intro x p cs h; simp only [cellsOf,AVs,AV]; exact ⟨_,[],h,rfl,rfl⟩
 | one a ih => intro x p cs h; exact ih x p cs h
 | pair a b iha ihb =>
  intro x p cs h
  obtain ⟨c1,c2,he,h1,h2⟩ := h
  subst he
  exact AVs.append _ _ _ _ (iha _ _ _ h1) (ihb _ _ _ h2)
 | sl o e ih =>
  intro xs p cs h
  cases o with
  | none =>
   obtain ⟨A,n,c,fl,he,hn,hc,hl,ha⟩ := h
   simp only [cellsOf,AVs,AV]
   refine ⟨_,[],he,?_,rfl⟩
   refine ⟨A,n,c,fl,rfl,hn,hc,?_,ha⟩
   exact Lst.imp (fun j x c hx => Rp.mono (C := noC) (C' := noC) (i := 0) (i' := 0) (R := R) (R' := R) (w := w) (w' := w) [] (fun b hb => ⟨hb,rfl⟩) (fun b p hb => by simp [noC] at hb) e x (j :: p) c hx |> fun h => by
    have := h
    simp only [List.append_nil] at this
    exact noC_path e x (j :: p) [j] c this) _ _ _ hl
  | some t =>
   obtain ⟨v,fl,he,ho,hc,hl⟩ := h
   simp only [cellsOf,AVs,AV]
   refine ⟨v,[],he,?_,rfl⟩
   rcases ho.2 with ⟨A,hv,hn⟩ | ⟨g,cap,cur,hv,hb,_⟩
   ·have hx : xs = [] := List.eq_nil_of_length_eq_zero hn
    subst hx hv
    exact ⟨A,0,0,[],rfl,rfl,Nat.le_refl _,rfl,.inl rfl⟩
   ·have := hc g (by rw [hv]; exact ownB_of hb)
    simp [noC] at this
theorem ownAt_lt : ∀ (k : Kd) (q : Nat),(ownAt k q).isSome = true → q < k.size
 | .int _,q,h => by cases q <;> simp [ownAt] at h
 | .bool,q,h => by cases q <;> simp [ownAt] at h
 | .str,q,h => by cases q <;> simp [ownAt] at h
 | .sl none _,q,h => by cases q <;> simp [ownAt] at h
 | .sl (some _) _,q,h => by cases q <;> simp [ownAt,Kd.size] at h ⊢
 | .one a,q,h => ownAt_lt a q (by simpa [ownAt] using h)
 | .pair a b,q,h => by
  simp only [ownAt] at h
  cases hb : Nat.blt q a.size
  ·rw [hb] at h
   have := ownAt_lt b _ h
   have hn : ¬ q < a.size := by rw [← Nat.blt_eq,hb]; simp
   simp only [Kd.size]; omega
  ·rw [Nat.blt_eq] at hb
   simp only [Kd.size]; omega

theorem ownAt_left {a b : Kd} {q : Nat} (h : q < a.size) : ownAt (.pair a b) q = ownAt a q := by
 simp only [ownAt]; rw [show Nat.blt q a.size = true from (by rw [Nat.blt_eq]; exact h)]; rfl
theorem ownAt_right {a b : Kd} {q : Nat} : ownAt (.pair a b) (a.size + q) = ownAt b q := by
 simp only [ownAt]
 rw [show Nat.blt (a.size + q) a.size = false from by
  cases hb : Nat.blt (a.size + q) a.size
  ·rfl
  ·rw [Nat.blt_eq] at hb; omega]
 simp

theorem Kd.ok_pair {a b : Kd} (h : (Kd.pair a b).ok = true) : a.ok = true ∧ b.ok = true := by
 simp only [Kd.ok] at h
 cases ha : a.ok <;> simp_all

theorem cellsN_ok {i i0 ver s j : Nat} (hver : Al ver) : ∀ (k : Kd) (_ : k.ok = true) (x : k.ty) (p : List Nat) (cs : List Value) (o : Nat),Rp w C R i0 k x p cs → (∀ u ∈ cs,u.oneCell' = true) →
  (∀ q,(ownAt k q).isSome = true → cs[q]? = some (hcell (H ver) (j * s + (o + q)))) → AVs w R Al H (cellsN i ver s j k x o) cs := by
 intro k
 induction k with
 | int k => intro _ x p cs o h _ _; simp only [cellsN,AVs,AV]; exact ⟨_,[],h,rfl,rfl⟩
 | bool => intro _ x p cs o h _ _; simp only [cellsN,AVs,AV]; exact ⟨_,[],h,rfl,rfl⟩
 | str => intro _ x p cs o h _ _; simp only [cellsN,AVs,AV]; exact ⟨_,[],h,rfl,rfl⟩
 | one a ih => intro hk x p cs o h h1 h2; exact ih hk x p cs o h h1 h2
 | pair a b iha ihb =>
  intro hk x p cs o h h1 h2
  obtain ⟨c1,c2,he,g1,g2⟩ := h
  subst he
  have l1 := Rp.length _ _ _ _ g1
  refine AVs.append _ _ _ _ (iha (Kd.ok_pair hk).1 _ _ _ o g1 (fun u hu => h1 u (List.mem_append_left _ hu)) fun q hq => ?_) (ihb (Kd.ok_pair hk).2 _ _ _ (o + a.size) g2 (fun u hu => h1 u (List.mem_append_right _ hu)) fun q hq => ?_)
  ·have hlt := ownAt_lt a q hq
   have := h2 q (by rw [ownAt_left hlt]; exact hq)
   rwa [List.getElem?_append_left (by omega)] at this
  ·have := h2 (a.size + q) (by rw [ownAt_right]; exact hq)
   rw [List.getElem?_append_right (by omega),l1,Nat.add_sub_cancel_left] at this
   rw [this,Nat.add_assoc]
 | sl t e ih =>
  intro hk xs p cs o h h1 h2
  cases t with
  | none =>
   have h' : Rp w noC R 0 (.sl none e) xs [] cs := Rp.ro (fun b hb => ⟨hb,rfl⟩) (.sl none e) hk xs _ _ _ h
   exact cellsOf_ok (.sl none e) xs [] cs h'
  | some t =>
   obtain ⟨v,fl,he,_⟩ := h
   subst he
   have := h2 0 rfl
   simp only [List.getElem?_cons_zero,Option.some.injEq,Nat.add_zero] at this
   simp only [cellsN,AVs,AV]
   exact ⟨v,[],rfl,⟨hver,h1 v (by simp),this⟩,rfl⟩

def Yld (P : Program) (w : World) (s : Sem Value) (cv : Value) : Prop := ∀ w',Ext w w' → s.run P w' = .ok cv w'

variable {P : Program} {S : Upd} (hx : Ctx w C R Al H S)
include hx

theorem box_ok {i : Nat} {cs : List AVal} (h : getS S i = .box cs) : Al i ∧ ∃ b cells T,H i = .pointer (some ⟨b,0,none⟩) ∧ C b = some (i,[]) ∧ w.heap[b]? = some (.cells cells T (0,0)) ∧ AVs w R Al H cs cells.toList := by
 have := hx.ent i
 rw [h] at this
 exact ⟨hx.al i (by rw [h]; simp),this⟩

omit hx in
theorem rp_row {i t : Nat} {e : Kd} {xs : List e.ty} (h : Rp w C R i (.sl (some t) e) xs [] [H i]) : ∃ fl,Own w t e.size (H i) xs.length fl ∧ (∀ g,ownB (H i) = some g → C g = some (i,[])) ∧ Lst (fun j x c => Rp w C R i e x [j] c) 0 xs fl := by
 obtain ⟨v,fl,he,ho,hc,hl⟩ := h
 simp only [List.cons.injEq,and_true] at he
 subst he
 exact ⟨fl,ho,hc,hl⟩

theorem row_ok {i t : Nat} {e : Kd} {xs : List e.ty} (h : getS S i = .row t e xs) : Al i ∧ ∃ fl,Own w t e.size (H i) xs.length fl ∧ (∀ g,ownB (H i) = some g → C g = some (i,[])) ∧ Lst (fun j x c => Rp w C R i e x [j] c) 0 xs fl := by
 have := hx.ent i
 rw [h] at this
 exact ⟨hx.al i (by rw [h]; simp),rp_row this⟩

theorem nrow_ok {i t ver : Nat} {e : Kd} {xs : List e.ty} (h : getS S i = .nrow t e ver xs) : Al i ∧ Rp w C R i (.sl (some t) e) xs [] [H i] ∧ Al ver ∧ Heads w (H i) e xs.length (H ver) := by
 have := hx.ent i
 rw [h] at this
 exact ⟨hx.al i (by rw [h]; simp),this⟩

theorem rp_elem {i t : Nat} {e : Kd} {xs : List e.ty} (h : Rp w C R i (.sl (some t) e) xs [] [H i]) {j : Nat} {x : e.ty} (hj : xs[j]? = some x) :
  ∃ g n c fl,H i = .slice (some ⟨g,0,none⟩) n c ∧ g < w.heap.size ∧ C g = some (i,[]) ∧ fl.length = e.size ∧ Rp w C R i e x [j] fl ∧ ∀ (q : Nat) (u : Value),fl[q]? = some u → w.cell? ⟨g,j * e.size + q,none⟩ = some u := by
 obtain ⟨fl,ho,hc,hl⟩ := rp_row h
 have hlt : j < xs.length := by
  rcases Nat.lt_or_ge j xs.length with h' | h'
  ·exact h'
  ·rw [List.getElem?_eq_none h'] at hj; cases hj
 rcases ho.2 with ⟨A,hv,hn⟩ | ⟨g,cap,cur,hv,hb,hg,r⟩
 ·omega
 ·have hcg := hc g (by rw [hv]; exact ownB_of hb)
  have ho := ho.row (g := g) (by rw [hv]; exact ownB_of hb)
  have hel := Lst.get (s := e.size) (fun j x c hx => Rp.length _ _ _ _ hx) xs 0 fl hl j x hj
  rw [Nat.zero_add] at hel
  refine ⟨g,_,_,_,hv,hx.colt _ _ _ hcg,hcg,Rp.length _ _ _ _ hel,hel,fun q u hq => ?_⟩
  have hq' : q < e.size := by
   have := Rp.length _ _ _ _ hel
   rcases Nat.lt_or_ge q e.size with h' | h'
   ·exact h'
   ·rw [List.getElem?_eq_none (by rw [this]; exact h')] at hq; cases hq
  rw [hv] at ho
  have hb1 : j * e.size + q < xs.length * e.size := by
   have : (j + 1) * e.size ≤ xs.length * e.size := Nat.mul_le_mul_right _ hlt
   rw [Nat.add_mul,Nat.one_mul] at this
   omega
  rw [ho.cellAt _ hb1]
  rw [List.getElem?_take] at hq
  rw [if_pos hq'] at hq
  rw [List.getElem?_drop] at hq
  exact hq

theorem row_elem {i t : Nat} {e : Kd} {xs : List e.ty} (h : getS S i = .row t e xs) {j : Nat} {x : e.ty} (hj : xs[j]? = some x) :
  ∃ g n c fl,H i = .slice (some ⟨g,0,none⟩) n c ∧ g < w.heap.size ∧ C g = some (i,[]) ∧ fl.length = e.size ∧ Rp w C R i e x [j] fl ∧ ∀ (q : Nat) (u : Value),fl[q]? = some u → w.cell? ⟨g,j * e.size + q,none⟩ = some u := by
 have := hx.ent i
 rw [h] at this
 exact rp_elem hx this hj

omit hx in
theorem Heads.elem {i t : Nat} {e : Kd} {xs : List e.ty} {hv : Value} (h : Rp w C R i (.sl (some t) e) xs [] [H i]) (hh : Heads w (H i) e xs.length hv) {j g n c : Nat} {fl : List Value} (hg : H i = .slice (some ⟨g,0,none⟩) n c) (hj : j < xs.length) (hfl : fl.length = e.size)
  (hcl : ∀ (q : Nat) (u : Value),fl[q]? = some u → w.cell? ⟨g,j * e.size + q,none⟩ = some u) : ∀ q,(ownAt e q).isSome = true → fl[q]? = some (hcell hv (j * e.size + q)) := by
 intro q hq
 obtain ⟨_,ho,_,_⟩ := rp_row h
 have hlt := ownAt_lt e q hq
 rcases ho.2 with ⟨A,hv,hn⟩ | ⟨g',cap,cur,hv',hb,hgh,_⟩
 ·omega
 ·rw [hg] at hv'
  simp only [Value.slice.injEq,Option.some.injEq,Addr.mk.injEq,and_true] at hv'
  obtain ⟨rfl,rfl,rfl⟩ := hv'
  have h1 := hh.2 g c _ cur t (0,0) hg hb hgh j q hj hq
  have h2 := hcl q (fl[q]'(by omega)) (List.getElem?_eq_getElem (by omega))
  rw [cell_of_row w g _ cur t _ hgh] at h2
  have h3 : cur.toList[j * e.size + q]? = cur[j * e.size + q]? := by simp
  rw [h3,h2] at h1
  rw [List.getElem?_eq_getElem (by omega)]
  exact h1

theorem loadA_ok {α : Type} {ti : TI} {t : TypeId} {inf : TypeInfo} {d : TypeDesc} {z : Value} (ht : TIok P t ti inf d z) {x : AVal} {cx : Value} (ha : AV w R Al H x cx) {k : AVal → Option α} {r : α} (h : loadA S ti x k = some r) :
  ∃ v cv,k v = some r ∧ AV w R Al H v cv ∧ Yld P w (Instr.loadAt t cx) cv := by
 unfold loadA at h
 split at h
 ·rename_i i o
  simp only [AV] at ha
  split at h
  ·rename_i cs hcs
   obtain ⟨_,b,cells,T,h1,h2,h3,h4⟩ := box_ok hx hcs
   split at h
   ·rename_i v hv
    obtain ⟨cv,fl,e1,e2,e3,e4⟩ := pickCells_ok hv h4
    refine ⟨v,cv,h,e4,fun w' hw' => ?_⟩
    obtain ⟨_,b',e5,e6⟩ := ha
    rw [h1] at e5
    simp only [Value.pointer.injEq,Option.some.injEq,Addr.mk.injEq,and_true] at e5
    subst e5 e6
    simp only [Instr.loadAt,Instr.sureAddr,Sem.run_bind,Sem.run_pure,Result.andThen_ok]
    refine run_loadVar ht w' _ fl e2 (fun j u hj => ?_) cv e3
    rw [Addr.add_lit,hw'.cell (by exact hx.colt _ _ _ h2),cell_of_row w b _ cells T _ h3]
    rw [e1,List.getElem?_take] at hj
    split at hj
    ·rw [List.getElem?_drop] at hj; simpa using hj
    ·cases hj
   ·cases h
  ·rename_i e x hcs
   have hent := hx.ent i
   rw [hcs] at hent
   obtain ⟨b,fl,h1,ha2,ha3⟩ := hent
   obtain ⟨_,b',e5,e6⟩ := ha
   rw [h1] at e5
   simp only [Value.pointer.injEq,Option.some.injEq,Addr.mk.injEq,and_true] at e5
   subst e5 e6
   split at h
   ·rename_i v hv
    obtain ⟨cv,fl',e1,e2,e3,e4⟩ := pickCells_ok hv (cellsOf_ok (Al := Al) (H := H) e x [] fl ha3)
    refine ⟨v,cv,h,e4,fun w' hw' => ?_⟩
    simp only [Instr.loadAt,Instr.sureAddr,Sem.run_bind,Sem.run_pure,Result.andThen_ok]
    refine run_loadVar ht w' _ fl' e2 (fun j u hj => ?_) cv e3
    rw [Addr.add_lit,hw'.cell (by exact hx.rdt _ ha2.2.1)]
    have hh : fl[o + j]? = some u := by
     rw [e1,List.getElem?_take] at hj
     split at hj
     ·rw [List.getElem?_drop] at hj; exact hj
     ·cases hj
    have := ha2.2.2 (o + j) u hh
    rwa [Addr.add_lit,Nat.zero_add] at this
   ·cases h
  ·cases h
 ·rename_i e x o
  simp only [AV] at ha
  obtain ⟨a,fl,ha1,ha2,ha3⟩ := ha
  split at h
  ·rename_i v hv
   obtain ⟨cv,fl',e1,e2,e3,e4⟩ := pickCells_ok hv (cellsOf_ok (Al := Al) (H := H) e x [] fl ha3)
   refine ⟨v,cv,h,e4,fun w' hw' => ?_⟩
   subst ha1
   simp only [Instr.loadAt,Instr.sureAddr,Sem.run_bind,Sem.run_pure,Result.andThen_ok]
   refine run_loadVar ht w' _ fl' e2 (fun j u hj => ?_) cv e3
   have hb : ((a.add o).add j).block = a.block := by unfold Addr.add; split <;> split <;> rfl
   rw [hw'.cell (by rw [hb]; exact hx.rdt _ ha2.2.1),Addr.add_add]
   apply ha2.2.2
   rw [e1,List.getElem?_take] at hj
   split at hj
   ·rw [List.getElem?_drop] at hj; exact hj
   ·cases hj
  ·cases h
 ·rename_i i s j o
  simp only [AV] at ha
  split at h
  ·rename_i t' e xs hcs
   obtain ⟨hc,h'⟩ := chk_some h
   clear h
   simp only [Bool.and_eq_true] at hc
   have hs : s = e.size := Nat.eq_of_beq_eq_true hc.1
   subst hs
   cases hj : xs[j]? with
   | none => rw [hj] at h'; cases h'
   | some y =>
    rw [hj] at h'
    simp only [Option.bind_some] at h'
    have h := h'
    clear h'
    obtain ⟨g,n,c,fl,q1,q2,q3,q4,q5,q6⟩ := row_elem hx hcs hj
    split at h
    ·rename_i v hv
     have hro : Rp w noC R 0 e y [] fl := Rp.ro (fun b hb => ⟨hb,rfl⟩) e hc.2 y _ _ _ q5
     obtain ⟨cv,fl',e1,e2,e3,e4⟩ := pickCells_ok hv (cellsOf_ok (Al := Al) (H := H) e y [] fl hro)
     refine ⟨v,cv,h,e4,fun w' hw' => ?_⟩
     obtain ⟨_,g',n',c',e5,e6⟩ := ha
     rw [q1] at e5
     simp only [Value.slice.injEq,Option.some.injEq,Addr.mk.injEq,and_true] at e5
     obtain ⟨e5,_,_⟩ := e5
     subst e5 e6
     simp only [Instr.loadAt,Instr.sureAddr,Sem.run_bind,Sem.run_pure,Result.andThen_ok]
     refine run_loadVar ht w' _ fl' e2 (fun q u hq => ?_) cv e3
     rw [Addr.add_lit,hw'.cell (by exact q2),Nat.add_assoc]
     apply q6
     rw [e1,List.getElem?_take] at hq
     split at hq
     ·rw [List.getElem?_drop] at hq; exact hq
     ·cases hq
    ·cases h
  ·rename_i t' e ver xs hcs
   obtain ⟨hc,h'⟩ := chk_some h
   clear h
   simp only [Bool.and_eq_true] at hc
   have hs : s = e.size := Nat.eq_of_beq_eq_true hc.1
   subst hs
   cases hj : xs[j]? with
   | none => rw [hj] at h'; cases h'
   | some y =>
    rw [hj] at h'
    simp only [Option.bind_some] at h'
    have h := h'
    clear h'
    obtain ⟨_,hrp,hver,hhd⟩ := nrow_ok hx hcs
    obtain ⟨g,n,c,fl,q1,q2,q3,q4,q5,q6⟩ := rp_elem hx hrp hj
    have hjl : j < xs.length := (List.getElem?_eq_some_iff.1 hj).1
    split at h
    ·rename_i v hv
     have hcn := cellsN_ok (i := i) (s := e.size) (j := j) (Al := Al) (H := H) hver e hc.2 y _ fl 0 q5 (Rp.one _ _ _ _ q5) (fun q hq => by rw [Nat.zero_add]; exact Heads.elem hrp hhd q1 hjl q4 q6 q hq)
     obtain ⟨cv,fl',e1,e2,e3,e4⟩ := pickCells_ok hv hcn
     refine ⟨v,cv,h,e4,fun w' hw' => ?_⟩
     obtain ⟨_,g',n',c',e5,e6⟩ := ha
     rw [q1] at e5
     simp only [Value.slice.injEq,Option.some.injEq,Addr.mk.injEq,and_true] at e5
     obtain ⟨e5,_,_⟩ := e5
     subst e5 e6
     simp only [Instr.loadAt,Instr.sureAddr,Sem.run_bind,Sem.run_pure,Result.andThen_ok]
     refine run_loadVar ht w' _ fl' e2 (fun q u hq => ?_) cv e3
     rw [Addr.add_lit,hw'.cell (by exact q2),Nat.add_assoc]
     apply q6
     rw [e1,List.getElem?_take] at hq
     split at hq
     ·rw [List.getElem?_drop] at hq; exact hq
     ·cases hq
    ·cases h
  ·cases h
 ·cases h

end
end Go.Rv
namespace Go.Rv
section
variable {w : World} {C : Col} {R Al : Nat → Prop} {H : Nat → Value} {P : Program} {S : Upd}

theorem eqCells_append : ∀ (c1 d1 c2 d2 : List AVal) (q : Bool),c1.length = d1.length → eqCells (c1 ++ c2) (d1 ++ d2) = some q → ∃ q1 q2,eqCells c1 d1 = some q1 ∧ eqCells c2 d2 = some q2 ∧ q = (q1 && q2)
 | [],[],c2,d2,q,_,h => ⟨true,q,rfl,h,by simp⟩
 | a :: c1,b :: d1,c2,d2,q,hl,h => by
  have hl' : c1.length = d1.length := by simpa using hl
  simp only [List.cons_append] at h
  have step : ∀ (f : Bool → Option Bool),eqCells (a :: (c1 ++ c2)) (b :: (d1 ++ d2)) = (match eqCells (c1 ++ c2) (d1 ++ d2) with | some q => f q | none => none) →
    eqCells (a :: c1) (b :: d1) = (match eqCells c1 d1 with | some q => f q | none => none) → (∀ q1 q2 u,f (q1 && q2) = some u → ∃ v,f q1 = some v ∧ u = (v && q2)) →
    ∃ q1 q2,eqCells (a :: c1) (b :: d1) = some q1 ∧ eqCells c2 d2 = some q2 ∧ q = (q1 && q2) := by
   intro f e1 e2 e3
   rw [e1] at h
   cases hr : eqCells (c1 ++ c2) (d1 ++ d2) with
   | none => rw [hr] at h; simp at h
   | some q' =>
    rw [hr] at h
    obtain ⟨q1,q2,f1,f2,f3⟩ := eqCells_append c1 d1 c2 d2 q' hl' hr
    subst f3
    obtain ⟨v,g1,g2⟩ := e3 q1 q2 q h
    exact ⟨v,q2,by rw [e2,f1]; exact g1,f2,g2⟩
  cases a <;> cases b <;> first | (simp only [eqCells] at h; cases h; done) | skip
  ·rename_i k m k' m'
   refine step (fun q => if k = k' then some ((m == m') && q) else none) rfl rfl ?_
   intro q1 q2 u hu
   by_cases hk : k = k'
   ·simp only [hk,if_true,Option.some.injEq] at hu ⊢
    exact ⟨_,rfl,by rw [← hu,Bool.and_assoc]⟩
   ·simp [hk] at hu
  ·rename_i m m'
   refine step (fun q => some ((m == m') && q)) rfl rfl ?_
   intro q1 q2 u hu
   simp only [Option.some.injEq] at hu ⊢
   exact ⟨_,rfl,by rw [← hu,Bool.and_assoc]⟩
  ·rename_i m m'
   refine step (fun q => some ((m.toList == m'.toList) && q)) rfl rfl ?_
   intro q1 q2 u hu
   simp only [Option.some.injEq] at hu ⊢
   exact ⟨_,rfl,by rw [← hu,Bool.and_assoc]⟩

theorem cellsOf_info {t : TypeId} (h : 0 < P.cellsOf t) : ∃ i,P.info? t = some i ∧ i.size = P.cellsOf t := by
 unfold Program.cellsOf at h ⊢
 cases hi : P.info? t with
 | none => rw [hi] at h; simp at h
 | some i => exact ⟨i,rfl,by simp⟩

def mkV (P : Program) (t : TypeId) (xs : List Value) : Value :=
 match P.underlying t with
 | some d => match aggD d with
  | true => .agg xs.toArray
  | false => xs.headD undef
 | none => undef

theorem run_isAgg {t : TypeId} {d : TypeDesc} (h : P.underlying t = some d) (w : World) : (Go.isAgg t).run P w = .ok (aggD d) w := by
 have := run_underlying h w
 cases d <;> simp [Go.isAgg,this,aggD]

theorem AVs.split {n : Nat} {cs : List AVal} {xs : List Value} (h : AVs w R Al H cs xs) : AVs w R Al H (cs.take n) (xs.take n) ∧ AVs w R Al H (cs.drop n) (xs.drop n) := ⟨AVs.take n _ _ h,AVs.drop n _ _ h⟩

theorem run_part {t : TypeId} {d : TypeDesc} (hu : P.underlying t = some d) (hi : 0 < P.cellsOf t) (h1 : aggD d = false → P.cellsOf t = 1) (cs : Array Value) (off : Nat) (seg : List Value)
  (hs : (cs.toList.drop off).take (P.cellsOf t) = seg) (hl : seg.length = P.cellsOf t) (w : World) : (part t cs off).run P w = .ok (mkV P t seg) w := by
 obtain ⟨i,hi1,hi2⟩ := cellsOf_info hi
 unfold part
 rw [Sem.run_bind,run_isAgg hu]
 simp only [Result.andThen_ok,mkV,hu]
 cases hg : aggD d
 ·simp only [Bool.false_eq_true,if_false]
  have h2 := h1 hg
  rw [h2] at hs
  have : cs[off]? = some (seg.headD undef) := by
   rw [← hs]
   rw [hl.symm] at h2
   have h3 : seg.length = 1 := by omega
   rw [← hs] at h3
   cases hx : cs[off]? with
   | none =>
    have : cs.toList[off]? = none := by simpa using hx
    have h4 : (cs.toList.drop off).take 1 = [] := by
     rw [List.drop_eq_nil_of_le (by simpa using List.getElem?_eq_none_iff.1 this)]; rfl
    rw [h4] at h3; simp at h3
   | some v =>
    have hv : cs.toList[off]? = some v := by simpa using hx
    have hlt := (List.getElem?_eq_some_iff.1 hv).1
    rw [List.drop_eq_getElem_cons hlt]
    have := (List.getElem?_eq_some_iff.1 hv).2
    simp [this]
  rw [this]
  simp
 ·simp only [if_true,Sem.run_bind]
  have : (sizeOf t).run P w = .ok (P.cellsOf t) w := by simp [sizeOf,typeInfo,hi1,hi2]
  rw [this]
  simp only [Result.andThen_ok,Sem.run_pure]
  congr 2
  apply Array.ext'
  rw [← hs]
  simp [List.extract_eq_take_drop]

theorem eq_ok : ∀ (n : Nat) (t : TypeId) (ks : List Nat),eqT P n t = some ks → ∀ (dp : Nat) (cs ds : List AVal) (xs ys : List Value) (q : Bool),
  AVs w R Al H cs xs → AVs w R Al H ds ys → cs.map tagV = ks → ds.map tagV = ks → eqCells cs ds = some q →
  (∃ d,P.underlying t = some d ∧ (aggD d = false → ks.length = 1)) ∧ (∀ w',(Op.equalIn (dp + n) t (mkV P t xs) (mkV P t ys)).run P w' = .ok q w') := by
 intro n
 induction n with
 | zero => intro t ks h; simp [eqT] at h
 | succ n ih =>
  intro t ks h dp cs ds xs ys q hx hy tx ty hq
  unfold eqT at h
  have l1 := AVs.length _ _ hx
  have l2 := AVs.length _ _ hy
  have l3 : cs.length = ks.length := by rw [← tx]; simp
  have l4 : ds.length = ks.length := by rw [← ty]; simp
  have one : ∀ c,ks = [c] → ∃ x y c' e,xs = [x] ∧ ys = [y] ∧ cs = [c'] ∧ ds = [e] ∧ AV w R Al H c' x ∧ AV w R Al H e y ∧ tagV c' = c ∧ tagV e = c := by
   intro c hk
   subst hk
   match cs,l3,ds,l4,xs,l1,ys,l2 with
   | [c'],_,[e],_,[x],_,[y],_ =>
    simp only [AVs] at hx hy
    obtain ⟨v,r,e1,e2,e3⟩ := hx
    obtain ⟨v',r',e1',e2',e3'⟩ := hy
    simp only [List.cons.injEq] at e1 e1'
    obtain ⟨rfl,_⟩ := e1
    obtain ⟨rfl,_⟩ := e1'
    exact ⟨x,y,c',e,rfl,rfl,rfl,rfl,e2,e2',by simpa using tx,by simpa using ty⟩
  split at h
  ·rename_i k hu
   simp only [Option.some.injEq] at h
   obtain ⟨x,y,c,e,rfl,rfl,rfl,rfl,hc,he,t1,t2⟩ := one _ h.symm
   refine ⟨⟨_,hu,fun _ => by rw [← h]; rfl⟩,fun w' => ?_⟩
   simp only [mkV,hu,aggD,List.headD_cons]
   cases c <;> simp only [tagV] at t1 <;> first | (cases t1; done) | skip
   cases e <;> simp only [tagV] at t2 <;> first | (cases t2; done) | skip
   simp only [AV] at hc he
   subst hc he
   simp only [eqCells] at hq
   split at hq
   ·rename_i hk
    subst hk
    simp only [Option.some.injEq,Bool.and_true] at hq
    subst hq
    rw [← Nat.add_assoc]
    exact run_equalIn_int w' _ t _ _ _ _ hu
   ·cases hq
  ·rename_i hu
   simp only [Option.some.injEq] at h
   obtain ⟨x,y,c,e,rfl,rfl,rfl,rfl,hc,he,t1,t2⟩ := one _ h.symm
   refine ⟨⟨_,hu,fun _ => by rw [← h]; rfl⟩,fun w' => ?_⟩
   simp only [mkV,hu,aggD,List.headD_cons]
   cases c <;> simp only [tagV] at t1 <;> first | (cases t1; done) | skip
   cases e <;> simp only [tagV] at t2 <;> first | (cases t2; done) | skip
   simp only [AV] at hc he
   subst hc he
   simp only [eqCells,Option.some.injEq,Bool.and_true] at hq
   subst hq
   rw [← Nat.add_assoc]
   exact run_equalIn_bool' w' _ t _ _ hu
  ·rename_i hu
   simp only [Option.some.injEq] at h
   obtain ⟨x,y,c,e,rfl,rfl,rfl,rfl,hc,he,t1,t2⟩ := one _ h.symm
   refine ⟨⟨_,hu,fun _ => by rw [← h]; rfl⟩,fun w' => ?_⟩
   simp only [mkV,hu,aggD,List.headD_cons]
   cases c <;> simp only [tagV] at t1 <;> first | (cases t1; done) | skip
   cases e <;> simp only [tagV] at t2 <;> first | (cases t2; done) | skip
   simp only [AV] at hc he
   subst hc he
   simp only [eqCells,Option.some.injEq,Bool.and_true] at hq
   subst hq
   rw [← Nat.add_assoc]
   exact run_equalIn_string w' _ t _ _ hu
  ·rename_i fs hu
   split at h
   ·cases h
   ·rename_i hp
    refine ⟨⟨_,hu,fun hg => by simp [aggD] at hg⟩,fun w' => ?_⟩
    have hf : P.fieldsOf t = fs := by unfold Program.fieldsOf; rw [hu]
    simp only [mkV,hu,aggD]
    rw [← Nat.add_assoc,run_equalIn_struct w' (dp + n) t _ _ (by rw [hf]; exact hu) hp,hf]
    have key : ∀ (l : List Field) (off : Nat) (ks : List Nat),eqGo P (eqT P n) off l = some ks → ∀ (cs ds : List AVal) (q : Bool) (w' : World),
      AVs w R Al H cs (xs.drop off) → AVs w R Al H ds (ys.drop off) → cs.map tagV = ks → ds.map tagV = ks → eqCells cs ds = some q →
      (Op.eqFields (dp + n) xs.toArray ys.toArray l).run P w' = .ok q w' := by
     intro l
     induction l with
     | nil =>
      intro off ks h cs ds q w' hx hy tx ty hq
      simp only [eqGo,Option.some.injEq] at h
      subst h
      simp only [List.map_eq_nil_iff] at tx ty
      subst tx ty
      simp only [eqCells,Option.some.injEq] at hq
      subst hq
      simp [Op.eqFields]
     | cons f r ihl =>
      intro off ks h cs ds q w' hx hy tx ty hq
      unfold eqGo at h
      split at h
      ·rename_i ks1 h1
       split at h
       ·rename_i hb
        simp only [Bool.and_eq_true,bne_iff_ne,ne_eq] at hb
        obtain ⟨⟨⟨hn,ho⟩,hc⟩,hpos⟩ := hb
        have hpos : 0 < ks1.length := by simpa [Nat.blt_eq] using hpos
        have ho := Nat.eq_of_beq_eq_true ho
        have hc := Nat.eq_of_beq_eq_true hc
        split at h
        ·rename_i ks2 h2
         simp only [Option.some.injEq] at h
         subst h
         have lc : cs.length = ks1.length + ks2.length := by have := congrArg List.length tx; simpa using this
         have ld : ds.length = ks1.length + ks2.length := by have := congrArg List.length ty; simpa using this
         have s1 : cs = cs.take ks1.length ++ cs.drop ks1.length := (List.take_append_drop _ _).symm
         have s2 : ds = ds.take ks1.length ++ ds.drop ks1.length := (List.take_append_drop _ _).symm
         rw [s1,s2] at hq
         obtain ⟨q1,q2,e1,e2,e3⟩ := eqCells_append _ _ _ _ q (by simp; omega) hq
         have tx1 : (cs.take ks1.length).map tagV = ks1 := by rw [List.map_take,tx]; simp
         have ty1 : (ds.take ks1.length).map tagV = ks1 := by rw [List.map_take,ty]; simp
         have tx2 : (cs.drop ks1.length).map tagV = ks2 := by rw [List.map_drop,tx]; simp
         have ty2 : (ds.drop ks1.length).map tagV = ks2 := by rw [List.map_drop,ty]; simp
         obtain ⟨⟨d,hd,hd1⟩,ih1⟩ := ih f.type ks1 h1 dp _ _ _ _ q1 (AVs.split hx).1 (AVs.split hy).1 tx1 ty1 e1
         have px := run_part (P := P) hd (by omega) (fun hg => by rw [hc]; exact hd1 hg) xs.toArray f.offset _ rfl (by
          have := AVs.length _ _ (AVs.split (n := ks1.length) hx).1
          rw [hc,ho]
          simp only [List.length_take] at this ⊢
          omega) w'
         have py := run_part (P := P) hd (by omega) (fun hg => by rw [hc]; exact hd1 hg) ys.toArray f.offset _ rfl (by
          have := AVs.length _ _ (AVs.split (n := ks1.length) hy).1
          rw [hc,ho]
          simp only [List.length_take] at this ⊢
          omega) w'
         simp only [Op.eqFields,hn,ne_eq,not_false_eq_true,if_true,Sem.run_bind,px,py,Result.andThen_ok]
         rw [hc,ho]
         rw [ih1 w']
         simp only [Result.andThen_ok,Sem.run_ite,Sem.run_pure]
         have rest := ihl (off + ks1.length) ks2 h2 _ _ q2 w' (by rw [← List.drop_drop]; exact (AVs.split hx).2) (by rw [← List.drop_drop]; exact (AVs.split hy).2) tx2 ty2 e2
         cases q1
         ·simp [e3]
         ·simp [e3,rest]
        ·cases h
       ·cases h
      ·cases h
    exact key fs.toList 0 ks h cs ds q w' (by simpa using hx) (by simpa using hy) tx ty hq
  ·cases h
end
end Go.Rv
namespace Go.Rv
section
variable {w : World} {C : Col} {R Al : Nat → Prop} {H : Nat → Value} {P : Program} {S : Upd}

theorem mkV_agg {t : TypeId} {d : TypeDesc} (hu : P.underlying t = some d) (hg : aggD d = true) (xs : List Value) : mkV P t xs = .agg xs.toArray := by simp [mkV,hu,hg]

theorem bin_agg {T : Tab} (hT : TabOK P T) {t : Nat} {ti : TI} (ht : T.get t = some ti) {cs ds : List AVal} {x y : Value} (hx : AV w R Al H (.agg cs) x) (hy : AV w R Al H (.agg ds) y) (X Y : Operand)
  (ha : ti.agg = true) (hne : ti.eq.isEmpty = false) (h1 : cs.map tagV = ti.eq) (h2 : ds.map tagV = ti.eq) {q : Bool} (hq : eqCells cs ds = some q) (w' : World) :
  (do eqGuard .eql t X Y x y; binOp .eql t x y).run P w' = .ok (.bool q) w' ∧ (do eqGuard .neq t X Y x y; binOp .neq t x y).run P w' = .ok (.bool !q) w' := by
 obtain ⟨i,d,z,hr⟩ := hT.row ht
 have he := hr.eq
 simp only [AV] at hx hy
 obtain ⟨xs,rfl,hx⟩ := hx
 obtain ⟨ys,rfl,hy⟩ := hy
 cases hgt : P.eqGuardType P.depth t
 ·rw [hgt] at he
  simp only at he
  cases hk : eqT P 20 t with
  | none => rw [hk] at he; simp at he; rw [he] at hne; simp at hne
  | some ks =>
   rw [hk] at he
   simp only [Option.getD_some] at he
   rw [he] at h1 h2
   obtain ⟨_,hrun⟩ := eq_ok (w := w) (R := R) (Al := Al) (H := H) 20 t ks hk 9980 cs ds _ _ q hx hy h1 h2 hq
   have hg : aggD d = true := by rw [← hr.agg]; exact ha
   have hrun := hrun w'
   rw [mkV_agg hr.und hg,mkV_agg hr.und hg] at hrun
   simp only [Array.toArray_toList] at hrun
   constructor
   ·rw [Sem.run_bind,run_eqGuard_agg w' .eql t X Y xs ys hgt,Result.andThen_ok,run_eql_struct,hrun]; rfl
   ·rw [Sem.run_bind,run_eqGuard_agg w' .neq t X Y xs ys hgt,Result.andThen_ok,run_neq_struct,hrun]; rfl
 ·rw [hgt] at he
  simp only at he
  rw [he] at hne
  simp at hne

theorem run_guard_other {op : BinOp} {t : TypeId} {X Y : Operand} {x y : Value} (h : (∀ a,x ≠ .agg a) ∧ x ≠ .nilIface) (w' : World) : (eqGuard op t X Y x y).run P w' = .ok () w' := by
 cases x <;> first | exact absurd rfl (h.1 _) | exact absurd rfl h.2 | (cases op <;> simp [eqGuard])

theorem kdOf_bool {n : Nat} {t : TypeId} (h : kdOf P n t = some .bool) : P.underlying t = some .bool := by
 cases n with
 | zero => simp [kdOf] at h
 | succ n =>
  unfold kdOf at h
  split at h
  ·cases h
  ·assumption
  ·cases h
  ·cases hk : kdOf P n _ <;> rw [hk] at h <;> simp at h
  ·rename_i fs hu
   split at h
   ·cases hk : kdOf P n _ <;> rw [hk] at h <;> simp at h
   ·rename_i l hl
    revert h
    cases hfs : fs.toList with
    | nil => simp [kdGo]
    | cons f r =>
     cases r with
     | nil => intro _; exact absurd hfs (hl f)
     | cons g r =>
      unfold kdGo
      cases kdOf P n f.type <;> cases kdGo (kdOf P n) (g :: r) <;> simp
  ·cases h

theorem binA_ok {T : Tab} (hT : TabOK P T) {t : Nat} {op : BinOp} {vx vy : AVal} {x y : Value} (hx : AV w R Al H vx x) (hy : AV w R Al H vy y) (X Y : Operand) {α : Type} {k : AVal → Option α} {r : α}
  (h : binA (T.get t) op vx vy k = some r) : ∃ v cv,k v = some r ∧ AV w R Al H v cv ∧ ∀ w',(do eqGuard op t X Y x y; binOp op t x y).run P w' = .ok cv w' := by
 unfold binA at h
 split at h
 ·rename_i ka a kb b
  simp only [AV] at hx hy
  subst hx hy
  have hg : ∀ w',(eqGuard op t X Y (.int ka a) (.int kb b)).run P w' = .ok () w' := fun w' => run_guard_other ⟨(fun _ h => by cases h),(fun h => by cases h)⟩ w'
  split at h
  ·rename_i hk
   subst hk
   split at h
   ·cases hz : (b == 0)
    ·rw [hz] at h
     refine ⟨_,_,h,by simp [AV]; rfl,fun w' => ?_⟩
     rw [Sem.run_bind,hg,Result.andThen_ok]
     have hb : ¬ b = 0 := by simpa using hz
     simp [binOp,Op.intDiv,hb]
    ·rw [hz] at h; cases h
   ·cases hz : (b == 0)
    ·rw [hz] at h
     refine ⟨_,_,h,by simp [AV]; rfl,fun w' => ?_⟩
     rw [Sem.run_bind,hg,Result.andThen_ok]
     have hb : ¬ b = 0 := by simpa using hz
     simp [binOp,Op.intDiv,hb]
    ·rw [hz] at h; cases h
   ·cases h
   ·cases h
   ·split at h
    ·rename_i v hv
     unfold intBin at hv
     cases op <;> simp only [Option.some.injEq] at hv <;> first | (cases hv; done) | skip
     all_goals
      subst hv
      refine ⟨_,_,h,by simp [AV]; rfl,fun w' => ?_⟩
      rw [Sem.run_bind,hg,Result.andThen_ok]
      simp [binOp,Op.intArith,Op.intCmp] <;> rfl
    ·cases h
  ·cases h
 ·rename_i a b
  simp only [AV] at hx hy
  subst hx hy
  split at h
  ·rename_i ti ht
   split at h
   ·rename_i hk
    obtain ⟨i,d,z,hr⟩ := hT.row ht
    have hu := kdOf_bool (hr.kd _ hk).1
    have hg : ∀ w',(eqGuard op t X Y (.bool a) (.bool b)).run P w' = .ok () w' := fun w' => run_guard_other ⟨(fun _ h => by cases h),(fun h => by cases h)⟩ w'
    cases op <;> simp only at h <;> first | (cases h; done) | skip
    all_goals
     refine ⟨_,_,h,by simp [AV]; rfl,fun w' => ?_⟩
     have he : (Op.equal t (.bool a) (.bool b)).run P w' = .ok (a == b) w' := run_equalIn_bool' w' 9999 t a b hu
     rw [Sem.run_bind,hg,Result.andThen_ok]
     simp only [binOp,Sem.run_bind,he,Result.andThen_ok,Sem.run_pure]
   ·cases h
  ·cases h
 ·rename_i a b
  simp only [AV] at hx hy
  subst hx hy
  have hg : ∀ w',(eqGuard op t X Y (.string a) (.string b)).run P w' = .ok () w' := fun w' => run_guard_other ⟨(fun _ h => by cases h),(fun h => by cases h)⟩ w'
  cases op <;> simp only at h <;> first | (cases h; done) | skip
  case add =>
   obtain ⟨h1,h2⟩ := chk_some h
   have h1 := Nat.le_of_ble_eq_true h1
   refine ⟨_,_,h2,by simp [AV]; rfl,fun w' => ?_⟩
   rw [Sem.run_bind,hg,Result.andThen_ok]
   have : ¬ (((a.size + b.size : Nat) : Int) > IntKind.i64.max) := by
    have hm : IntKind.i64.max = 9223372036854775807 := by decide
    rw [hm]; omega
   simp only [binOp,Op.stringOp,if_neg this,Sem.run_pure]
  all_goals
   refine ⟨_,_,h,by simp [AV]; rfl,fun w' => ?_⟩
   rw [Sem.run_bind,hg,Result.andThen_ok]
   simp [binOp,Op.stringOp]
 ·split at h
  ·rename_i cs ds hti ti ht
   obtain ⟨hc,h'⟩ := chk_some h
   clear h
   simp only [Bool.and_eq_true,Bool.not_eq_true',beq_iff_eq] at hc
   obtain ⟨⟨⟨c1,c2⟩,c3⟩,c4⟩ := hc
   split at h'
   ·rename_i q hq
    have hh := fun w' => bin_agg hT ht hx hy X Y c1 c2 c3 c4 hq w'
    split at h'
    ·exact ⟨_,_,h',by simp [AV],fun w' => (hh w').1⟩
    ·exact ⟨_,_,h',by simp [AV],fun w' => (hh w').2⟩
    ·cases h'
   ·cases h'
  ·cases h
 ·cases h
end
end Go.Rv
namespace Go.Rv
section
variable {w : World} {C : Col} {R Al : Nat → Prop} {H : Nat → Value} {P : Program} {S : Upd}

theorem geti_some {α : Type} {xs : List α} {i : Int} {x : α} (h : geti xs i = some x) : 0 ≤ i ∧ xs[i.toNat]? = some x ∧ i < (xs.length : Int) := by
 unfold geti at h
 split at h
 ·rename_i h0
  refine ⟨h0,h,?_⟩
  have := (List.getElem?_eq_some_iff.1 h).1
  omega
 ·cases h

theorem run_indexAt_slice {t e : TypeId} {k : IntKind} {i : Int} {a : Addr} {n c s : Nat} (hu : P.underlying t = some (.slice e)) (hs : ∀ w,(sizeOf e).run P w = .ok s w) (h0 : 0 ≤ i) (h1 : i < n) (w' : World) :
  (Instr.indexAt t (.slice (some a) n c) (.int k i)).run P w' = .ok (.pointer (some (a.add (i.toNat * s)))) w' := by
 simp [Instr.indexAt,asIntOf,run_underlying hu,h0,h1,hs]

theorem Lst.cut {α : Type} {f : α → List Value → Prop} {s : Nat} (h : ∀ x c,f x c → c.length = s) : ∀ (lo n : Nat) (xs : List α) (b b' : Nat) (fl : List Value),Lst (fun _ x c => f x c) b xs fl →
  Lst (fun _ x c => f x c) b' ((xs.drop lo).take n) ((fl.drop (lo * s)).take (n * s))
 | lo + 1,n,[],b,b',fl,hl => by rw [show fl = [] from hl]; simp [Lst]
 | lo + 1,n,x :: xs,b,b',_,⟨c,r,he,hf,hr⟩ => by
  have := Lst.cut h lo n xs (b + 1) b' r hr
  have e1 : (c ++ r).drop (c.length + lo * s) = r.drop (lo * s) := by rw [← List.drop_drop,List.drop_left]
  rw [he,show (lo + 1) * s = c.length + lo * s from by rw [h _ _ hf,Nat.add_mul]; omega,e1,List.drop_succ_cons]
  exact this
 | 0,0,xs,b,b',fl,hl => by simp [Lst]
 | 0,n + 1,[],b,b',fl,hl => by rw [show fl = [] from hl]; simp [Lst]
 | 0,n + 1,x :: xs,b,b',_,⟨c,r,he,hf,hr⟩ => by
  have := Lst.cut h 0 n xs (b + 1) (b' + 1) r hr
  simp only [Nat.zero_mul,List.drop_zero] at this ⊢
  rw [he,List.take_succ_cons]
  refine ⟨c,_,?_,hf,this⟩
  have hc := h _ _ hf
  rw [List.take_append,List.take_of_length_le (by rw [hc,Nat.add_mul]; omega),hc,Nat.add_mul,Nat.one_mul,Nat.add_sub_cancel]

theorem Lst.any {w : World} {R : Nat → Prop} {e : Kd} : ∀ (xs : List e.ty) (b : Nat) (p : Nat → List Nat) (fl : List Value),Lst (fun j x c => Rp w noC R 0 e x (p j) c) b xs fl → Lst (fun _ x c => Rp w noC R 0 e x [] c) b xs fl :=
 fun xs b _ fl h => Lst.imp (fun _ _ _ hx => noC_path _ _ _ _ _ hx) xs b fl h

theorem Lst.some {w : World} {R : Nat → Prop} {e : Kd} : ∀ (xs : List e.ty) (b : Nat) (p : Nat → List Nat) (fl : List Value),Lst (fun _ x c => Rp w noC R 0 e x [] c) b xs fl → Lst (fun j x c => Rp w noC R 0 e x (p j) c) b xs fl :=
 fun xs b _ fl h => Lst.imp (fun _ _ _ hx => noC_path _ _ _ _ _ hx) xs b fl h

theorem At.cut {a : Addr} {fl : List Value} (h : At w R a fl) (d n : Nat) : At w R (a.add d) ((fl.drop d).take n) := by
 refine ⟨?_,?_,fun j u hj => ?_⟩
 ·unfold Addr.add; split
  ·exact h.1
  ·rfl
 ·have : (a.add d).block = a.block := by unfold Addr.add; split <;> rfl
  rw [this]; exact h.2.1
 ·rw [Addr.add_add]
  apply h.2.2
  rw [List.getElem?_take] at hj
  split at hj
  ·rw [List.getElem?_drop] at hj; exact hj
  ·cases hj

theorem Rp.cut {e : Kd} {xs : List e.ty} {A : Option Addr} {N c lo n m : Nat} (h : Rp w noC R 0 (.sl none e) xs [] [.slice A N c]) (hm : n ≤ m) :
  N = xs.length ∧ N ≤ c ∧ Rp w noC R 0 (.sl none e) ((xs.drop lo).take n) [] [.slice (if m = 0 then A else A.map (·.add (lo * e.size))) ((xs.drop lo).take n).length m] := by
 obtain ⟨A',n',c',fl,he,hn,hc',hl,hat⟩ := h
 simp only [List.cons.injEq,Value.slice.injEq,and_true] at he
 obtain ⟨rfl,rfl,rfl⟩ := he
 refine ⟨hn,hc',⟨_,_,_,(fl.drop (lo * e.size)).take (n * e.size),rfl,rfl,?_,Lst.some _ _ _ _ (Lst.cut (fun x c hx => Rp.length _ _ _ _ hx) lo n xs 0 0 fl (Lst.any _ _ _ _ hl)),?_⟩⟩
 ·rw [List.length_take]; omega
 ·rcases hat with hat | ⟨a,rfl,hat⟩
  ·subst hat; left; simp
  ·by_cases h0 : m = 0
   ·left
    rw [show n = 0 from by omega]; simp
   ·right
    rw [if_neg h0]
    exact ⟨a.add (lo * e.size),rfl,hat.cut _ _⟩

variable (hx : Ctx w C R Al H S)
include hx

theorem row_len {i t' : Nat} {e : Kd} {xs : List e.ty} (hr : getS S i = .row t' e xs) : (∃ A,H i = .slice A 0 0 ∧ xs = []) ∨ ∃ g c,H i = .slice (some ⟨g,0,none⟩) xs.length c ∧ 0 < c ∧ xs.length ≤ c := by
 obtain ⟨_,fl,ho,_,_⟩ := row_ok hx hr
 rcases ho.2 with ⟨A,hv,hn⟩ | ⟨g,cap,cur,hv,h0,_,hc,_⟩
 ·exact .inl ⟨A,hv,List.length_eq_zero_iff.1 hn⟩
 ·exact .inr ⟨g,cap,hv,h0,hc⟩

theorem vw_row {i s lo n t' : Nat} {e : Kd} {xs : List e.ty} {v : Value} (ha : AV w R Al H (.vw i s lo n) v) (hr : getS S i = .row t' e xs) :
  (∃ A,xs = [] ∧ lo = 0 ∧ n = 0 ∧ v = .slice A 0 0 ∧ H i = .slice A 0 0) ∨ ∃ g c A,H i = .slice (some ⟨g,0,none⟩) xs.length c ∧ 0 < c ∧ lo + n ≤ xs.length ∧ xs.length ≤ c ∧ v = .slice (some A) n (c - lo) ∧ (c - lo ≠ 0 → A = ⟨g,lo * s,none⟩) ∧ (lo = 0 → A = ⟨g,0,none⟩) := by
 simp only [AV] at ha
 obtain ⟨_,ha⟩ := ha
 rcases row_len hx hr with ⟨A0,h1,h2⟩ | ⟨g,c,h1,h0,h2⟩
 ·rcases ha with ⟨A,a1,a2,a3,a4⟩ | ⟨g,N,c,A,a1,a0,_⟩
  ·exact .inl ⟨A,h2,a2,a3,a4,a1⟩
  ·rw [h1] at a1; simp at a1; omega
 ·rcases ha with ⟨A,a1,_⟩ | ⟨g',N,c',A,a1,a0,a2,a3,a4,a5⟩
  ·rw [h1] at a1; simp at a1; omega
  ·rw [h1] at a1
   simp only [Value.slice.injEq,Option.some.injEq,Addr.mk.injEq,and_true] at a1
   obtain ⟨rfl,rfl,rfl⟩ := a1
   exact .inr ⟨g,c,A,h1,h0,a2,h2,a4,a5⟩

theorem vw_fro {i s lo n : Nat} {e : Kd} {xs : List e.ty} {v : Value} (ha : AV w R Al H (.vw i s lo n) v) (hr : getS S i = .fro e xs) (hs : s = e.size) :
  lo + n ≤ xs.length ∧ AV w R Al H (.sl e ((xs.drop lo).take n)) v := by
 have hent := hx.ent i
 rw [hr] at hent
 simp only [EntOK] at hent
 simp only [AV] at ha ⊢
 obtain ⟨_,ha⟩ := ha
 rcases ha with ⟨A,a1,a2,a3,a4⟩ | ⟨g,N,c,A,a1,a0,a2,a3,a4,a5,_⟩
 ·rw [a1] at hent
  obtain ⟨q1,_,q3⟩ := Rp.cut (lo := lo) (n := n) (m := 0) hent (by omega)
  subst a2 a3
  refine ⟨by omega,?_⟩
  rw [a4]
  simpa using q3
 ·rw [a1] at hent
  obtain ⟨q1,_,q3⟩ := Rp.cut (lo := lo) (n := n) (m := c - lo) hent (by omega)
  refine ⟨by omega,?_⟩
  have hl : ((xs.drop lo).take n).length = n := by rw [List.length_take,List.length_drop]; omega
  rw [hl] at q3
  subst a4
  by_cases h0 : c - lo = 0
  ·have hn : n = 0 := by omega
   rw [h0]
   subst hn
   exact ⟨_,_,_,[],rfl,by simp,Nat.zero_le _,by simp [Lst],.inl (by simp)⟩
  ·rw [if_neg h0] at q3
   simp only [Option.map_some,Addr.add_lit,Nat.zero_add] at q3
   rw [a5 h0,hs]
   exact q3

theorem indexA_ok {α : Type} {T : Tab} (hT : TabOK P T) {t : TypeId} {ti te : TI} (ht : T.get t = some ti) (hte : T.get ti.elem = some te) (hnz : ti.elem ≠ 0) {x ix : AVal} {cx ci : Value}
  (ha : AV w R Al H x cx) (hi : AV w R Al H ix ci) {k : AVal → Option α} {r : α} (h : indexA S te.size x ix k = some r) :
  ∃ v cv,k v = some r ∧ AV w R Al H v cv ∧ Yld P w (Instr.indexAt t cx ci) cv := by
 obtain ⟨i1,d1,z1,r1⟩ := hT.row ht
 obtain ⟨i2,d2,z2,r2⟩ := hT.row hte
 have hu : P.underlying t = some (.slice ti.elem) := by
  have := r1.elem
  have hd := r1.und
  cases d1 <;> simp_all [elemD]
 have hs : ∀ w,(sizeOf ti.elem).run P w = .ok te.size w := r2.run_size
 unfold indexA at h
 split at h
 ·rename_i ik i
  simp only [AV] at hi
  subst hi
  have rdo : ∀ (e : Kd) (xs : List e.ty) (cx : Value),AV w R Al H (.sl e xs) cx → chk (Nat.beq te.size e.size) ((geti xs i).bind fun y => k (.pel e y 0)) = some r → ∃ v cv,k v = some r ∧ AV w R Al H v cv ∧ Yld P w (Instr.indexAt t cx (.int ik i)) cv := by
   intro e xs cx ha h
   obtain ⟨hc,h'⟩ := chk_some h
   clear h
   have hc := Nat.eq_of_beq_eq_true hc
   cases hg : geti xs i with
   | none => rw [hg] at h'; cases h'
   | some y =>
    rw [hg] at h'
    obtain ⟨h0,h1,h2⟩ := geti_some hg
    simp only [AV] at ha
    obtain ⟨A,n,c,fl,he,hn,hc',hl,hat⟩ := ha
    simp only [List.cons.injEq,and_true] at he
    subst he hn
    rcases hat with hat | ⟨a,rfl,hat⟩
    ·subst hat; simp at h1
    ·have hel := Lst.get (s := e.size) (fun j x c hx => Rp.length _ _ _ _ hx) xs 0 fl hl _ y h1
     refine ⟨_,_,h',?_,fun w' hw' => run_indexAt_slice hu hs h0 h2 w'⟩
     simp only [AV]
     refine ⟨a.add (i.toNat * te.size),(fl.drop (i.toNat * e.size)).take e.size,by rw [Addr.add_zero'],⟨?_,?_,fun j u hj => ?_⟩,noC_path _ _ _ _ _ hel⟩
     ·unfold Addr.add; split
      ·exact hat.1
      ·rfl
     ·have : (a.add (i.toNat * te.size)).block = a.block := by unfold Addr.add; split <;> rfl
      rw [this]; exact hat.2.1
     ·rw [Addr.add_add]
      apply hat.2.2
      rw [List.getElem?_take] at hj
      split at hj
      ·rw [List.getElem?_drop] at hj; rw [hc]; exact hj
      ·cases hj
  have rowc : ∀ {rr : Nat} {cx : Value},AV w R Al H (.ref rr) cx → ∀ (t' : Nat) (e : Kd) (xs : List e.ty),Rp w C R rr (.sl (some t') e) xs [] [H rr] → chk (Nat.beq te.size e.size) ((geti xs i).bind fun _ => k (.eptr rr te.size i.toNat 0)) = some r → ∃ v cv,k v = some r ∧ AV w R Al H v cv ∧ Yld P w (Instr.indexAt t cx (.int ik i)) cv := by
   intro rr cx ha t' e xs hrp h
   obtain ⟨hc,h'⟩ := chk_some h
   clear h
   have hc := Nat.eq_of_beq_eq_true hc
   cases hg : geti xs i with
   | none => rw [hg] at h'; cases h'
   | some y =>
    rw [hg] at h'
    obtain ⟨h0,h1,h2⟩ := geti_some hg
    obtain ⟨g,n,c,fl,q1,q2,q3,q4,q5,q6⟩ := rp_elem hx hrp h1
    obtain ⟨fl',ho,_,_⟩ := rp_row hrp
    simp only [AV] at ha
    obtain ⟨hal,rfl⟩ := ha
    have hn : n = xs.length := by
     rcases ho.2 with ⟨A,hv,hn⟩ | ⟨g',cap,cur,hv,_⟩
     ·rw [q1] at hv; simp only [Value.slice.injEq] at hv; omega
     ·rw [q1] at hv; simp only [Value.slice.injEq] at hv; exact hv.2.1
    refine ⟨_,_,h',?_,fun w' hw' => by rw [q1,hn]; exact run_indexAt_slice hu hs h0 h2 w'⟩
    simp only [AV]
    exact ⟨hal,g,n,c,q1,by simp [Addr.add_lit]⟩
  split at h
  ·rename_i e xs
   exact rdo e xs cx ha h
  ·rename_i rr
   have rowc := fun t' e xs => rowc (rr := rr) ha t' e xs
   split at h
   ·rename_i t' e xs hr
    have hent := hx.ent rr
    rw [hr] at hent
    exact rowc t' e xs hent h
   ·rename_i t' e ver xs hr
    exact rowc t' e xs (nrow_ok hx hr).2.1 h
   ·rename_i e xs hr
    obtain ⟨hc,h'⟩ := chk_some h
    clear h
    have hc := Nat.eq_of_beq_eq_true hc
    cases hg : geti xs i with
    | none => rw [hg] at h'; cases h'
    | some y =>
     rw [hg] at h'
     obtain ⟨h0,h1,h2⟩ := geti_some hg
     have hent := hx.ent rr
     rw [hr] at hent
     simp only [AV] at ha
     obtain ⟨_,rfl⟩ := ha
     simp only [EntOK] at hent
     obtain ⟨A,n,c,fl,he,hn,hc',hl,hat⟩ := hent
     simp only [List.cons.injEq,and_true] at he
     subst hn
     rcases hat with hat | ⟨a,rfl,hat⟩
     ·subst hat; simp at h1
     ·have hel := Lst.get (s := e.size) (fun j x c hx => Rp.length _ _ _ _ hx) xs 0 fl hl _ y h1
      refine ⟨_,_,h',?_,fun w' hw' => by rw [he]; exact run_indexAt_slice hu hs h0 h2 w'⟩
      simp only [AV]
      refine ⟨a.add (i.toNat * te.size),(fl.drop (i.toNat * e.size)).take e.size,by rw [Addr.add_zero'],⟨?_,?_,fun j u hj => ?_⟩,noC_path _ _ _ _ _ hel⟩
      ·unfold Addr.add; split
       ·exact hat.1
       ·rfl
      ·have : (a.add (i.toNat * te.size)).block = a.block := by unfold Addr.add; split <;> rfl
       rw [this]; exact hat.2.1
      ·rw [Addr.add_add]
       apply hat.2.2
       rw [List.getElem?_take] at hj
       split at hj
       ·rw [List.getElem?_drop] at hj; rw [hc]; exact hj
       ·cases hj
   ·cases h
  ·rename_i rr s lo n
   split at h
   ·rename_i t' e xs hr
    obtain ⟨hc,h'⟩ := chk_some h
    clear h
    simp only [Bool.and_eq_true] at hc
    have hc1 := Nat.eq_of_beq_eq_true hc.1
    have hc2 := Nat.eq_of_beq_eq_true hc.2
    cases hg : geti ((xs.drop lo).take n) i with
    | none => rw [hg] at h'; cases h'
    | some y =>
     rw [hg] at h'
     obtain ⟨h0,h1,h2⟩ := geti_some hg
     rcases vw_row hx ha hr with ⟨A,v1,v2,v3,v4,_⟩ | ⟨g,c,A,v1,v0,v2,v3,v4,v5,_⟩
     ·subst v1; simp at h1
     ·have hl : ((xs.drop lo).take n).length = n := by rw [List.length_take,List.length_drop]; omega
      rw [hl] at h2
      have hcl : ¬ c - lo = 0 := by omega
      rw [v5 hcl] at v4
      have hal : Al rr := by simp only [AV] at ha; exact ha.1
      refine ⟨_,_,h',?_,fun w' hw' => by rw [v4]; exact run_indexAt_slice hu hs h0 h2 w'⟩
      simp only [AV]
      exact ⟨hal,g,_,c,v1,by rw [Addr.add_lit,hc2,hc1,Nat.add_mul,Nat.add_zero]⟩
   ·rename_i e xs hr
    obtain ⟨hc,h'⟩ := chk_some h
    simp only [Bool.and_eq_true] at hc
    obtain ⟨_,q2⟩ := vw_fro hx ha hr (Nat.eq_of_beq_eq_true hc.2)
    exact rdo e _ cx q2 (by rw [hc.1]; exact h')
   ·cases h
  ·cases h
 ·cases h

theorem lenA_ok {R1 : Nat → Prop} {x v : AVal} {cx : Value} (ha : AV w R1 Al H x cx) (h : lenA S x = some v) {t ty : TypeId} (_ : ∃ d,P.underlying t = some d ∧ (d = .string ∨ ∃ e,d = .slice e)) (hty : ∀ s,x = .str s → P.underlying t = some .string) (hsl : (∀ s,x ≠ .str s) → ∃ e,P.underlying t = some (.slice e)) :
  ∃ cv,AV w R Al H v cv ∧ Yld P w (Builtin.len_ #[t] ty #[cx]) cv := by
 have sl : ∀ (A : Option Addr) (n c : Nat),(∃ e,P.underlying t = some (.slice e)) → ∀ w',(Builtin.len_ #[t] ty #[.slice A n c]).run P w' = .ok (goInt n) w' := by
  rintro A n c ⟨e,he⟩ w'
  simp [Builtin.len_,run_underlying he]
 have rown : ∀ {i t' : Nat} {e : Kd} {xs : List e.ty},Rp w C R i (.sl (some t') e) xs [] [H i] → ∃ A c,H i = .slice A xs.length c := by
  intro i t' e xs hr
  obtain ⟨fl,ho,_,_⟩ := rp_row hr
  rcases ho.2 with ⟨A,hv,hn⟩ | ⟨g,cap,cur,hv,_⟩
  ·exact ⟨A,0,by rw [hv,hn]⟩
  ·exact ⟨_,_,hv⟩
 unfold lenA at h
 split at h
 ·simp only [Option.some.injEq] at h
  subst h
  simp only [AV] at ha
  subst ha
  exact ⟨goInt (0 : Nat),by simp [AV,goInt],fun w' _ => sl none 0 0 (hsl (by intro s h; cases h)) w'⟩
 ·simp only [Option.some.injEq] at h
  subst h
  simp only [AV] at ha
  obtain ⟨a,ha⟩ := ha
  subst ha
  exact ⟨goInt (0 : Nat),by simp [AV,goInt],fun w' _ => sl _ 0 0 (hsl (by intro s h; cases h)) w'⟩
 ·simp only [Option.some.injEq] at h
  subst h
  simp only [AV] at ha
  obtain ⟨_,ha⟩ := ha
  rcases ha with ⟨A,a1,a2,a3,a4⟩ | ⟨g,N,c,A,a1,a0,a2,a3,a4,_⟩
  ·subst a4; exact ⟨goInt (0 : Nat),by simp [AV,goInt,a3],fun w' _ => sl _ 0 0 (hsl (by intro s h; cases h)) w'⟩
  ·subst a4; exact ⟨_,by simp [AV]; rfl,fun w' _ => sl _ _ _ (hsl (by intro s h; cases h)) w'⟩
 ·simp only [Option.some.injEq] at h
  subst h
  simp only [AV] at ha
  obtain ⟨A,n,c,fl,he,hn,_⟩ := ha
  simp only [List.cons.injEq,and_true] at he
  subst he hn
  exact ⟨_,by simp [AV,lenI]; rfl,fun w' _ => sl A _ c (hsl (by intro s h; cases h)) w'⟩
 ·rename_i i
  simp only [AV] at ha
  obtain ⟨_,rfl⟩ := ha
  split at h
  ·rename_i t' e xs hr
   simp only [Option.some.injEq] at h
   subst h
   have hent := hx.ent i
   rw [hr] at hent
   obtain ⟨A,c,hv⟩ := rown hent
   rw [hv]
   exact ⟨_,by simp [AV,lenI]; rfl,fun w' _ => sl A _ c (hsl (by intro s h; cases h)) w'⟩
  ·rename_i t' e ver xs hr
   simp only [Option.some.injEq] at h
   subst h
   obtain ⟨A,c,hv⟩ := rown (nrow_ok hx hr).2.1
   rw [hv]
   exact ⟨_,by simp [AV,lenI]; rfl,fun w' _ => sl A _ c (hsl (by intro s h; cases h)) w'⟩
  ·rename_i e xs hr
   simp only [Option.some.injEq] at h
   subst h
   have hent := hx.ent i
   rw [hr] at hent
   simp only [EntOK] at hent
   obtain ⟨A,n,c,fl,he,hn,_⟩ := hent
   simp only [List.cons.injEq,and_true] at he
   rw [he,hn]
   exact ⟨_,by simp [AV,lenI]; rfl,fun w' _ => sl A _ c (hsl (by intro s h; cases h)) w'⟩
  ·cases h
 ·rename_i s
  simp only [Option.some.injEq] at h
  subst h
  simp only [AV] at ha
  subst ha
  refine ⟨_,by simp [AV]; rfl,fun w' _ => ?_⟩
  simp [Builtin.len_,run_underlying (hty s rfl),goInt]
 ·cases h
end
end Go.Rv
namespace Go.Rv

theorem castL_some {e e' : Kd} {xs : List e'.ty} {ys : List e.ty} (h : castL e e' xs = some ys) : ∃ he : e' = e,he ▸ xs = ys := by
 unfold castL at h
 split at h
 ·rename_i he; exact ⟨he,by simpa using h⟩
 ·cases h

def Kd.toEr (k : Kd) (x : k.ty) : k.er.ty := cast k.er_ty.symm x

theorem castTy_fst {A A' B B' : Type} (h1 : A = A') (h2 : B = B') (h : (A × B) = (A' × B')) (x : A × B) : (cast h x).1 = cast h1 x.1 := by subst h1 h2; rfl
theorem castTy_snd {A A' B B' : Type} (h1 : A = A') (h2 : B = B') (h : (A × B) = (A' × B')) (x : A × B) : (cast h x).2 = cast h2 x.2 := by subst h1 h2; rfl
theorem cast_len {A B : Type} (h : A = B) (h' : List A = List B) (xs : List A) : (cast h' xs).length = xs.length := by subst h; rfl
theorem Lst.cast {A B : Type} (h : A = B) (h' : List A = List B) {f : Nat → B → List Value → Prop} (xs : List A) (j : Nat) (fl : List Value) (hl : Lst (fun j x c => f j (_root_.cast h x) c) j xs fl) : Lst f j (_root_.cast h' xs) fl := by
 subst h; exact hl

theorem castR_some {e e' : Kd} {xs : List e'.ty} {ys : List e.ty} (h : castR e e' xs = some ys) : ∃ he : e'.er = e,ys = cast (congrArg List (by rw [← he,Kd.er_ty])) xs := by
 unfold castR at h
 split at h
 ·rename_i he; exact ⟨he,by simpa using h.symm⟩
 ·cases h

theorem Kd.er_size : ∀ k : Kd,k.er.size = k.size
 | .int _ => rfl
 | .bool => rfl
 | .str => rfl
 | .sl _ _ => rfl
 | .one a => a.er_size
 | .pair a b => by show a.er.size + b.er.size = a.size + b.size; rw [a.er_size,b.er_size]

theorem Kd.er_of_ro : ∀ k : Kd,k.ro = true → k.er = k
 | .int _,_ => rfl
 | .bool,_ => rfl
 | .str,_ => rfl
 | .sl none e,h => by show Kd.sl none e.er = _; rw [e.er_of_ro h]
 | .sl (some _) _,h => by simp [Kd.ro] at h
 | .one a,h => by show Kd.one a.er = _; rw [a.er_of_ro h]
 | .pair a b,h => by
  have : a.ro = true ∧ b.ro = true := by
   simp only [Kd.ro] at h
   cases ha : a.ro <;> simp_all
  show Kd.pair a.er b.er = _
  rw [a.er_of_ro this.1,b.er_of_ro this.2]

theorem Rp.read {w : World} {C : Col} {R R' : Nat → Prop} {i : Nat} (hR : ∀ b,R b → R' b) (hC : ∀ b p,C b = some (i,p) → R' b) :
  ∀ (k : Kd) (x : k.ty) (p q : List Nat) (cs : List Value),Rp w C R i k x p cs → Rp w noC R' 0 k.er (k.toEr x) q cs := by
 intro k
 induction k with
 | int k => intro x p q cs h; exact h
 | bool => intro x p q cs h; exact h
 | str => intro x p q cs h; exact h
 | one a ih => intro x p q cs h; exact ih x p q cs h
 | pair a b iha ihb =>
  intro x p q cs h
  obtain ⟨c1,c2,he,h1,h2⟩ := h
  refine ⟨c1,c2,he,?_,?_⟩
  ·have := iha x.1 _ (0 :: q) _ h1
   unfold Kd.toEr at this ⊢
   rwa [castTy_fst a.er_ty.symm b.er_ty.symm]
  ·have := ihb x.2 _ (1 :: q) _ h2
   unfold Kd.toEr at this ⊢
   rwa [castTy_snd a.er_ty.symm b.er_ty.symm]
 | sl o e ih =>
  intro xs p q cs h
  have hlen : (Kd.toEr (.sl o e) xs).length = xs.length := cast_len e.er_ty.symm _ xs
  cases o with
  | none =>
   obtain ⟨A,n,c,fl,he,hn,hc,hl,ha⟩ := h
   refine ⟨A,n,c,fl,he,hn.trans hlen.symm,hc,Lst.cast e.er_ty.symm _ xs 0 fl (Lst.imp (fun j x c hx => ih x (j :: p) (j :: q) c hx) _ _ _ hl),?_⟩
   rcases ha with ha | ⟨a,ha,hat⟩
   ·exact .inl (List.eq_nil_of_length_eq_zero (by rw [hlen,ha]; rfl))
   ·exact .inr ⟨a,ha,hat.1,hR _ hat.2.1,hat.2.2⟩
  | some t =>
   obtain ⟨v,fl,he,ho,hc,hl⟩ := h
   have hl' := Lst.cast e.er_ty.symm (congrArg List e.er_ty.symm) (f := fun j x c => Rp w noC R' 0 e.er x (j :: q) c) xs 0 fl (Lst.imp (fun j x c hx => ih x (j :: p) (j :: q) c hx) _ _ _ hl)
   rcases ho.2 with ⟨A,hv,hn⟩ | ⟨g,cap,cur,hv,hb,hg,hnc,hcm,hcs,htk⟩
   ·exact ⟨A,0,0,fl,by rw [he,hv],by rw [hlen,hn],Nat.le_refl _,hl',.inl (List.eq_nil_of_length_eq_zero (by rw [hlen,hn]))⟩
   ·refine ⟨some ⟨g,0,none⟩,xs.length,cap,fl,by rw [he,hv],hlen.symm,hnc,hl',.inr ⟨⟨g,0,none⟩,rfl,rfl,hC g p (hc g (by rw [hv]; exact ownB_of hb)),fun j u hj => ?_⟩⟩
    have ho := ho.row (g := g) (by rw [hv]; exact ownB_of hb)
    rw [hv] at ho
    exact ho.cells (g := g) rfl j u hj

def IsRow (S : Upd) (j : Nat) : Prop := (∃ t,∃ (e : Kd) (ys : List e.ty),getS S j = .row t e ys) ∨ (∃ t,∃ (e : Kd) (v : Nat) (ys : List e.ty),getS S j = .nrow t e v ys) ∨ ∃ m t,∃ (e : Kd) (ys : List e.ty),getS S m = .nrow t e j ys

theorem IsRow.row {S : Upd} {j t : Nat} {e : Kd} {xs : List e.ty} (h : getS S j = .row t e xs) : IsRow S j := .inl ⟨t,e,xs,h⟩
theorem IsRow.nrow {S : Upd} {j t v : Nat} {e : Kd} {xs : List e.ty} (h : getS S j = .nrow t e v xs) : IsRow S j := .inr (.inl ⟨t,e,v,xs,h⟩)
theorem IsRow.al {w : World} {C : Col} {R Al : Nat → Prop} {H : Nat → Value} {S : Upd} (hx : Ctx w C R Al H S) {j : Nat} (h : IsRow S j) : Al j := by
 rcases h with ⟨t,e,ys,hr⟩ | ⟨t,e,v,ys,hr⟩ | ⟨m,t,e,ys,hr⟩
 ·exact hx.al j (by rw [hr]; simp)
 ·exact hx.al j (by rw [hr]; simp)
 ·exact (nrow_ok hx hr).2.2.1
theorem IsRow.not_box {w : World} {C : Col} {R Al : Nat → Prop} {H : Nat → Value} {S : Upd} (hx : Ctx w C R Al H S) {j : Nat} (h : IsRow S j) {cs : List AVal} : getS S j ≠ .box cs := by
 intro hb
 rcases h with ⟨t,e,ys,hr⟩ | ⟨t,e,v,ys,hr⟩ | ⟨m,t,e,ys,hr⟩
 ·rw [hb] at hr; cases hr
 ·rw [hb] at hr; cases hr
 ·obtain ⟨_,b,_,_,h1,_⟩ := box_ok hx hb
  exact (nrow_ok hx hr).2.2.2.1 _ h1

def Rows (S : Upd) (C : Col) (R : Nat → Prop) (b : Nat) : Prop := R b ∨ ∃ i p,C b = some (i,p) ∧ IsRow S i

theorem ownAt_get : ∀ (k : Kd) (o t : Nat) (e : Kd),ownAt k o = some (t,e) → ∀ (x : k.ty) (ys : List e.ty),getC k x o e = some ys → ∀ {w : World} {C : Col} {R : Nat → Prop} {i : Nat} (p : List Nat) (cs : List Value),Rp w C R i k x p cs →
  ∃ v q,cs[o]? = some v ∧ Rp w C R i (.sl (some t) e) ys (q ++ p) [v]
 | .int _,o,t,e,h,x,ys,hg => by cases o <;> simp [ownAt] at h
 | .bool,o,t,e,h,x,ys,hg => by cases o <;> simp [ownAt] at h
 | .str,o,t,e,h,x,ys,hg => by cases o <;> simp [ownAt] at h
 | .sl none _,o,t,e,h,x,ys,hg => by cases o <;> simp [ownAt] at h
 | .sl (some t') e',o,t,e,h,x,ys,hg => by
  cases o with
  | succ o => simp [ownAt] at h
  | zero =>
   simp only [ownAt,Option.some.injEq,Prod.mk.injEq] at h
   obtain ⟨rfl,rfl⟩ := h
   simp only [getC] at hg
   obtain ⟨he,hys⟩ := castL_some hg
   simp only at hys
   subst hys
   intro p cs hr
   have hr' := hr
   obtain ⟨v,fl,hcs,r⟩ := hr'
   exact ⟨v,[],by rw [hcs]; rfl,by rw [hcs] at hr; exact hr⟩
 | .one a,o,t,e,h,x,ys,hg => fun p cs hr => ownAt_get a o t e h x ys hg p cs hr
 | .pair a b,o,t,e,h,x,ys,hg => by
  intro p cs hr
  obtain ⟨c1,c2,hcs,h1,h2⟩ := hr
  have l1 := Rp.length _ _ _ _ h1
  simp only [ownAt] at h
  simp only [getC] at hg
  cases hb : Nat.blt o a.size
  ·rw [hb] at h hg
   have hn : ¬ o < a.size := by rw [← Nat.blt_eq,hb]; simp
   obtain ⟨v,q,e1,e2⟩ := ownAt_get b _ t e h x.2 ys hg _ _ h2
   refine ⟨v,q ++ [1],?_,by rw [List.append_assoc]; exact e2⟩
   rw [hcs,List.getElem?_append_right (by omega),l1]; exact e1
  ·rw [hb] at h hg
   rw [Nat.blt_eq] at hb
   obtain ⟨v,q,e1,e2⟩ := ownAt_get a _ t e h x.1 ys hg _ _ h1
   refine ⟨v,q ++ [0],?_,by rw [List.append_assoc]; exact e2⟩
   rw [hcs,List.getElem?_append_left (by omega)]; exact e1

section
variable {w : World} {C : Col} {R Al : Nat → Prop} {H : Nat → Value} {P : Program} {S : Upd} (hx : Ctx w C R Al H S)
include hx

theorem subV_ok {v : AVal} {cv : Value} (ha : AV w R Al H v cv) {α : Type} {k : AVal → Option α} {r : α} (h : subV S v k = some r) : ∃ v',k v' = some r ∧ AV w (Rows S C R) Al H v' cv := by
 have old : ∀ {v cv},AV w R Al H v cv → AV w (Rows S C R) Al H v cv := fun {v cv} h => AV.mono (fun b hb => ⟨.inl hb,rfl⟩) (fun i hi => ⟨hi,rfl⟩) _ _ h
 unfold subV at h
 split at h
 ·rename_i i ver s j off
  split at h
  ·rename_i t e ver' xs hr
   obtain ⟨hc,h'⟩ := chk_some h
   clear h
   simp only [Bool.and_eq_true] at hc
   have hv := Nat.eq_of_beq_eq_true hc.1
   have hs := Nat.eq_of_beq_eq_true hc.2
   subst hv hs
   cases hj : xs[j]? with
   | none => rw [hj] at h'; cases h'
   | some x =>
    rw [hj] at h'
    simp only [Option.bind_some] at h'
    split at h'
    ·rename_i t' e' ho
     split at h'
     ·rename_i ys hg
      split at h'
      ·rename_i zs hz
       obtain ⟨he,hzs⟩ := castR_some hz
       obtain ⟨_,hrp,hver,hhd⟩ := nrow_ok hx hr
       obtain ⟨g,n,c,fl,q1,q2,q3,q4,q5,q6⟩ := rp_elem hx hrp hj
       have hjl : j < xs.length := (List.getElem?_eq_some_iff.1 hj).1
       have hcell := Heads.elem hrp hhd q1 hjl q4 q6 off (by rw [ho]; rfl)
       obtain ⟨u,q,f1,f2⟩ := ownAt_get e off t' e' ho x ys hg _ _ q5
       rw [hcell] at f1
       simp only [Option.some.injEq] at f1
       simp only [AV] at ha
       obtain ⟨_,_,ha⟩ := ha
       rw [← f1,← ha] at f2
       refine ⟨_,h',?_⟩
       simp only [AV]
       have := Rp.read (R' := Rows S C R) (fun b hb => .inl hb) (fun b p hb => .inr ⟨i,p,hb,IsRow.nrow hr⟩) _ _ _ [] _ f2
       rw [hzs]
       exact this
      ·cases h'
     ·cases h'
    ·cases h'
  ·cases h
 ·exact ⟨_,h,old ha⟩

theorem subVs_ok : ∀ (vs : List AVal) (cvs : List Value),AVs w R Al H vs cvs → ∀ {α : Type} (k : List AVal → Option α) (r : α),subVs S vs k = some r → ∃ vs',k vs' = some r ∧ AVs w (Rows S C R) Al H vs' cvs
 | [],cvs,ha,_,k,r,h => ⟨[],h,by simpa [AVs] using ha⟩
 | v :: vs,cvs,ha,_,k,r,h => by
  simp only [AVs] at ha
  obtain ⟨c,rr,rfl,h1,h2⟩ := ha
  obtain ⟨v',g1,g2⟩ := subV_ok hx h1 h
  obtain ⟨vs',g3,g4⟩ := subVs_ok vs rr h2 _ _ g1
  exact ⟨v' :: vs',g3,by simp only [AVs]; exact ⟨_,_,rfl,g2,g4⟩⟩

theorem subAs_ok : ∀ (vs : List AVal) (cvs : List Value),AVs w R Al H vs cvs → ∀ {α : Type} (k : List AVal → Option α) (r : α),subAs S vs k = some r → ∃ vs',k vs' = some r ∧ AVs w (Rows S C R) Al H vs' cvs
 | [],cvs,ha,_,k,r,h => ⟨[],h,by simpa [AVs] using ha⟩
 | v :: vs,cvs,ha,_,k,r,h => by
  simp only [AVs] at ha
  obtain ⟨c,rr,rfl,h1,h2⟩ := ha
  have one : ∀ (v : AVal),AV w R Al H v c → subV S v (fun v' => subAs S vs fun vs' => k (v' :: vs')) = some r → ∃ vs',k vs' = some r ∧ AVs w (Rows S C R) Al H vs' (c :: rr) := by
   intro v h1 h
   obtain ⟨v',g1,g2⟩ := subV_ok hx h1 h
   obtain ⟨vs',g3,g4⟩ := subAs_ok vs rr h2 _ _ g1
   exact ⟨v' :: vs',g3,by simp only [AVs]; exact ⟨_,_,rfl,g2,g4⟩⟩
  cases v with
  | agg cs =>
   simp only [subAs] at h
   simp only [AV] at h1
   obtain ⟨us,rfl,h1⟩ := h1
   obtain ⟨cs',g1,g2⟩ := subVs_ok hx cs _ h1 _ _ h
   obtain ⟨vs',g3,g4⟩ := subAs_ok vs rr h2 _ _ g1
   exact ⟨.agg cs' :: vs',g3,by simp only [AVs,AV]; exact ⟨_,_,rfl,⟨us,rfl,g2⟩,g4⟩⟩
  | _ => exact one _ h1 h
end
end Go.Rv
namespace Go.Rv
section
variable {w : World} {C : Col} {R Al : Nat → Prop} {H : Nat → Value} {P : Program} {S : Upd}

theorem solid_cells {v : AVal} {c : Value} (h : AV w R Al H v c) (hu : solid v = true) (hH : ∀ i,Al i → (H i).cells = #[H i]) : AVs w R Al H (cellsV v) c.cells.toList := by
 cases v with
 | undef => simp [solid] at hu
 | tup _ => simp [solid] at hu
 | agg cs => simp only [AV] at h; obtain ⟨vs,rfl,h⟩ := h; exact h
 | int k n => simp only [AV] at h; subst h; simp [cellsV,AVs,AV,Value.cells]
 | bool k => simp only [AV] at h; subst h; simp [cellsV,AVs,AV,Value.cells]
 | str k => simp only [AV] at h; subst h; simp [cellsV,AVs,AV,Value.cells]
 | nil => simp only [AV] at h; subst h; simp [cellsV,AVs,AV,Value.cells]
 | pnil => simp only [AV] at h; subst h; simp [cellsV,AVs,AV,Value.cells]
 | sl e xs =>
  have h' := h
  simp only [AV] at h
  obtain ⟨A,n,c',fl,he,_⟩ := h
  simp only [List.cons.injEq,and_true] at he
  subst he
  simp only [cellsV,AVs,Value.cells]
  exact ⟨_,[],rfl,h',rfl⟩
 | sub i ver s j off =>
  have h' := h
  simp only [AV] at h
  rw [one_cells h.2.1]
  simp only [cellsV,AVs]
  exact ⟨_,[],rfl,h',rfl⟩
 | ref i =>
  have h' := h
  simp only [AV] at h
  obtain ⟨h1,rfl⟩ := h
  rw [hH i h1]
  simp only [cellsV,AVs]
  exact ⟨_,[],rfl,h',rfl⟩
 | ptr i o =>
  have h' := h
  simp only [AV] at h
  obtain ⟨h1,b,e1,rfl⟩ := h
  simp only [cellsV,AVs,Value.cells]
  exact ⟨_,[],rfl,h',rfl⟩
 | eptr i s j o =>
  have h' := h
  simp only [AV] at h
  obtain ⟨h1,b,n,c',e1,rfl⟩ := h
  simp only [cellsV,AVs,Value.cells]
  exact ⟨_,[],rfl,h',rfl⟩
 | pel e x o =>
  have h' := h
  simp only [AV] at h
  obtain ⟨a,fl,rfl,_⟩ := h
  simp only [cellsV,AVs,Value.cells]
  exact ⟨_,[],rfl,h',rfl⟩
 | fn f ps cs =>
  have h' := h
  simp only [AV] at h
  obtain ⟨us,vs,rfl,_⟩ := h
  simp only [cellsV,AVs,Value.cells]
  exact ⟨_,[],rfl,h',rfl⟩
 | vw i s lo n =>
  have h' := h
  simp only [AV] at h
  obtain ⟨_,h⟩ := h
  rcases h with ⟨_,_,_,_,rfl⟩ | ⟨g,N,c',A,_,_,_,_,rfl,_⟩
  ·simp only [cellsV,AVs,Value.cells]
   exact ⟨_,[],rfl,h',rfl⟩
  ·simp only [cellsV,AVs,Value.cells]
   exact ⟨_,[],rfl,h',rfl⟩
 | emp =>
  have h' := h
  simp only [AV] at h
  obtain ⟨a,rfl⟩ := h
  simp only [cellsV,AVs,Value.cells]
  exact ⟨_,[],rfl,h',rfl⟩

theorem fold_set_list : ∀ (vs : List Value) (off k : Nat) (cells : Array Value),off + k + vs.length ≤ cells.size →
  ((vs.zipIdx k).foldl (fun cs (p : Value × Nat) => cs.setIfInBounds (off + p.2) p.1) cells).toList = cells.toList.take (off + k) ++ vs ++ cells.toList.drop (off + k + vs.length)
 | [],off,k,cells,_ => by simp
 | v :: vs,off,k,cells,h => by
  simp only [List.zipIdx_cons,List.foldl_cons]
  simp only [List.length_cons] at h
  rw [fold_set_list vs off (k + 1) _ (by simp; omega)]
  simp only [Array.toList_setIfInBounds,List.length_cons]
  have hlt : off + k < cells.toList.length := by simp; omega
  rw [List.take_set,List.drop_set_of_lt (by omega)]
  rw [show off + (k + 1) = off + k + 1 from by omega,List.take_succ_eq_append_getElem hlt]
  rw [List.set_append_right _ _ (by simp; omega)]
  simp only [List.length_take,Nat.min_eq_left (Nat.le_of_lt hlt),Nat.sub_self,List.set_cons_zero,List.append_assoc,List.cons_append]
  rw [show off + k + 1 + vs.length = off + k + (vs.length + 1) from by omega]
  simp

theorem fold_set_arr (vs : Array Value) (off : Nat) (cells : Array Value) (h : off + vs.size ≤ cells.size) :
  (vs.zipIdx.foldl (fun cs (p : Value × Nat) => cs.setIfInBounds (off + p.2) p.1) cells).toList = cells.toList.take off ++ vs.toList ++ cells.toList.drop (off + vs.size) := by
 rw [← Array.foldl_toList,Array.toList_zipIdx]
 have := fold_set_list vs.toList off 0 cells (by simpa using h)
 simpa using this

theorem AVs.setSeg {cs vs : List AVal} {xs us : List Value} (h : AVs w R Al H cs xs) (h' : AVs w R Al H vs us) (off : Nat) : AVs w R Al H (setSeg cs off vs) (xs.take off ++ us ++ xs.drop (off + us.length)) := by
 unfold Rv.setSeg
 rw [AVs.length _ _ h']
 exact AVs.append _ _ _ _ (AVs.append _ _ _ _ (AVs.take _ _ _ h) h') (AVs.drop _ _ _ h)

theorem buildA_ok {st : St} {a : Act} (he : ∀ t,AV w R Al H (getE st.env t) (a.tmps.getD t undef)) (hH : ∀ i,Al i → (H i).cells = #[H i]) (flds : List (Nat × Nat × Nat)) (place : Nat → Option (Nat × Nat))
  (hp : ∀ (j off sz tt : Nat),flds[j]? = some (off,sz,tt) → place j = some (off,sz)) :
  ∀ (ps : List (Nat × Operand)) (cs cs' : List AVal),buildA st flds ps cs = some cs' → ∀ (xs : Array Value),AVs w R Al H cs xs.toList →
   ∃ xs',Instr.fill place xs (ps.map fun p => (p.1,a.eval p.2)) = some xs' ∧ AVs w R Al H cs' xs'.toList
 | [],cs,cs',h,xs,hx => by
  simp only [buildA,Option.some.injEq] at h
  subst h
  exact ⟨xs,rfl,hx⟩
 | p :: r,cs,cs',h,xs,hx => by
  unfold buildA at h
  split at h
  ·rename_i off sz tt hf
   split at h
   ·rename_i hb
    simp only [Bool.and_eq_true] at hb
    obtain ⟨⟨h0,h1⟩,h2⟩ := hb
    have h1 := Nat.eq_of_beq_eq_true h1
    have h2 := Nat.le_of_ble_eq_true h2
    have hc := solid_cells (oper_ok he p.2) h0 hH
    have hl := AVs.length _ _ hc
    have hl2 := AVs.length _ _ hx
    simp only [Array.length_toList] at hl hl2
    have hs : (a.eval p.2).cells.size = sz := by omega
    have hfit : off + (a.eval p.2).cells.size ≤ xs.size := by omega
    have hset := AVs.setSeg hx hc off
    have harr := fold_set_arr (a.eval p.2).cells off xs hfit
    obtain ⟨xs',e1,e2⟩ := buildA_ok he hH flds place hp r _ cs' h _ (by rw [harr]; simpa using hset)
    refine ⟨xs',?_,e2⟩
    simp only [List.map_cons,Instr.fill,hp _ _ _ _ hf]
    rw [if_neg (by simp [hs]; omega)]
    exact e1
   ·cases h
  ·cases h

end
end Go.Rv
namespace Go.Rv
section
variable {w : World} {C : Col} {R Al : Nat → Prop} {H : Nat → Value} {P : Program} {S : Upd}

def IV (ov : Option Value) (on : Option Int) : Prop :=
 match on with
 | none => ov = none
 | some n => ∃ k,ov = some (.int k n)

theorem intO_ok {st : St} {a : Act} (ok : ∀ x,AV w R Al H (oper st x) (a.eval x)) {x : Option Operand} {n : Option Int} (h : intO st x = some n) : IV (x.map a.eval) n := by
 unfold intO at h
 split at h
 ·simp only [Option.some.injEq] at h
  subst h
  rfl
 ·rename_i x
  split at h
  ·rename_i k m hm
   simp only [Option.some.injEq] at h
   subst h
   have := ok x
   rw [hm] at this
   simp only [AV] at this
   exact ⟨k,by rw [Option.map_some,this]⟩
  ·cases h

theorem bnd_some {lo hi mx : Option Int} {len : Nat} (h : bndB lo hi mx len = true) : 0 ≤ lo.getD 0 ∧ lo.getD 0 ≤ hi.getD (len : Int) ∧ hi.getD (len : Int) ≤ len ∧ (mx.isSome = true → hi.isSome = true) ∧ ∀ m,mx = some m → hi.getD (len : Int) ≤ m ∧ m ≤ len := by
 unfold bndB at h
 simp only [Bool.and_eq_true,decide_eq_true_eq] at h
 obtain ⟨⟨h1,h2⟩,h3⟩ := h
 cases mx with
 | none =>
  simp only [decide_eq_true_eq] at h3
  exact ⟨h1,h2,h3,fun h => by simp at h,fun m h => by cases h⟩
 | some m =>
  simp only [Bool.and_eq_true,decide_eq_true_eq] at h3
  exact ⟨h1,h2,by omega,fun _ => h3.1.1,fun m' hm => by cases hm; exact ⟨h3.1.2,h3.2⟩⟩

def capO (m : Option Int) (cap : Nat) : Nat :=
 match m with
 | some q => q.toNat
 | none => cap

theorem run_bounds {lo hi mx : Option Value} {l h m : Option Int} (hl : IV lo l) (hh : IV hi h) (hm : IV mx m) (isS : Bool) (len cap : Nat) (h0 : 0 ≤ l.getD 0) (h1 : l.getD 0 ≤ h.getD (len : Int)) (h2 : h.getD (len : Int) ≤ cap) (h3 : m.isSome = true → h.isSome = true)
  (h4 : ∀ q,m = some q → h.getD (len : Int) ≤ q ∧ q ≤ cap) (w' : World) :
  (Instr.sliceBounds isS len cap lo hi mx).run P w' = .ok ((l.getD 0).toNat,(h.getD (len : Int)).toNat,capO m cap) w' := by
 cases l with
 | none =>
  simp only [IV] at hl
  subst hl
  cases h with
  | none =>
   simp only [IV] at hh
   subst hh
   cases m with
   | none => simp only [IV] at hm; subst hm; simp [capO,Instr.sliceBounds]
   | some q => simp at h3
  | some y =>
   obtain ⟨ky,rfl⟩ := hh
   simp only [Option.getD_some,Option.getD_none] at h1 h2 h4
   cases m with
   | none => simp only [IV] at hm; subst hm; simp [capO,Instr.sliceBounds,run_sliceBound,h1,h2]
   | some q =>
    obtain ⟨kq,rfl⟩ := hm
    obtain ⟨q1,q2⟩ := h4 q rfl
    have e : (q.toNat : Int) = q := Int.toNat_of_nonneg (by omega)
    simp [capO,Instr.sliceBounds,run_sliceBound,h1,q1,q2,e,(by omega : 0 ≤ q)]
 | some x =>
  obtain ⟨kx,rfl⟩ := hl
  simp only [Option.getD_some] at h0 h1
  cases h with
  | none =>
   simp only [IV] at hh
   subst hh
   simp only [Option.getD_none] at h1
   cases m with
   | none => simp only [IV] at hm; subst hm; simp [capO,Instr.sliceBounds,run_sliceBound,h0,h1]
   | some q => simp at h3
  | some y =>
   obtain ⟨ky,rfl⟩ := hh
   simp only [Option.getD_some] at h1 h2 h4
   have ey : (y.toNat : Int) = y := Int.toNat_of_nonneg (by omega)
   cases m with
   | none => simp only [IV] at hm; subst hm; simp [capO,Instr.sliceBounds,run_sliceBound,h0,h1,h2,ey,(by omega : 0 ≤ y)]
   | some q =>
    obtain ⟨kq,rfl⟩ := hm
    obtain ⟨q1,q2⟩ := h4 q rfl
    have e : (q.toNat : Int) = q := Int.toNat_of_nonneg (by omega)
    simp [capO,Instr.sliceBounds,run_sliceBound,h0,h1,q1,q2,e,ey,(by omega : 0 ≤ q),(by omega : 0 ≤ y)]

theorem run_cut {t e : TypeId} {s : Nat} (hu : P.underlying t = some (.slice e)) (hs : ∀ w,(sizeOf e).run P w = .ok s w) {lo hi mx : Option Value} {l h m : Option Int} (hl : IV lo l) (hh : IV hi h) (hm : IV mx m) (A : Option Addr) (len cap : Nat) (h0 : 0 ≤ l.getD 0) (h1 : l.getD 0 ≤ h.getD (len : Int)) (h2 : h.getD (len : Int) ≤ cap) (h3 : m.isSome = true → h.isSome = true)
  (h4 : ∀ q,m = some q → h.getD (len : Int) ≤ q ∧ q ≤ cap) (w' : World) :
  (Instr.sliceAt t (.slice A len cap) lo hi mx).run P w' = .ok (.slice (if capO m cap - (l.getD 0).toNat = 0 then A else A.map (·.add ((l.getD 0).toNat * s))) ((h.getD (len : Int)).toNat - (l.getD 0).toNat) (capO m cap - (l.getD 0).toNat)) w' := by
 have hc : capO m cap ≥ (l.getD 0).toNat := by
  cases m with
  | none => simp only [capO]; omega
  | some q => have := h4 q rfl; simp only [capO]; omega
 have hcc : (capO m cap = (l.getD 0).toNat) = (capO m cap - (l.getD 0).toNat = 0) := by
  apply propext; omega
 simp only [Instr.sliceAt,Sem.run_bind,run_underlying hu,Result.andThen_ok,Instr.slice,run_bounds hl hh hm true len cap h0 h1 h2 h3 h4,hs,Sem.run_pure,hcc]

variable (hx : Ctx w C R Al H S)
include hx

theorem sliceA_ok {t : TypeId} {str : Bool} {size e : Nat} (hu : str = false → P.underlying t = some (.slice e) ∧ ∀ w,(sizeOf e).run P w = .ok size w) (hstr : str = true → P.underlying t = some .string) {x : AVal} {cx : Value} (ha : AV w R Al H x cx) {lo hi mx : Option Value} {l h m : Option Int} (hl : IV lo l) (hh : IV hi h) (hm : IV mx m)
  {α : Type} {k : AVal → Option α} {r : α} (hk : sliceA S str size x l h m k = some r) : ∃ v cv,k v = some r ∧ AV w R Al H v cv ∧ Yld P w (Instr.sliceAt t cx lo hi mx) cv := by
 have rdo : ∀ (e' : Kd) (xs : List e'.ty) (cx : Value),AV w R Al H (.sl e' xs) cx → chk (!str && Nat.beq size e'.size && bndB l h m xs.length) (k (.sl e' (cutL l h xs))) = some r → ∃ v cv,k v = some r ∧ AV w R Al H v cv ∧ Yld P w (Instr.sliceAt t cx lo hi mx) cv := by
  intro e' xs cx ha hk
  obtain ⟨hc,hk'⟩ := chk_some hk
  simp only [Bool.and_eq_true,Bool.not_eq_true'] at hc
  obtain ⟨⟨c1,c2⟩,c3⟩ := hc
  have c2 := Nat.eq_of_beq_eq_true c2
  obtain ⟨u1,u2⟩ := hu c1
  obtain ⟨b0,b1,b2,b3,b4⟩ := bnd_some c3
  simp only [AV] at ha
  have ha' := ha
  obtain ⟨A,n,c,fl,he,hn,hnc,_⟩ := ha'
  simp only [List.cons.injEq,and_true] at he
  subst he hn
  have run := fun w' => run_cut u1 u2 hl hh hm A xs.length c b0 b1 (by omega) b3 (fun q hq => by have := b4 q hq; omega) w'
  refine ⟨_,_,hk',?_,fun w' _ => run w'⟩
  have hmm : (h.getD (xs.length : Int)).toNat - (l.getD 0).toNat ≤ capO m c - (l.getD 0).toNat := by
   cases m with
   | none => simp only [capO]; omega
   | some q => have := b4 q rfl; simp only [capO]; omega
  obtain ⟨_,_,q3⟩ := Rp.cut (lo := (l.getD 0).toNat) ha hmm
  have hlen : ((xs.drop (l.getD 0).toNat).take ((h.getD (xs.length : Int)).toNat - (l.getD 0).toNat)).length = (h.getD (xs.length : Int)).toNat - (l.getD 0).toNat := by
   rw [List.length_take,List.length_drop]; omega
  rw [hlen] at q3
  simp only [AV,cutL]
  rw [c2]
  exact q3
 unfold sliceA at hk
 split at hk
 ·rename_i s
  obtain ⟨hc,hk'⟩ := chk_some hk
  simp only [Bool.and_eq_true,Option.isNone_iff_eq_none] at hc
  obtain ⟨⟨c1,c2⟩,c3⟩ := hc
  obtain ⟨b0,b1,b2,b3,b4⟩ := bnd_some c3
  subst c2
  simp only [IV] at hm
  subst hm
  simp only [AV] at ha
  subst ha
  refine ⟨_,.string (s.extract (l.getD 0).toNat (h.getD (s.size : Int)).toNat),hk',by simp only [AV],fun w' _ => ?_⟩
  have hb := run_bounds (P := P) hl hh (show IV none none from rfl) false s.size s.size b0 b1 b2 b3 (fun q hq => by cases hq) w'
  simp only [Instr.sliceAt,Sem.run_bind,run_underlying (hstr c1),Result.andThen_ok,Instr.slice,hb,Sem.run_pure,Option.isSome_none,Bool.false_eq_true,if_false]
 ·obtain ⟨hc,hk'⟩ := chk_some hk
  simp only [Bool.and_eq_true,Bool.not_eq_true'] at hc
  obtain ⟨c1,c3⟩ := hc
  obtain ⟨u1,u2⟩ := hu c1
  obtain ⟨b0,b1,b2,b3,b4⟩ := bnd_some c3
  simp only [AV] at ha
  subst ha
  have run := fun w' => run_cut u1 u2 hl hh hm none 0 0 b0 b1 b2 b3 b4 w'
  refine ⟨_,_,hk',?_,fun w' _ => run w'⟩
  cases m with
  | none =>
   have e1 : (l.getD 0).toNat = 0 := by simp only [Int.natCast_zero] at b1 b2; omega
   have e2 : (h.getD ((0 : Nat) : Int)).toNat = 0 := by omega
   simp only [AV,capO,e1,e2,Nat.sub_zero,if_true]
  | some q => simp [AV]
 ·obtain ⟨hc,hk'⟩ := chk_some hk
  simp only [Bool.and_eq_true,Bool.not_eq_true'] at hc
  obtain ⟨c1,c3⟩ := hc
  obtain ⟨u1,u2⟩ := hu c1
  obtain ⟨b0,b1,b2,b3,b4⟩ := bnd_some c3
  simp only [AV] at ha
  obtain ⟨a,ha⟩ := ha
  subst ha
  have run := fun w' => run_cut u1 u2 hl hh hm a 0 0 b0 b1 b2 b3 b4 w'
  refine ⟨_,_,hk',?_,fun w' _ => run w'⟩
  cases m with
  | none =>
   have e1 : (l.getD 0).toNat = 0 := by simp only [Int.natCast_zero] at b1 b2; omega
   have e2 : (h.getD ((0 : Nat) : Int)).toNat = 0 := by omega
   simp only [AV,capO,e1,e2,Nat.sub_zero,if_true]
   exact ⟨a,rfl⟩
  | some q => simp [AV]
 ·rename_i e' xs
  exact rdo e' xs cx ha hk
 ·rename_i i
  split at hk
  ·rename_i t' e' xs hr
   obtain ⟨hc,hk'⟩ := chk_some hk
   simp only [Bool.and_eq_true,Bool.not_eq_true'] at hc
   obtain ⟨⟨c1,c2⟩,c3⟩ := hc
   obtain ⟨u1,u2⟩ := hu c1
   obtain ⟨b0,b1,b2,b3,b4⟩ := bnd_some c3
   simp only [AV] at ha
   obtain ⟨hal,rfl⟩ := ha
   rcases row_len hx hr with ⟨A,r1,r2⟩ | ⟨g,c,r1,r0,r2⟩
   ·subst r2
    have run := fun w' => run_cut u1 u2 hl hh hm A 0 0 b0 b1 b2 b3 b4 w'
    refine ⟨_,_,hk',?_,fun w' _ => by rw [r1]; exact run w'⟩
    cases m with
    | none =>
     simp only [List.length_nil,Int.natCast_zero] at b1 b2
     have e1 : (l.getD 0).toNat = 0 := by omega
     have e2 : (h.getD ((0 : Nat) : Int)).toNat = 0 := by simp only [Int.natCast_zero]; omega
     simp only [AV,capO,e1,e2,Nat.sub_zero,if_true,List.length_nil]
     exact ⟨hal,.inl ⟨A,r1,by simp,by simp,rfl⟩⟩
    | some q => simp [AV]
   ·have run := fun w' => run_cut u1 u2 hl hh hm (some ⟨g,0,none⟩) xs.length c b0 b1 (by omega) b3 (fun q hq => by have := b4 q hq; omega) w'
    refine ⟨_,_,hk',?_,fun w' _ => by rw [r1]; exact run w'⟩
    cases m with
    | none =>
     simp only [AV,capO]
     by_cases h0 : c - (l.getD 0).toNat = 0
     ·simp only [h0,↓reduceIte]
      exact ⟨hal,.inr ⟨g,_,c,_,r1,r0,by omega,r2,by rw [h0],fun hh => absurd h0 hh,fun _ => rfl⟩⟩
     ·simp only [h0,↓reduceIte,Option.map_some,Addr.add_lit,Nat.zero_add]
      exact ⟨hal,.inr ⟨g,_,c,_,r1,r0,by omega,r2,rfl,fun _ => rfl,fun h0 => by rw [h0]; simp⟩⟩
    | some q => simp [AV]
  ·rename_i e' xs hr
   have hent := hx.ent i
   rw [hr] at hent
   simp only [AV] at ha
   obtain ⟨_,rfl⟩ := ha
   simp only [EntOK] at hent
   exact rdo e' xs _ (by simp only [AV]; exact hent) hk
  ·cases hk
 ·rename_i i s lo' n
  split at hk
  ·rename_i t' e' xs hr
   obtain ⟨hc,hk'⟩ := chk_some hk
   simp only [Bool.and_eq_true,Bool.not_eq_true'] at hc
   obtain ⟨⟨⟨⟨c1,c2⟩,c4⟩,c5⟩,c3⟩ := hc
   have c4 := Nat.eq_of_beq_eq_true c4
   obtain ⟨u1,u2⟩ := hu c1
   obtain ⟨b0,b1,b2,b3,b4⟩ := bnd_some c3
   simp only [Option.getD_some] at b1 b2 b4
   have hal : Al i := by simp only [AV] at ha; exact ha.1
   have b5 : m.isSome = true → h.isSome = true := by
    intro hm
    rw [Bool.or_eq_true] at c5
    rcases c5 with c5 | c5
    ·rw [Option.isNone_iff_eq_none] at c5; rw [c5] at hm; cases hm
    ·exact c5
   rcases vw_row hx ha hr with ⟨A,r1,r2,r3,r4,r5⟩ | ⟨g,c,A,r1,r0,r2,r3,r4,r5,r6⟩
   ·subst r1 r2 r3 r4
    simp only [List.length_nil,Nat.sub_zero,Int.natCast_zero] at b2 b4
    have run := fun w' => run_cut u1 u2 hl hh hm A 0 0 b0 b1 b2 b5 b4 w'
    refine ⟨_,_,hk',?_,fun w' _ => run w'⟩
    cases m with
    | none =>
     have b1' := b1
     rw [Int.natCast_zero] at b1'
     have e1 : (l.getD 0).toNat = 0 := by omega
     have e2 : (h.getD ((0 : Nat) : Int)).toNat = 0 := by rw [Int.natCast_zero]; omega
     simp only [AV,capO,e1,e2,Nat.sub_zero,if_true]
     exact ⟨hal,.inl ⟨A,r5,by simp,by simp,rfl⟩⟩
    | some q => simp [AV]
   ·have hlx : ((xs.length - lo' : Nat) : Int) = (xs.length : Int) - (lo' : Int) := by omega
    rw [hlx] at b2 b4
    have run := fun w' => run_cut u1 u2 hl hh hm (some A) n (c - lo') b0 b1 (by omega) b5 (fun q hq => by have := b4 q hq; omega) w'
    refine ⟨_,_,hk',?_,fun w' _ => by rw [r4]; exact run w'⟩
    cases m with
    | none =>
     simp only [AV,capO]
     have ec : c - lo' - (l.getD 0).toNat = c - (lo' + (l.getD 0).toNat) := by omega
     by_cases h0 : c - lo' - (l.getD 0).toNat = 0
     ·simp only [h0,↓reduceIte]
      refine ⟨hal,.inr ⟨g,_,c,A,r1,r0,by omega,r3,by rw [← ec,h0],fun hh => absurd h0 (by omega),fun h1 => r6 (by omega)⟩⟩
     ·have ea := r5 (by omega)
      subst ea
      simp only [h0,↓reduceIte,Option.map_some,Addr.add_lit]
      refine ⟨hal,.inr ⟨g,_,c,_,r1,r0,by omega,r3,by rw [ec],fun _ => by rw [c4,Nat.add_mul],fun h1 => ?_⟩⟩
      have e1 : lo' = 0 := by omega
      have e2 : (l.getD 0).toNat = 0 := by omega
      rw [e1,e2]; simp
    | some q => simp [AV]
  ·rename_i e' xs hr
   obtain ⟨hc,hk'⟩ := chk_some hk
   simp only [Bool.and_eq_true,Bool.not_eq_true'] at hc
   obtain ⟨⟨⟨⟨c1,c2⟩,c4⟩,c5⟩,c3⟩ := hc
   have c4 := Nat.eq_of_beq_eq_true c4
   have c2 := Nat.eq_of_beq_eq_true c2
   obtain ⟨u1,u2⟩ := hu c1
   obtain ⟨b0,b1,b2,b3,b4⟩ := bnd_some c3
   simp only [Option.getD_some] at b1 b2 b4
   have b5 : m.isSome = true → h.isSome = true := by
    intro hm
    rw [Bool.or_eq_true] at c5
    rcases c5 with c5 | c5
    ·rw [Option.isNone_iff_eq_none] at c5; rw [c5] at hm; cases hm
    ·exact c5
   have hent := hx.ent i
   rw [hr] at hent
   simp only [EntOK] at hent
   simp only [AV] at ha
   obtain ⟨_,ha⟩ := ha
   rcases ha with ⟨A,a1,a2,a3,a4⟩ | ⟨g,N,c,A,a1,a0,a2,a3,a4,a5,a6⟩
   ·rw [a1] at hent
    obtain ⟨q1,_,_⟩ := Rp.cut (lo := 0) (n := 0) (m := 0) hent (Nat.le_refl _)
    have hxs : xs = [] := List.length_eq_zero_iff.1 q1.symm
    subst hxs a2 a3 a4
    simp only [List.length_nil,Nat.sub_zero,Int.natCast_zero] at b2 b4
    have run := fun w' => run_cut u1 u2 hl hh hm A 0 0 b0 b1 b2 b5 b4 w'
    refine ⟨_,_,hk',?_,fun w' _ => run w'⟩
    have b1' := b1
    rw [Int.natCast_zero] at b1'
    have e1 : (l.getD 0).toNat = 0 := by omega
    have e2 : (h.getD ((0 : Nat) : Int)).toNat = 0 := by rw [Int.natCast_zero]; omega
    simp only [AV,cutL,List.drop_nil,List.take_nil,e1,e2,Nat.sub_zero]
    exact ⟨_,_,_,[],rfl,by simp,Nat.zero_le _,by simp [Lst],.inl rfl⟩
   ·rw [a1] at hent
    have hN := (Rp.cut (lo := 0) (n := 0) (m := 0) hent (Nat.le_refl _)).1
    have hlx : ((xs.length - lo' : Nat) : Int) = (xs.length : Int) - (lo' : Int) := by omega
    rw [hlx] at b2 b4
    subst a4
    have run := fun w' => run_cut u1 u2 hl hh hm (some A) n (c - lo') b0 b1 (by omega) b5 (fun q hq => by have := b4 q hq; omega) w'
    refine ⟨_,_,hk',?_,fun w' _ => run w'⟩
    have hmm : (h.getD (n : Int)).toNat - (l.getD 0).toNat ≤ capO m (c - lo') - (l.getD 0).toNat := by
     cases m with
     | none => simp only [capO]; omega
     | some q => have := b4 q rfl; simp only [capO]; omega
    obtain ⟨_,_,q3⟩ := Rp.cut (lo := lo' + (l.getD 0).toNat) hent hmm
    have hlen : ((xs.drop (lo' + (l.getD 0).toNat)).take ((h.getD (n : Int)).toNat - (l.getD 0).toNat)).length = (h.getD (n : Int)).toNat - (l.getD 0).toNat := by
     rw [List.length_take,List.length_drop]; omega
    rw [hlen] at q3
    simp only [AV,cutL,Option.getD_some,List.drop_drop]
    by_cases h0 : capO m (c - lo') - (l.getD 0).toNat = 0
    ·have hz : (h.getD (n : Int)).toNat - (l.getD 0).toNat = 0 := by omega
     rw [hz]
     simp only [List.take_zero]
     exact ⟨_,_,_,[],rfl,by simp,Nat.zero_le _,by simp [Lst],.inl rfl⟩
    ·simp only [h0,↓reduceIte] at q3 ⊢
     have hcl : c - lo' ≠ 0 := by
      intro h1
      apply h0
      cases m with
      | none => simp only [capO]; omega
      | some q => have := b4 q rfl; simp only [capO]; omega
     rw [a5 hcl]
     simp only [Option.map_some,Addr.add_lit,Nat.zero_add] at q3 ⊢
     rw [c4,c2,← Nat.add_mul]
     exact q3
  ·cases hk
 ·cases hk
end
end Go.Rv
namespace Go.Rv
section
variable {w : World} {C : Col} {R Al : Nat → Prop} {H : Nat → Value} {P : Program} {S : Upd}

theorem ints_pair {a b : Kd} (h : (Kd.pair a b).ints = true) : a.ints = true ∧ b.ints = true := by
 simp only [Kd.ints] at h
 cases ha : a.ints <;> simp_all

theorem ofCells_ints : ∀ (k : Kd),k.ints = true → ∀ (cs : List AVal) (x : k.ty) (r : List AVal),ofCells S k cs = some (x,r) → cs = cellsOf k x ++ r
 | .int k,_,cs,x,r,h => by
  cases cs with
  | nil => cases h
  | cons c cs =>
   cases c <;> simp only [ofCells] at h <;> first | (cases h; done) | skip
   split at h
   ·rename_i hk
    subst hk
    simp only [Option.some.injEq,Prod.mk.injEq] at h
    obtain ⟨rfl,rfl⟩ := h
    rfl
   ·cases h
 | .one a,hi,cs,x,r,h => ofCells_ints a hi cs x r h
 | .pair a b,hi,cs,x,r,h => by
  simp only [ofCells] at h
  split at h
  ·rename_i y s hy
   split at h
   ·rename_i z s' hz
    simp only [Option.some.injEq,Prod.mk.injEq] at h
    obtain ⟨rfl,rfl⟩ := h
    rw [ofCells_ints a (ints_pair hi).1 _ _ _ hy,ofCells_ints b (ints_pair hi).2 _ _ _ hz]
    simp [cellsOf]
   ·cases h
  ·cases h
 | .bool,hi,_,_,_,_ => by cases hi
 | .str,hi,_,_,_,_ => by cases hi
 | .sl _ _,hi,_,_,_,_ => by cases hi

theorem AVs_ints : ∀ (k : Kd),k.ints = true → ∀ (x : k.ty) (fl : List Value),AVs w R Al H (cellsOf k x) fl ↔ fl = litC k x
 | .int k,_,x,fl => by
  simp only [cellsOf,litC,AVs,AV]
  constructor
  ·rintro ⟨v,r,h1,h2,h3⟩
   rw [h1,h2,h3]
  ·intro h
   exact ⟨_,[],h,rfl,rfl⟩
 | .one a,hi,x,fl => AVs_ints a hi x fl
 | .pair a b,hi,x,fl => by
  simp only [cellsOf,litC]
  constructor
  ·intro h
   have h1 := AVs.take (cellsOf a x.1).length _ _ h
   have h2 := AVs.drop (cellsOf a x.1).length _ _ h
   rw [List.take_left] at h1
   rw [List.drop_left] at h2
   rw [← List.take_append_drop (cellsOf a x.1).length fl,(AVs_ints a (ints_pair hi).1 _ _).1 h1,(AVs_ints b (ints_pair hi).2 _ _).1 h2]
  ·intro h
   rw [h]
   exact AVs.append _ _ _ _ ((AVs_ints a (ints_pair hi).1 _ _).2 rfl) ((AVs_ints b (ints_pair hi).2 _ _).2 rfl)
 | .bool,hi,_,_ => by cases hi
 | .str,hi,_,_ => by cases hi
 | .sl _ _,hi,_,_ => by cases hi

theorem ints_notagg {k : Kd} (h : k.ints = true) (ha : k.agg = false) : ∃ j,k = .int j := by
 cases k <;> simp_all [Kd.ints,Kd.agg]

theorem litC_len : ∀ (k : Kd),k.ints = true → ∀ x,(litC k x).length = k.size
 | .int k,_,x => rfl
 | .one a,hi,x => litC_len a hi x
 | .pair a b,hi,x => by simp [litC,Kd.size,litC_len a (ints_pair hi).1,litC_len b (ints_pair hi).2]
 | .bool,hi,_ => by cases hi
 | .str,hi,_ => by cases hi
 | .sl _ _,hi,_ => by cases hi
theorem datum_ints {k : Kd} (hi : k.ints = true) {v : AVal} {x : k.ty} (h : datum S k v = some x) {c : Value} (hv : AV w R Al H v c) : c = litV k x := by
 unfold datum at h
 split at h
 ·rename_i y hy
  cases hc : (k.agg == aggV v && solid v) with
  | false => rw [hc] at h; cases h
  | true =>
   rw [hc] at h
   simp only [cond_true,Option.some.injEq] at h
   subst h
   simp only [Bool.and_eq_true,beq_iff_eq] at hc
   have hcs := ofCells_ints k hi _ _ _ hy
   rw [List.append_nil] at hcs
   unfold litV
   cases hk : k.agg with
   | true =>
    rw [hk] at hc
    cases v <;> simp only [aggV] at hc <;> first | (exact absurd hc.1 (by decide)) | skip
    simp only [cellsV] at hcs
    simp only [AV] at hv
    obtain ⟨vs,rfl,h2⟩ := hv
    rw [hcs] at h2
    rw [← (AVs_ints k hi _ _).1 h2]
   | false =>
    obtain ⟨j,rfl⟩ := ints_notagg hi hk
    rw [hk] at hc
    cases v <;> simp only [cellsV,cellsOf,List.cons.injEq,and_true] at hcs <;> first | (cases hcs; done) | skip
    ·cases hcs
     simp only [AV] at hv
     exact hv
    ·simp [aggV] at hc
 ·cases h

theorem litV_ok {k : Kd} (hi : k.ints = true) (x : k.ty) : AV w R Al H (valOf k (cellsOf k x)) (litV k x) := by
 unfold valOf litV
 cases hk : k.agg with
 | true =>
  simp only [AV]
  exact ⟨_,rfl,(AVs_ints k hi _ _).2 (by simp)⟩
 | false =>
  obtain ⟨j,rfl⟩ := ints_notagg hi hk
  simp only [cellsOf,AV,litC,List.headD_cons]

theorem eqCells_ints : ∀ (k : Kd),k.ints = true → ∀ (x y : k.ty) (r s : List AVal),eqCells (cellsOf k x ++ r) (cellsOf k y ++ s) = (eqCells r s).map (keqB k x y && ·)
 | .int k,_,x,y,r,s => by
  simp only [cellsOf,List.cons_append,List.nil_append,eqCells,keqB,if_true]
  cases eqCells r s <;> rfl
 | .one a,hi,x,y,r,s => eqCells_ints a hi x y r s
 | .pair a b,hi,x,y,r,s => by
  simp only [cellsOf,List.append_assoc]
  rw [eqCells_ints a (ints_pair hi).1,eqCells_ints b (ints_pair hi).2,Option.map_map]
  cases eqCells r s with
  | none => rfl
  | some q => simp [keqB,Bool.and_assoc]
 | .bool,hi,_,_,_,_ => by cases hi
 | .str,hi,_,_,_,_ => by cases hi
 | .sl _ _,hi,_,_,_,_ => by cases hi

theorem tags_ints : ∀ (k : Kd),k.ints = true → ∀ (x : k.ty),(cellsOf k x).map tagV = List.replicate k.size 0
 | .int k,_,x => rfl
 | .one a,hi,x => tags_ints a hi x
 | .pair a b,hi,x => by simp only [cellsOf,List.map_append,tags_ints a (ints_pair hi).1,tags_ints b (ints_pair hi).2,Kd.size,List.replicate_append_replicate]
 | .bool,hi,_ => by cases hi
 | .str,hi,_ => by cases hi
 | .sl _ _,hi,_ => by cases hi

theorem kdOf_int2 {n : Nat} {t : TypeId} {v : IntKind} (h : kdOf P n t = some (.int v)) : P.underlying t = some (.int v) := by
 cases n with
 | zero => cases h
 | succ n =>
  unfold kdOf at h
  split at h
  ·rename_i k hu
   simp only [Option.some.injEq,Kd.int.injEq] at h
   rw [hu,h]
  ·cases h
  ·cases h
  ·rename_i e hu
   cases hk : kdOf P n e <;> rw [hk] at h <;> simp at h
  ·rename_i fs hu
   split at h
   ·rename_i f hf
    cases hk : kdOf P n f.type <;> rw [hk] at h <;> simp at h
   ·rename_i fs' hl
    revert h
    cases hfs : fs.toList with
    | nil => simp [kdGo]
    | cons f r =>
     cases r with
     | nil => intro _; exact absurd hfs (hl f)
     | cons g r =>
      unfold kdGo
      cases kdOf P n f.type <;> cases kdGo (kdOf P n) (g :: r) <;> simp
  ·cases h

structure MapTy (P : Program) (t : TypeId) (k : Kd) (v : IntKind) (a b : TypeId) : Prop where
 und : P.underlying t = some (.map a b)
 ints : k.ints = true
 zero : ∀ w : World,(zeroValue b).run P w = .ok (.int v 0) w
 key : (k.agg = false ∧ ∃ j,k = .int j ∧ P.underlying a = some (.int j)) ∨ (k.agg = true ∧ (∃ fs,P.underlying a = some (.struct fs)) ∧ eqT P 20 a = some (List.replicate k.size 0))

theorem mapT_ok {T : Tab} (hT : TabOK P T) {t : Nat} {k : Kd} {v : IntKind} (h : mapT T t = some (k,v)) : ∃ a b,MapTy P t k v a b := by
 unfold mapT at h
 split at h
 ·rename_i ti ht
  split at h
  ·rename_i a b hag hfl
   split at h
   ·rename_i ta tb hta htb
    split at h
    ·rename_i k' v' v'' hk hv hz
     split at h
     ·rename_i hc
      simp only [Option.some.injEq,Prod.mk.injEq] at h
      obtain ⟨rfl,rfl⟩ := h
      simp only [Bool.and_eq_true,decide_eq_true_eq,Bool.or_eq_true,Bool.not_eq_true'] at hc
      obtain ⟨⟨⟨rfl,hint⟩,hne⟩,heq⟩ := hc
      obtain ⟨i1,d1,z1,r1⟩ := hT.row ht
      obtain ⟨i2,d2,z2,r2⟩ := hT.row hta
      obtain ⟨i3,d3,z3,r3⟩ := hT.row htb
      have hu : P.underlying t = some (.map a b) := by
       have q1 := r1.flds
       have q2 := r1.und
       have q3 := r1.agg
       rw [hfl] at q1
       rw [hag] at q3
       cases d1 <;> simp only [fldsD] at q1 <;> first | (cases q1; done) | skip
       case struct => simp [aggD] at q3
       case map =>
        simp only [List.cons.injEq,Prod.mk.injEq,true_and,and_true] at q1
        obtain ⟨rfl,rfl⟩ := q1
        exact q2
      refine ⟨a,b,hu,hint,fun w => ?_,?_⟩
      ·rw [r3.run_zero w]
       have q1 := r3.zag _ hv
       have q2 := r3.zs
       rw [hz] at q2
       have : z3 = .int v'' 0 := by
        cases z3 <;> simp [Value.cells,absZ,aggZ,Kd.agg] at q1 q2 <;> first | (rw [q2.1,← q2.2]) | (split at q2 <;> simp_all) | skip
       rw [this]
      ·cases hk' : k'.agg with
       | false =>
        obtain ⟨j,rfl⟩ := ints_notagg hint hk'
        exact .inl ⟨rfl,j,rfl,kdOf_int2 (r2.kd _ hk).1⟩
       | true =>
        rw [hk'] at hne heq
        have he := r2.eq
        cases hgt : P.eqGuardType P.depth a with
        | true => rw [hgt] at he; simp only at he; rw [he] at hne; simp at hne
        | false =>
         rw [hgt] at he
         simp only at he
         cases hq : eqT P 20 a with
         | none => rw [hq] at he; simp at he; rw [he] at hne; simp at hne
         | some ks =>
          rw [hq] at he
          simp only [Option.getD_some] at he
          have e2 : ta.eq = List.replicate k'.size 0 := by simpa using heq
          refine .inr ⟨rfl,?_,by rw [← e2,he]⟩
          have hkd := (r2.kd _ hk).1
          have hu2 := r2.und
          unfold kdOf at hkd
          rw [hu2] at hkd
          cases d2 <;> simp only at hkd <;> first | (cases hkd; done) | skip
          ·simp only [Option.some.injEq] at hkd; subst hkd; cases hk'
          ·simp only [Option.some.injEq] at hkd; subst hkd; cases hk'
          ·simp only [Option.some.injEq] at hkd; subst hkd; cases hk'
          ·simp only [Option.map_eq_some_iff] at hkd
           obtain ⟨_,_,hkd⟩ := hkd
           subst hkd; cases hk'
          ·exact ⟨_,hu2⟩
     ·cases h
    ·cases h
   ·cases h
  ·cases h
 ·cases h
end
end Go.Rv
namespace Go.Rv
section
variable {w : World} {C : Col} {R Al : Nat → Prop} {H : Nat → Value} {P : Program} {S : Upd}

theorem litV_int (j : IntKind) (x : (Kd.int j).ty) : litV (.int j) x = .int j x := rfl
theorem litV_agg {k : Kd} (h : k.agg = true) (x : k.ty) : litV k x = .agg (litC k x).toArray := by unfold litV; rw [h]

theorem key_eq {t a b : TypeId} {k : Kd} {v : IntKind} (h : MapTy P t k v a b) (x y : k.ty) (w : World) : (Op.equal a (litV k x) (litV k y)).run P w = .ok (keqB k x y) w := by
 rcases h.key with ⟨_,j,rfl,hu⟩ | ⟨ha,⟨fs,hu⟩,hq⟩
 ·exact run_equalIn_int w 9999 a _ _ _ _ hu
 ·have e := eqCells_ints k h.ints x y [] []
  rw [List.append_nil,List.append_nil] at e
  have e2 : eqCells (cellsOf k x) (cellsOf k y) = some (keqB k x y) := by rw [e]; simp [eqCells]
  have l := (eq_ok (w := w) (R := fun _ => True) (Al := fun _ => True) (H := fun _ => undef) 20 a _ hq 9980 (cellsOf k x) (cellsOf k y) _ _ _ ((AVs_ints k h.ints x _).2 rfl) ((AVs_ints k h.ints y _).2 rfl) (tags_ints k h.ints x) (tags_ints k h.ints y) e2).2 w
  rw [mkV_agg hu rfl,mkV_agg hu rfl] at l
  rw [litV_agg ha,litV_agg ha]
  exact l

def fres (k : Kd) (v : IntKind) : List (k.ty × Int) → k.ty → Nat → Option (Nat × Value)
 | [],_,_ => none
 | p :: r,x,i => cond (keqB k x p.1) (some (i,.int v p.2)) (fres k v r x (i + 1))

theorem fres_eq (k : Kd) (v : IntKind) (x : k.ty) : ∀ (kvs : List (k.ty × Int)) (i : Nat),fres k v kvs x i = match kvs[mfind k kvs x]? with
  | some p => some (i + mfind k kvs x,.int v p.2)
  | none => none
 | [],i => rfl
 | p :: r,i => by
  simp only [fres,mfind,List.findIdx_cons]
  cases hk : keqB k x p.1 with
  | true => simp
  | false =>
   simp only [cond_false]
   rw [fres_eq k v x r (i + 1)]
   simp only [List.getElem?_cons_succ]
   show (match r[mfind k r x]? with | some p => some (i + 1 + mfind k r x,Value.int v p.2) | none => none) = match r[mfind k r x]? with | some p => some (i + (mfind k r x + 1),Value.int v p.2) | none => none
   cases r[mfind k r x]? with
   | none => rfl
   | some q => rw [Nat.add_right_comm,Nat.add_assoc]

theorem findAsking_run {t a b : TypeId} {k : Kd} {v : IntKind} (h : MapTy P t k v a b) (x : k.ty) (w : World) : ∀ (kvs : List (k.ty × Int)) (c i : Nat),(Instr.findAsking a (litV k x) (ents k v c kvs) i).run P w = .ok (fres k v kvs x i) w
 | [],c,i => by simp [ents,Instr.findAsking,fres]
 | p :: r,c,i => by
  simp only [ents,Instr.findAsking,Sem.run_bind,key_eq h,Result.andThen_ok,fres,Sem.run_ite]
  cases keqB k x p.1 with
  | true => simp
  | false =>
   simp only [Bool.false_eq_true,if_false,cond_false]
   exact findAsking_run h x w r (c + 1) (i + 1)

theorem findNow_int (j : IntKind) (v : IntKind) (x : (Kd.int j).ty) : ∀ (kvs : List ((Kd.int j).ty × Int)) (c i : Nat),Instr.findNow (.int j) (litV (.int j) x) (ents (.int j) v c kvs) i = some (fres (.int j) v kvs x i)
 | [],c,i => rfl
 | p :: r,c,i => by
  simp only [ents,Instr.findNow,litV_int,Instr.sameNow,if_true,fres,keqB]
  cases hb : (x == p.1) with
  | true => rfl
  | false => exact findNow_int j v x r (c + 1) (i + 1)

theorem findKey_run {t a b : TypeId} {k : Kd} {v : IntKind} (h : MapTy P t k v a b) (x : k.ty) (w : World) (kvs : List (k.ty × Int)) (c : Nat) : (Instr.findKey a (litV k x) (ents k v c kvs)).run P w = .ok (fres k v kvs x 0) w := by
 unfold Instr.findKey
 rcases h.key with ⟨_,j,rfl,hu⟩ | ⟨ha,⟨fs,hu⟩,hq⟩
 ·rw [Sem.run_bind,run_underlying hu,Result.andThen_ok,findNow_int]
  rfl
 ·rw [Sem.run_bind,run_underlying hu,Result.andThen_ok]
  cases kvs with
  | nil => rfl
  | cons p r =>
   have : Instr.findNow (.struct fs) (litV k x) (ents k v c (p :: r)) 0 = none := rfl
   rw [this]
   exact findAsking_run h x w (p :: r) c 0

theorem check_ok (em : Bool) : ∀ (n : Nat) (t : TypeId) (ks : List Nat),eqT P n t = some ks → (∀ c ∈ ks,c = 0) → ∀ (dp : Nat) (xs : List Value),xs.length = ks.length → (∀ u ∈ xs,∃ k n,u = .int k n) →
  (∃ d,P.underlying t = some d ∧ (aggD d = false → ks.length = 1)) ∧ ∀ w,(Instr.checkKey em (dp + n) t (mkV P t xs)).run P w = .ok () w := by
 intro n
 induction n with
 | zero => intro t ks h; simp [eqT] at h
 | succ n ih =>
  intro t ks h h0 dp xs hl hx
  unfold eqT at h
  split at h
  ·rename_i k hu
   simp only [Option.some.injEq] at h
   subst h
   refine ⟨⟨_,hu,fun _ => rfl⟩,fun w => ?_⟩
   match xs,hl with
   | [x],_ =>
    obtain ⟨k',m,rfl⟩ := hx x (by simp)
    simp only [mkV,hu,aggD,List.headD_cons]
    rw [← Nat.add_assoc,Instr.checkKey]
    simp [run_underlying hu]
  ·simp only [Option.some.injEq] at h
   subst h
   exact absurd (h0 1 (by simp)) (by decide)
  ·simp only [Option.some.injEq] at h
   subst h
   exact absurd (h0 2 (by simp)) (by decide)
  ·rename_i fs hu
   split at h
   ·cases h
   ·refine ⟨⟨_,hu,fun hg => by simp [aggD] at hg⟩,fun w => ?_⟩
    simp only [mkV,hu,aggD]
    rw [← Nat.add_assoc,Instr.checkKey]
    simp only [Sem.run_bind,run_underlying hu,Result.andThen_ok]
    rw [← Array.forIn_toList]
    have key : ∀ (l : List Field) (off : Nat) (ks : List Nat),eqGo P (eqT P n) off l = some ks → (∀ c ∈ ks,c = 0) → ks.length ≤ (xs.drop off).length →
      (forIn (m := Sem) l PUnit.unit fun f _ => do
       if f.name ≠ "_" then Instr.checkKey em (dp + n) f.type (← part f.type xs.toArray f.offset)
       pure (ForInStep.yield PUnit.unit)).run P w = .ok PUnit.unit w := by
     intro l
     induction l with
     | nil => intro off ks h _ _; simp
     | cons f r ihl =>
      intro off ks h h0 hlen
      unfold eqGo at h
      split at h
      ·rename_i ks1 h1
       split at h
       ·rename_i hb
        simp only [Bool.and_eq_true,bne_iff_ne,ne_eq] at hb
        obtain ⟨⟨⟨hn,ho⟩,hc⟩,hpos⟩ := hb
        have hpos : 0 < ks1.length := by simpa [Nat.blt_eq] using hpos
        have ho := Nat.eq_of_beq_eq_true ho
        have hc := Nat.eq_of_beq_eq_true hc
        split at h
        ·rename_i ks2 h2
         simp only [Option.some.injEq] at h
         subst h
         rw [List.length_append] at hlen
         have hseg : ((xs.drop off).take ks1.length).length = ks1.length := by rw [List.length_take]; omega
         obtain ⟨⟨d,hd,hd1⟩,ih1⟩ := ih f.type ks1 h1 (fun c hc => h0 c (List.mem_append_left _ hc)) dp ((xs.drop off).take ks1.length) hseg (fun u hu => hx u (List.mem_of_mem_drop (List.mem_of_mem_take hu)))
         have px := run_part (P := P) hd (by omega) (fun hg => by rw [hc]; exact hd1 hg) xs.toArray f.offset ((xs.drop off).take ks1.length) (by rw [hc,ho]) (by rw [hc,hseg]) w
         have rest := ihl (off + ks1.length) ks2 h2 (fun c hc => h0 c (List.mem_append_right _ hc)) (by rw [← List.drop_drop,List.length_drop]; omega)
         simp only [List.forIn_cons,Sem.run_bind,hn,ne_eq,not_false_eq_true,if_true,px,Result.andThen_ok,ih1 w,Sem.run_pure]
         exact rest
        ·cases h
       ·cases h
      ·cases h
    have := key fs.toList 0 ks h h0 (by simp [hl])
    simp at this ⊢
    rw [this]
    rfl
  ·cases h

theorem litC_all : ∀ (k : Kd),k.ints = true → ∀ (x : k.ty),∀ u ∈ litC k x,∃ j n,u = .int j n
 | .int j,_,x,u,h => by simp only [litC,List.mem_singleton] at h; exact ⟨j,x,h⟩
 | .one a,hi,x,u,h => litC_all a hi x u h
 | .pair a b,hi,x,u,h => by
  rcases List.mem_append.1 h with h | h
  ·exact litC_all a (ints_pair hi).1 _ u h
  ·exact litC_all b (ints_pair hi).2 _ u h
 | .bool,hi,_,_,_ => by cases hi
 | .str,hi,_,_,_ => by cases hi
 | .sl _ _,hi,_,_,_ => by cases hi

theorem checkKey_run {t a b : TypeId} {k : Kd} {v : IntKind} (h : MapTy P t k v a b) (em : Bool) (x : k.ty) (w : World) : (Instr.checkKey em 10000 a (litV k x)).run P w = .ok () w := by
 rcases h.key with ⟨_,j,rfl,hu⟩ | ⟨ha,⟨fs,hu⟩,hq⟩
 ·show (Instr.checkKey em (9999 + 1) a _).run P w = _
  rw [Instr.checkKey,litV_int]
  simp [run_underlying hu]
 ·have := (check_ok (P := P) em 20 a _ hq (fun c hc => List.eq_of_mem_replicate hc) 9980 (litC k x) (by rw [litC_len k h.ints,List.length_replicate]) (litC_all k h.ints x)).2 w
  rw [mkV_agg hu rfl] at this
  rw [litV_agg ha]
  exact this

theorem same_zip (n : Nat) : ∀ (xs : List Value),(∀ u ∈ xs,∃ j m,u = .int j m) → ((xs.zip xs).all fun (x,y) => Instr.sameBits n x y) = true
 | [],_ => rfl
 | x :: xs,h => by
  obtain ⟨j,m,rfl⟩ := h x (by simp)
  simp only [List.zip_cons_cons,List.all_cons,same_zip n xs (fun u hu => h u (by simp [hu])),Bool.and_true]
  cases n <;> simp [Instr.sameBits]

theorem stays_run {k : Kd} (hi : k.ints = true) (x : k.ty) (w : World) : (Instr.keyThatStays (litV k x) (litV k x)).run P w = .ok (litV k x) w := by
 have : Instr.sameBits 10000 (litV k x) (litV k x) = true := by
  cases ha : k.agg with
  | false =>
   obtain ⟨j,rfl⟩ := ints_notagg hi ha
   rw [litV_int]
   simp [Instr.sameBits]
  | true =>
   rw [litV_agg ha]
   show ((litC k x).toArray.size == (litC k x).toArray.size && (((litC k x).toArray.toList.zip (litC k x).toArray.toList).all fun (x,y) => Instr.sameBits 9999 x y)) = true
   rw [beq_self_eq_true,Bool.true_and]
   exact same_zip 9999 _ (litC_all k hi x)
 simp [Instr.keyThatStays,this]

theorem lookup_run {t a b : TypeId} {k : Kd} {v : IntKind} (h : MapTy P t k v a b) {g : Nat} {es : Array MapEntry} {cl : Nat} {w : World} (hg : w.heap[g]? = some (.map es cl)) {kvs : List (k.ty × Int)} (he : es.toList = ents k v 0 kvs) (x : k.ty) :
  (Instr.lookup t (.map (some g)) (litV k x) false).run P w = .ok (.int v (mlook k kvs x)) w := by
 unfold Instr.lookup
 simp only [Sem.run_bind,run_underlying h.und,Result.andThen_ok,MapKept.run_getObj_map hg,Sem.run_pure,checkKey_run h,he,findKey_run h,fres_eq,mlook,Bool.false_eq_true,if_false]
 cases kvs[mfind k kvs x]? with
 | none => simp [h.zero]
 | some p => simp

theorem ents_len (k : Kd) (v : IntKind) : ∀ (kvs : List (k.ty × Int)) (c : Nat),(ents k v c kvs).length = kvs.length
 | [],_ => rfl
 | p :: r,c => by simp [ents,ents_len k v r (c + 1)]
theorem ents_get (k : Kd) (v : IntKind) : ∀ (kvs : List (k.ty × Int)) (c j : Nat),(ents k v c kvs)[j]? = (kvs[j]?).map fun p => ⟨litV k p.1,.int v p.2,c + j⟩
 | [],c,j => by simp [ents]
 | p :: r,c,0 => by simp [ents]
 | p :: r,c,j + 1 => by
  simp only [ents,List.getElem?_cons_succ,ents_get k v r (c + 1) j]
  congr 1
  funext q
  rw [Nat.add_right_comm,Nat.add_assoc]
theorem ents_app (k : Kd) (v : IntKind) (y : k.ty × Int) : ∀ (kvs : List (k.ty × Int)) (c : Nat),ents k v c (kvs ++ [y]) = ents k v c kvs ++ [⟨litV k y.1,.int v y.2,c + kvs.length⟩]
 | [],c => by simp [ents]
 | p :: r,c => by
  simp only [List.cons_append,ents,ents_app k v y r (c + 1),List.length_cons]
  rw [Nat.add_right_comm,Nat.add_assoc]

theorem keqB_refl_of (k : Kd) : ∀ x y : k.ty,keqB k x y = true → k.ints = true → x = y := by
 induction k with
 | int j => intro x y h _; simpa [keqB] using h
 | one a ih => intro x y h hi; exact ih x y h hi
 | pair a b iha ihb =>
  intro x y h hi
  simp only [keqB,Bool.and_eq_true] at h
  exact Prod.ext (iha _ _ h.1 (ints_pair hi).1) (ihb _ _ h.2 (ints_pair hi).2)
 | bool => intro x y h hi; cases hi
 | str => intro x y h hi; cases hi
 | sl o e _ => intro x y h hi; cases hi

theorem mfind_at {k : Kd} {kvs : List (k.ty × Int)} {x : k.ty} {p : k.ty × Int} (h : kvs[mfind k kvs x]? = some p) (hi : k.ints = true) : p.1 = x := by
 obtain ⟨hl,hp⟩ := List.getElem?_eq_some_iff.1 h
 have := List.findIdx_getElem (xs := kvs) (p := fun p : k.ty × Int => keqB k x p.1) (w := hl)
 rw [show kvs[List.findIdx (fun p : k.ty × Int => keqB k x p.1) kvs]'hl = p from hp] at this
 exact (keqB_refl_of k _ _ this hi).symm

theorem mset_get (k : Kd) (kvs : List (k.ty × Int)) (j : Nat) (n : Int) (i : Nat) : (mset k kvs j n)[i]? = if j = i then (kvs[i]?).map fun p => (p.1,n) else kvs[i]? := by
 unfold mset
 rw [List.getElem?_modify]
 split <;> simp

theorem mapEntry_run {t a b : TypeId} {k : Kd} {v : IntKind} (h : MapTy P t k v a b) {g : Nat} {es : Array MapEntry} {w : World} (hg : w.heap[g]? = some (.map es es.size)) {kvs : List (k.ty × Int)} (he : es.toList = ents k v 0 kvs) (x : k.ty) :
  ∃ es' : Array MapEntry,es'.toList = ents k v 0 (mput k kvs x) ∧
  (Instr.mapEntry t (.map (some g)) (litV k x)).run P w = .ok (.tuple #[.int v (mlook k kvs x),.int .i64 (mfind k kvs x : Int)]) { w with heap := w.heap.setIfInBounds g (.map es' es'.size) } := by
 have hsz : es.size = kvs.length := by rw [← Array.length_toList,he,ents_len]
 cases hf : kvs[mfind k kvs x]? with
 | some p =>
  have hx := mfind_at hf h.ints
  have hes : es[mfind k kvs x]? = some ⟨litV k p.1,.int v p.2,mfind k kvs x⟩ := by
   have := ents_get k v kvs 0 (mfind k kvs x)
   rw [← he,hf] at this
   simpa using this
  refine ⟨es,by rw [he]; unfold mput; rw [hf],?_⟩
  have hmod : (es.modify (mfind k kvs x) fun e => { e with key := litV k x }) = es := by
   apply Array.ext_getElem?
   intro i
   rw [Array.getElem?_modify]
   split
   ·rename_i hi'
    subst hi'
    rw [hes]
    simp [hx]
   ·rfl
  unfold Instr.mapEntry
  simp only [Sem.run_bind,run_underlying h.und,Result.andThen_ok,MapKept.run_getObj_map hg,checkKey_run h,he,findKey_run h,fres_eq,hf,Nat.zero_add]
  rw [hes]
  simp only [Option.map_some,Option.getD_some,hx,Sem.run_bind,stays_run h.ints,Result.andThen_ok,hmod,MapKept.run_setObj_map _ hg,Sem.run_pure,mlook,hf]
  rfl
 | none =>
  refine ⟨es.push ⟨litV k x,.int v 0,es.size⟩,by rw [Array.toList_push,he]; unfold mput; rw [hf,ents_app,hsz,Nat.zero_add],?_⟩
  have hmf : mfind k kvs x = kvs.length := by
   have h1 : mfind k kvs x ≤ kvs.length := List.findIdx_le_length
   have h2 := List.getElem?_eq_none_iff.1 hf
   omega
  unfold Instr.mapEntry
  simp only [Sem.run_bind,run_underlying h.und,Result.andThen_ok,MapKept.run_getObj_map hg,checkKey_run h,he,findKey_run h,fres_eq,hf,h.zero,MapKept.run_setObj_map _ hg,Sem.run_pure,mlook,Array.size_push]
  rw [hmf,hsz]
  rfl

theorem mapUpdate_run {t a b : TypeId} {k : Kd} {v : IntKind} (h : MapTy P t k v a b) {g : Nat} {es : Array MapEntry} {w : World} (hg : w.heap[g]? = some (.map es es.size)) {kvs : List (k.ty × Int)} (he : es.toList = ents k v 0 kvs) (x : k.ty) (n : Int) :
  ∃ es' : Array MapEntry,es'.toList = ents k v 0 (mupd k kvs x n) ∧
  (Instr.mapUpdate t (.map (some g)) (litV k x) (.int v n)).run P w = .ok () { w with heap := w.heap.setIfInBounds g (.map es' es'.size) } := by
 have hsz : es.size = kvs.length := by rw [← Array.length_toList,he,ents_len]
 cases hf : kvs[mfind k kvs x]? with
 | some p =>
  have hx := mfind_at hf h.ints
  have hes : es[mfind k kvs x]? = some ⟨litV k p.1,.int v p.2,mfind k kvs x⟩ := by
   have := ents_get k v kvs 0 (mfind k kvs x)
   rw [← he,hf] at this
   simpa using this
  refine ⟨es.modify (mfind k kvs x) fun e => { e with key := litV k x,val := .int v n },?_,?_⟩
  ·unfold mupd
   rw [hf]
   apply List.ext_getElem?
   intro i
   rw [Array.getElem?_toList,Array.getElem?_modify,ents_get,mset_get]
   have hi := ents_get k v kvs 0 i
   rw [← he,Array.getElem?_toList] at hi
   rw [hi]
   split
   ·rename_i hi'
    subst hi'
    rw [hf]
    simp [hx]
   ·rfl
  ·unfold Instr.mapUpdate
   simp only [Sem.run_bind,run_underlying h.und,Result.andThen_ok,MapKept.run_getObj_map hg,checkKey_run h,he,findKey_run h,fres_eq,hf,Nat.zero_add]
   rw [hes]
   simp only [Option.map_some,Option.getD_some,hx,Sem.run_bind,stays_run h.ints,Result.andThen_ok,MapKept.run_setObj_map _ hg,Array.size_modify]
 | none =>
  refine ⟨es.push ⟨litV k x,.int v n,es.size⟩,by rw [Array.toList_push,he]; unfold mupd; rw [hf,ents_app,hsz,Nat.zero_add],?_⟩
  unfold Instr.mapUpdate
  simp only [Sem.run_bind,run_underlying h.und,Result.andThen_ok,MapKept.run_getObj_map hg,checkKey_run h,he,findKey_run h,fres_eq,hf,MapKept.run_setObj_map _ hg,Array.size_push]

theorem entryStore_run {k : Kd} {v : IntKind} {g : Nat} {es : Array MapEntry} {w : World} (hg : w.heap[g]? = some (.map es es.size)) {kvs : List (k.ty × Int)} (he : es.toList = ents k v 0 kvs) (t : TypeId) (ki : IntKind) (j : Int) (h0 : 0 ≤ j) (hj : j.toNat < kvs.length) (n : Int) :
  ∃ es' : Array MapEntry,es'.toList = ents k v 0 (mset k kvs j.toNat n) ∧
  (Instr.entryStore t (.map (some g)) (.int ki j) (.int v n)).run P w = .ok () { w with heap := w.heap.setIfInBounds g (.map es' es'.size) } := by
 have hsz : es.size = kvs.length := by rw [← Array.length_toList,he,ents_len]
 refine ⟨es.modify j.toNat fun e => { e with val := .int v n },?_,?_⟩
 ·apply List.ext_getElem?
  intro i
  rw [Array.getElem?_toList,Array.getElem?_modify,ents_get,mset_get]
  have hi := ents_get k v kvs 0 i
  rw [← he,Array.getElem?_toList] at hi
  rw [hi]
  split
  ·cases kvs[i]? <;> rfl
  ·rfl
 ·have hfind : es.findIdx? (fun e => (e.born : Int) == j) = some j.toNat := by
   rw [← Array.toArray_toList (xs := es),List.findIdx?_toArray,List.findIdx?_eq_some_iff_getElem]
   have hlen : j.toNat < es.toList.length := by rw [Array.length_toList,hsz]; exact hj
   have hb : ∀ i (hi : i < es.toList.length),es.toList[i].born = i := fun i hi => by
    have := ents_get k v kvs 0 i
    rw [← he,List.getElem?_eq_getElem hi,List.getElem?_eq_getElem (show i < kvs.length by rw [← hsz,← Array.length_toList]; exact hi)] at this
    simp only [Option.map_some,Option.some.injEq] at this
    rw [this]
    simp
   refine ⟨hlen,?_,fun i hi => ?_⟩
   ·rw [hb _ hlen,beq_iff_eq]; omega
   ·rw [hb _ (by omega),beq_iff_eq]; omega
  unfold Instr.entryStore
  simp only [Sem.run_bind,MapKept.run_getObj_map hg,Result.andThen_ok,asInt,asIntOf,Sem.run_pure,hfind,MapKept.run_setObj_map _ hg,Array.size_modify]
end
end Go.Rv
namespace Go.Rv
section
variable {P : Program}

theorem ents_mem (k : Kd) (v : IntKind) (kvs : List (k.ty × Int)) (c : Nat) {e : MapEntry} (h : e ∈ ents k v c kvs) : ∃ j p,kvs[j]? = some p ∧ e = ⟨litV k p.1,.int v p.2,c + j⟩ := by
 obtain ⟨j,hj,rfl⟩ := List.getElem_of_mem h
 have := ents_get k v kvs c j
 rw [List.getElem?_eq_getElem hj] at this
 cases hk : kvs[j]? with
 | none => rw [hk] at this; cases this
 | some p =>
  rw [hk] at this
  simp only [Option.map_some,Option.some.injEq] at this
  exact ⟨j,p,hk,this⟩

theorem mem_left {n : Int} {seen : List Int} {j : Int} : j ∈ leftM n seen ↔ 0 ≤ j ∧ j < n ∧ j ∉ seen := by
 unfold leftM
 simp only [List.mem_filter,List.mem_map,List.mem_range,Bool.not_eq_true',List.contains_eq_mem,decide_eq_false_iff_not]
 constructor
 ·rintro ⟨⟨a,ha,rfl⟩,h⟩
  exact ⟨Int.natCast_nonneg a,by show (a : Int) < n; omega,h⟩
 ·rintro ⟨h0,h1,h2⟩
  exact ⟨⟨j.toNat,by omega,by show ((j.toNat : Nat) : Int) = j; omega⟩,h2⟩

theorem drawM_mem {R : Type} {left : List Int} {f : Int → Option R} {fin : Option R} {r : R} {j : Int} (hj : j ∈ left) (h : drawM left f fin = some r) : f j = some r := by
 unfold drawM at h
 cases left with
 | nil => cases hj
 | cons i l =>
  simp only [List.map_cons,sameAll] at h
  split at h
  ·rename_i hs
   rcases List.mem_cons.1 hj with rfl | hj
   ·exact h
   ·rw [hs (f j) (List.mem_map.2 ⟨j,hj,rfl⟩)]; exact h
  ·cases h

theorem range_run {t a b : TypeId} {k : Kd} {v : IntKind} (h : MapTy P t k v a b) {g : Nat} {es : Array MapEntry} {w : World} (hg : w.heap[g]? = some (.map es es.size)) :
  (Instr.range t (.map (some g))).run P w = .ok (.pointer (some ⟨w.heap.size,0,none⟩)) (w.alloc (.mapIter (some g) es.size #[] es.size)) := by
 unfold Instr.range
 simp [run_underlying h.und,MapKept.run_getObj_map hg]

theorem next_run {k : Kd} {v : IntKind} {g b : Nat} {es : Array MapEntry} {w : World} (hg : w.heap[g]? = some (.map es es.size)) {kvs : List (k.ty × Int)} (he : es.toList = ents k v 0 kvs) {n : Int} {seen : List Int} (hn : n = lenI kvs) (h0 : ∀ j ∈ seen,0 ≤ j)
  (hb : w.heap[b]? = some (.mapIter (some g) n.toNat (seen.map Int.toNat).toArray n.toNat)) (ty : TypeId) :
  (leftM n seen = [] ∧ (Instr.next (.pointer (some ⟨b,0,none⟩)) false ty).run P w = .ok (.tuple #[.bool false]) w) ∨
  ∃ j ∈ leftM n seen,∃ p,geti kvs j = some p ∧ ∃ w1 : World,(w1 = w ∨ w1 = w.drew) ∧ (Instr.next (.pointer (some ⟨b,0,none⟩)) false ty).run P w = .ok (.tuple #[.bool true,litV k p.1,.int v p.2]) { w1 with heap := w1.heap.setIfInBounds b (.mapIter (some g) n.toNat ((seen ++ [j]).map Int.toNat).toArray n.toNat) } := by
 have hsz : es.size = kvs.length := by rw [← Array.length_toList,he,ents_len]
 have hnn : n.toNat = es.size := by rw [hsz,hn]; unfold lenI; omega
 have hborn : ∀ x ∈ es,x.born < es.size := fun x hx => by
  obtain ⟨j,p,h1,rfl⟩ := ents_mem k v kvs 0 (by rw [← he]; exact Array.mem_toList_iff.2 hx)
  have := (List.getElem?_eq_some_iff.1 h1).1
  show 0 + j < es.size
  omega
 have htest : (!(seen.map Int.toNat).toArray.isEmpty && !es.isEmpty && es.all (·.born ≥ n.toNat)) = false := by
  cases hem : es.isEmpty with
  | true => simp
  | false =>
   have hpos : 0 < es.size := by
    rcases Nat.eq_zero_or_pos es.size with h | h
    ·rw [Array.eq_empty_of_size_eq_zero h] at hem; simp at hem
    ·exact h
   have : es.all (·.born ≥ n.toNat) = false := by
    rw [Array.all_eq_false]
    refine ⟨0,hpos,?_⟩
    have := hborn es[0] (Array.getElem_mem hpos)
    simp only [decide_eq_true_eq]
    omega
   rw [this,Bool.and_false]
 simp only [Instr.next,getObj,Sem.run_bind,Sem.run,hg,hb,Result.andThen,htest,Bool.false_eq_true,if_false]
 have hL : ∀ x,x ∈ Array.filter (fun e => !(seen.map Int.toNat).toArray.contains e.born) es → x.born < n.toNat := fun x hx => by
  rw [hnn]; exact hborn x (Array.mem_filter.1 hx).1
 have hL2 : ∀ x,x ∈ Array.filter (fun e => !(seen.map Int.toNat).toArray.contains e.born) es → ∃ j ∈ leftM n seen,∃ p,geti kvs j = some p ∧ x = ⟨litV k p.1,.int v p.2,j.toNat⟩ := fun x hx => by
  obtain ⟨h1,h2⟩ := Array.mem_filter.1 hx
  obtain ⟨j,p,q1,rfl⟩ := ents_mem k v kvs 0 (by rw [← he]; exact Array.mem_toList_iff.2 h1)
  have hlt := (List.getElem?_eq_some_iff.1 q1).1
  refine ⟨(j : Int),mem_left.2 ⟨by omega,by rw [hn]; unfold lenI; omega,fun hm => ?_⟩,p,by simpa [geti] using q1,by simp⟩
  simp only [Nat.zero_add,Bool.not_eq_true',Array.contains_eq_mem,List.mem_toArray,decide_eq_false_iff_not] at h2
  exact h2 (List.mem_map.2 ⟨_,hm,by simp⟩)
 have hL3 : Array.filter (fun e => !(seen.map Int.toNat).toArray.contains e.born) es = #[] → leftM n seen = [] := fun h => by
  cases hl : leftM n seen with
  | nil => rfl
  | cons j r =>
   have hj : j ∈ leftM n seen := by rw [hl]; exact List.mem_cons_self ..
   obtain ⟨j0,j1,j2⟩ := mem_left.1 hj
   have hjl : j.toNat < kvs.length := by rw [hn] at j1; unfold lenI at j1; omega
   have hjs : j.toNat < es.size := by omega
   have hbj : es[j.toNat].born = j.toNat := by
    have := ents_get k v kvs 0 j.toNat
    rw [← he,Array.getElem?_toList,Array.getElem?_eq_getElem hjs,List.getElem?_eq_getElem hjl] at this
    simp only [Option.map_some,Option.some.injEq] at this
    rw [this]; simp
   have hm : es[j.toNat] ∈ Array.filter (fun e => !(seen.map Int.toNat).toArray.contains e.born) es := by
    refine Array.mem_filter.2 ⟨Array.getElem_mem hjs,?_⟩
    rw [hbj]
    simp only [Bool.not_eq_true',Array.contains_eq_mem,List.mem_toArray,decide_eq_false_iff_not]
    intro hm
    obtain ⟨i,hi,hij⟩ := List.mem_map.1 hm
    have := h0 i hi
    exact j2 (by rw [show j = i by omega]; exact hi)
   rw [h] at hm
   simp at hm
 generalize Array.filter (fun e => !(seen.map Int.toNat).toArray.contains e.born) es = M at hL hL2 hL3 ⊢
 have e1 : M.filter (fun x => decide (x.born < n.toNat)) = M := Array.filter_eq_self.2 (fun x hx => by simpa using hL x hx)
 have e2 : M.filter (fun x => decide (x.born ≥ n.toNat)) = #[] := by
  rw [Array.filter_eq_empty_iff]
  intro x hx
  have := hL x hx
  simp
  omega
 simp only [e1,e2,Array.append_empty]
 by_cases hM : M.size = 0
 ·left
  have : M = #[] := Array.eq_empty_of_size_eq_zero hM
  refine ⟨hL3 this,?_⟩
  subst this
  simp [choose,Sem.run,Question.forced]
 ·right
  have hne : M.isEmpty = false := by simp [Array.isEmpty,hM]
  simp only [hne,Bool.false_eq_true,if_false,Array.empty_append,Array.size_map]
  have hch : ∃ (j : Nat) (w1 : World),j < M.size ∧ (w1 = w ∨ w1 = w.drew) ∧ (choose (Question.mapNext M.size)).run P w = .ok j w1 := by
   by_cases hf : M.size ≤ 1
   ·exact ⟨0,w,by omega,Or.inl rfl,by simp [choose,Sem.run,Question.forced,hf]⟩
   ·exact ⟨_,w.drew,Nat.mod_lt _ (by omega),Or.inr rfl,by
     simp only [choose,Sem.run,Question.forced,decide_eq_true_eq,hf,if_false,Question.cut]
     rfl⟩
  obtain ⟨c,w1,hc,hal,hrun⟩ := hch
  obtain ⟨j,hj,p,hp,hx⟩ := hL2 M[c] (Array.getElem_mem hc)
  refine ⟨j,hj,p,hp,w1,hal,?_⟩
  have hb1 : w1.heap[b]? = some (.mapIter (some g) n.toNat (seen.map Int.toNat).toArray n.toNat) := by rcases hal with rfl | rfl <;> exact hb
  simp only [hrun,Array.getElem?_map,Array.getElem?_eq_getElem hc,Option.map_some,Sem.run_bind,setObj,Sem.run,hb1,Result.andThen,hx]
  have e4 : (seen.map Int.toNat).toArray.push j.toNat = ((seen ++ [j]).map Int.toNat).toArray := by simp
  rw [e4,← hnn]
  rfl

theorem entry_run {k : Kd} {v : IntKind} {g b : Nat} {es : Array MapEntry} {w : World} (hg : w.heap[g]? = some (.map es es.size)) {kvs : List (k.ty × Int)} (he : es.toList = ents k v 0 kvs) {n : Int} {seen : List Int} (hn : n = lenI kvs)
  (hb : w.heap[b]? = some (.mapIter (some g) n.toNat (seen.map Int.toNat).toArray n.toNat)) {j : Int} (hj : seen.getLast? = some j) {p : k.ty × Int} (hp : geti kvs j = some p) :
  (Instr.entry (.pointer (some ⟨b,0,none⟩))).run P w = .ok (.tuple #[litV k p.1,.int v p.2]) w := by
 have hsz : es.size = kvs.length := by rw [← Array.length_toList,he,ents_len]
 have hnn : n.toNat = es.size := by rw [hsz,hn]; unfold lenI; omega
 have hback : ((seen.map Int.toNat).toArray).back? = some j.toNat := by
  simp [List.getLast?_map,hj]
 obtain ⟨j0,hjk⟩ : 0 ≤ j ∧ kvs[j.toNat]? = some p := by
  unfold geti at hp
  split at hp
  ·exact ⟨by assumption,hp⟩
  ·cases hp
 have hjl := (List.getElem?_eq_some_iff.1 hjk).1
 have hbi : ∀ i (hi : i < es.size),es[i].born = i ∧ (∀ q,kvs[i]? = some q → es[i] = ⟨litV k q.1,.int v q.2,i⟩) := fun i hi => by
  have := ents_get k v kvs 0 i
  rw [← he,Array.getElem?_toList,Array.getElem?_eq_getElem hi,List.getElem?_eq_getElem (show i < kvs.length by omega)] at this
  simp only [Option.map_some,Option.some.injEq,Nat.zero_add] at this
  refine ⟨by rw [this],fun q hq => ?_⟩
  rw [List.getElem?_eq_getElem (show i < kvs.length by omega)] at hq
  simp only [Option.some.injEq] at hq
  rw [this,hq]
 have hfind : es.find? (·.born == j.toNat) = some ⟨litV k p.1,.int v p.2,j.toNat⟩ := by
  rw [Array.find?_eq_some_iff_getElem]
  refine ⟨by simp,j.toNat,by omega,(hbi _ (by omega)).2 p hjk,fun i hi => ?_⟩
  rw [(hbi i (by omega)).1]
  simp
  omega
 simp only [Instr.entry,getObj,Sem.run_bind,Sem.run,hg,hb,Result.andThen,hback,hnn,bne_self_eq_false,Bool.false_eq_true,if_false,hfind]
 rfl
end
end Go.Rv
namespace Go.Rv
section
variable {w : World} {C : Col} {R Al : Nat → Prop} {H : Nat → Value} {P : Program} {S : Upd}

theorem offA_ok {x v : AVal} {cx : Value} {off : Nat} (ha : AV w R Al H x cx) (h : offA x off = some v) : ∃ a : Addr,cx = .pointer (some a) ∧ AV w R Al H v (.pointer (some (a.add off))) := by
 unfold offA at h
 split at h
 ·simp only [Option.some.injEq] at h
  subst h
  simp only [AV] at ha
  obtain ⟨h1,b,e1,rfl⟩ := ha
  exact ⟨_,rfl,by simp only [AV]; exact ⟨h1,b,e1,by rw [Addr.add_lit]⟩⟩
 ·simp only [Option.some.injEq] at h
  subst h
  simp only [AV] at ha
  obtain ⟨h1,g,n,c,e1,rfl⟩ := ha
  exact ⟨_,rfl,by simp only [AV]; exact ⟨h1,g,n,c,e1,by rw [Addr.add_lit,Nat.add_assoc]⟩⟩
 ·simp only [Option.some.injEq] at h
  subst h
  simp only [AV] at ha
  obtain ⟨a,fl,rfl,e2,e3⟩ := ha
  exact ⟨_,rfl,by simp only [AV]; exact ⟨a,fl,by rw [Addr.add_add],e2,e3⟩⟩
 ·cases h

theorem run_build {t : TypeId} {ti : TI} {i : TypeInfo} {d : TypeDesc} {z : Value} (h : TIok P t ti i d z) {fs : Array Field} (hd : d = .struct fs) (hsz : ∀ f ∈ fs.toList,(P.info? f.type).isSome = true) (parts : Array (Nat × Value)) (cells : Array Value)
  (hf : ∀ place : Nat → Option (Nat × Nat),(∀ (j off sz tt : Nat),ti.flds[j]? = some (off,sz,tt) → place j = some (off,sz)) → Instr.fill place z.cells parts.toList = some cells) (w' : World) :
  (Instr.build t parts).run P w' = .ok (.agg cells) w' := by
 subst hd
 have hp : ∀ (l : List Field),(∀ f ∈ l,(P.info? f.type).isSome = true) → l.mapM (fun f => (P.info? f.type).map fun i => (f.offset,i.size)) = some (l.map fun f => (f.offset,P.cellsOf f.type)) := by
  intro l
  induction l with
  | nil => intro _; rfl
  | cons f r ih =>
   intro hl
   obtain ⟨j,hj⟩ := Option.isSome_iff_exists.1 (hl f (by simp))
   have ih := ih (fun g hg => hl g (by simp [hg]))
   simp only [List.mapM_cons,hj,Option.map_some,Option.bind_eq_bind,Option.bind_some,ih,Option.pure_def,List.map_cons,Option.some.injEq,List.cons.injEq,Prod.mk.injEq,true_and,and_true]
   simp [Program.cellsOf,hj]
 have hr := run_places (P := P) w' fs.toList _ (hp _ hsz)
 have hff := hf (fun j => (fs.toList.map fun f => (f.offset,P.cellsOf f.type))[j]?) (fun j off sz tt hj => by
  rw [h.flds] at hj
  simp only [fldsD,List.getElem?_map,Option.map_eq_some_iff,Prod.mk.injEq] at hj
  obtain ⟨g,hg,h1,h2,h3⟩ := hj
  simp [hg,h1,h2])
 simp only [List.getElem?_map,Array.getElem?_toList] at hff
 simp [Instr.build,h.run_zero,h.run_und,Array.mapM_eq_mapM_toList,hr,hff]

theorem kdOf_int {n : Nat} {t : TypeId} {k : IntKind} (h : kdOf P n t = some (.int k)) : P.underlying t = some (.int k) := by
 cases n with
 | zero => simp [kdOf] at h
 | succ n =>
  unfold kdOf at h
  split at h
  ·rename_i hu; simp only [Option.some.injEq,Kd.int.injEq] at h; rw [hu,h]
  ·cases h
  ·cases h
  ·cases hk : kdOf P n _ <;> rw [hk] at h <;> simp at h
  ·rename_i fs hu
   split at h
   ·cases hk : kdOf P n _ <;> rw [hk] at h <;> simp at h
   ·rename_i l hl
    revert h
    cases hfs : fs.toList with
    | nil => simp [kdGo]
    | cons f r =>
     cases r with
     | nil => intro _; exact absurd hfs (hl f)
     | cons g r =>
      unfold kdGo
      cases kdOf P n f.type <;> cases kdGo (kdOf P n) (g :: r) <;> simp
  ·cases h

theorem kdOf_str {n : Nat} {t : TypeId} (h : kdOf P n t = some .str) : P.underlying t = some .string := by
 cases n with
 | zero => simp [kdOf] at h
 | succ n =>
  unfold kdOf at h
  split at h
  ·cases h
  ·cases h
  ·assumption
  ·cases hk : kdOf P n _ <;> rw [hk] at h <;> simp at h
  ·rename_i fs hu
   split at h
   ·cases hk : kdOf P n _ <;> rw [hk] at h <;> simp at h
   ·rename_i l hl
    revert h
    cases hfs : fs.toList with
    | nil => simp [kdGo]
    | cons f r =>
     cases r with
     | nil => intro _; exact absurd hfs (hl f)
     | cons g r =>
      unfold kdGo
      cases kdOf P n f.type <;> cases kdGo (kdOf P n) (g :: r) <;> simp
  ·cases h

theorem run_convert_int {s d : TypeId} {ds : TypeDesc} {k k' : IntKind} {n : Int} (hs : P.underlying s = some ds) (hd : P.underlying d = some (.int k)) (w' : World) : (convert s d (.int k' n)).run P w' = .ok (.int k (k.wrap n)) w' := by
 unfold convert
 simp only [Sem.run_bind,run_underlying hs,run_underlying hd,Result.andThen_ok]
 cases ds <;> simp [Conv.intToInt]

theorem run_field {t : TypeId} {ti : TI} {i : TypeInfo} {d : TypeDesc} {z : Value} (h : TIok P t ti i d z) {f off sz tt : Nat} (hf : ti.flds[f]? = some (off,sz,tt)) {tf : TI} {i' : TypeInfo} {d' : TypeDesc} {z' : Value} (h' : TIok P tt tf i' d' z') (hs : sz = tf.size) (hz : 0 < sz)
  (cells : Array Value) (fl : List Value) (hfl : fl = (cells.toList.drop off).take sz) (_ : fl.length = sz) (cv : Value) (hv : match tf.agg with | true => cv = .agg fl.toArray | false => fl = [cv]) (w' : World) :
  (Instr.field t (.agg cells) f).run P w' = .ok cv w' := by
 rw [h.flds] at hf
 have hu := h.run_und w'
 cases d with
 | struct fs =>
  simp only [fldsD,List.getElem?_map,Option.map_eq_some_iff,Prod.mk.injEq] at hf
  obtain ⟨g,hg,h1,h2,h3⟩ := hf
  have hg' : fs[f]? = some g := by simpa using hg
  subst h1 h3
  cases hag : tf.agg
  ·rw [hag] at hv
   simp only at hv
   have hcell : cells[g.offset]? = some cv := by
    rw [hfl] at hv
    have hlt : g.offset < cells.toList.length := by
     rcases Nat.lt_or_ge g.offset cells.toList.length with h' | h'
     ·exact h'
     ·rw [List.drop_eq_nil_of_le h'] at hv; simp at hv
    have h0 : ((cells.toList.drop g.offset).take sz)[0]? = some cv := by rw [hv]; rfl
    rw [List.getElem?_take,if_pos hz,List.getElem?_drop] at h0
    simpa using h0
   simp [Instr.field,hu,hg',asAgg,part,h'.run_agg,hag,hcell]
  ·rw [hag] at hv
   simp only at hv
   subst hv
   simp only [Instr.field,hu,hg',asAgg,part,h'.run_agg,hag,h'.run_size,Sem.run_bind,Sem.run_pure,Result.andThen_ok,if_true]
   congr 2
   apply Array.ext'
   rw [hfl,hs]
   simp [List.extract_eq_take_drop]
 | map k e =>
  cases f with
  | zero => simp only [fldsD,List.getElem?_cons_zero,Option.some.injEq,Prod.mk.injEq] at hf; omega
  | succ f => simp [fldsD] at hf
 | _ => simp [fldsD] at hf

theorem same_some {α : Type} {x y : Option α} {r : α} (h : same x y = some r) : x = some r ∧ y = some r := by
 unfold same at h
 split at h
 ·rename_i he; exact ⟨h,by rw [← he]; exact h⟩
 ·cases h

theorem run_eq_nil {t e : TypeId} (hu : P.underlying t = some (.slice e)) (A : Option Addr) (n c : Nat) (w' : World) : (Op.equal t (.slice A n c) (.slice none 0 0)).run P w' = .ok A.isNone w' := by
 unfold Op.equal Op.maxDepth Op.equalIn
 simp only [Sem.run_bind,run_underlying hu,Result.andThen_ok]
 cases A <;> simp

theorem AVs_map0 {st : St} {a : Act} (ok : ∀ x,AV w R Al H (oper st x) (a.eval x)) : ∀ (xs : List Operand),AVs w R Al H (xs.map (oper st)) (xs.map a.eval)
 | [] => by simp [AVs]
 | x :: xs => by simp only [List.map_cons,AVs]; exact ⟨_,_,rfl,ok x,AVs_map0 ok xs⟩

theorem shiftA_ok {t : TypeId} {op : BinOp} {vx vy : AVal} {x y : Value} (hx : AV w R Al H vx x) (hy : AV w R Al H vy y) (X Y : Operand) {α : Type} {k : AVal → Option α} {r : α} (h : shiftA op vx vy k = some r) :
  ∃ v cv,k v = some r ∧ AV w R Al H v cv ∧ ∀ w',(do eqGuard op t X Y x y; binOp op t x y).run P w' = .ok cv w' := by
 unfold shiftA at h
 split at h
 ·rename_i ka a kb b
  simp only [AV] at hx hy
  subst hx hy
  have hg : ∀ w',(eqGuard op t X Y (.int ka a) (.int kb b)).run P w' = .ok () w' := fun w' => run_guard_other ⟨(fun _ h => by cases h),(fun h => by cases h)⟩ w'
  split at h
  ·obtain ⟨h1,h2⟩ := chk_some h
   have h1 := of_decide_eq_true h1
   refine ⟨_,_,h2,by simp [AV]; rfl,fun w' => ?_⟩
   rw [Sem.run_bind,hg,Result.andThen_ok]
   have : ¬ b < 0 := by omega
   simp [binOp,Op.shift,this]
  ·obtain ⟨h1,h2⟩ := chk_some h
   have h1 := of_decide_eq_true h1
   refine ⟨_,_,h2,by simp [AV]; rfl,fun w' => ?_⟩
   rw [Sem.run_bind,hg,Result.andThen_ok]
   have : ¬ b < 0 := by omega
   simp [binOp,Op.shift,this]
  ·cases h
 ·cases h

theorem extrA_max {j : IntKind} : ∀ (vs : List AVal) (cvs : List Value) (n : Int),AVs w R Al H vs cvs → ∀ {α : Type} {k : AVal → Option α} {r : α},extrA true j n vs k = some r → ∃ m,k (.int j m) = some r ∧ ∀ w',(cvs.foldlM Builtin.max2 (.int j n)).run P w' = .ok (.int j m) w'
 | [],cvs,n,h,α,k,r,hk => by
  simp only [AVs] at h
  subst h
  exact ⟨n,hk,fun w' => by simp⟩
 | v :: vs,cvs,n,h,α,k,r,hk => by
  simp only [AVs] at h
  obtain ⟨c,cs,rfl,h1,h2⟩ := h
  cases v <;> simp only [extrA] at hk <;> first | (cases hk; done) | skip
  rename_i j' m
  split at hk
  ·rename_i hj
   subst hj
   simp only [AV] at h1
   subst h1
   obtain ⟨q,h3,h4⟩ := extrA_max vs cs _ h2 hk
   refine ⟨q,h3,fun w' => ?_⟩
   simp only [List.foldlM_cons,Sem.run_bind,Builtin.max2,Sem.run_pure,Result.andThen_ok]
   exact h4 w'
  ·cases hk

theorem extrA_min {j : IntKind} : ∀ (vs : List AVal) (cvs : List Value) (n : Int),AVs w R Al H vs cvs → ∀ {α : Type} {k : AVal → Option α} {r : α},extrA false j n vs k = some r → ∃ m,k (.int j m) = some r ∧ ∀ w',(cvs.foldlM Builtin.min2 (.int j n)).run P w' = .ok (.int j m) w'
 | [],cvs,n,h,α,k,r,hk => by
  simp only [AVs] at h
  subst h
  exact ⟨n,hk,fun w' => by simp⟩
 | v :: vs,cvs,n,h,α,k,r,hk => by
  simp only [AVs] at h
  obtain ⟨c,cs,rfl,h1,h2⟩ := h
  cases v <;> simp only [extrA] at hk <;> first | (cases hk; done) | skip
  rename_i j' m
  split at hk
  ·rename_i hj
   subst hj
   simp only [AV] at h1
   subst h1
   obtain ⟨q,h3,h4⟩ := extrA_min vs cs _ h2 hk
   refine ⟨q,h3,fun w' => ?_⟩
   simp only [List.foldlM_cons,Sem.run_bind,Builtin.min2,Sem.run_pure,Result.andThen_ok]
   exact h4 w'
  ·cases hk

variable (hx : Ctx w C R Al H S)
include hx

theorem nilEq_ok {x : AVal} {cx : Value} (ha : AV w R Al H x cx) {α : Type} {k : Bool → Option α} {r : α} (h : nilEq S x k = some r) :
  ∃ A n c,cx = .slice A n c ∧ k A.isNone = some r := by
 have two : ∀ (A : Option Addr) (xs : Bool),(xs = false → A.isNone = false) → cond xs (same (k true) (k false)) (k false) = some r → k A.isNone = some r := by
  intro A xs hA h
  cases xs with
  | false => rw [hA rfl]; exact h
  | true =>
   obtain ⟨h1,h2⟩ := same_some h
   cases A.isNone <;> assumption
 have rp : ∀ (e : Kd) (xs : List e.ty) (p : List Nat) (i : Nat),Rp w noC R i (.sl none e) xs p [cx] → cond xs.isEmpty (same (k true) (k false)) (k false) = some r → ∃ A n c,cx = .slice A n c ∧ k A.isNone = some r := by
  rintro e xs p i ⟨A,n,c,fl,he,hn,hc,hl,hat⟩ h
  simp only [List.cons.injEq,and_true] at he
  refine ⟨A,n,c,he,two A xs.isEmpty (fun hxs => ?_) h⟩
  rcases hat with hat | ⟨a,ha,_⟩
  ·rw [hat] at hxs; simp at hxs
  ·rw [ha]; rfl
 unfold nilEq at h
 split at h
 ·simp only [AV] at ha
  subst ha
  exact ⟨none,0,0,rfl,h⟩
 ·simp only [AV] at ha
  obtain ⟨A,ha⟩ := ha
  refine ⟨A,0,0,ha,?_⟩
  obtain ⟨h1,h2⟩ := same_some h
  cases A.isNone <;> assumption
 ·rename_i e xs
  simp only [AV] at ha
  exact rp e xs [] 0 ha h
 ·rename_i i
  simp only [AV] at ha
  obtain ⟨hal,rfl⟩ := ha
  split at h
  ·rename_i t e xs hs
   obtain ⟨_,fl,ho,_,_⟩ := row_ok hx hs
   rcases ho.2 with ⟨A,h0,h1⟩ | ⟨g,cap,cur,hv,hb,hg,rr⟩
   ·refine ⟨A,0,0,h0,two A xs.isEmpty (fun hxs => ?_) h⟩
    rw [List.length_eq_zero_iff.1 h1] at hxs
    simp at hxs
   ·exact ⟨_,_,_,hv,two _ xs.isEmpty (fun _ => rfl) h⟩
  ·rename_i e xs hs
   have := hx.ent i
   rw [hs] at this
   exact rp e xs [] 0 this h
  ·cases h
 ·cases h

omit hx in
theorem mapA_ok {T : Tab} (hT : TabOK P T) {S : Upd} {t : Nat} {x ix : AVal} {α : Type} {f : (k : Kd) → IntKind → Nat → List (k.ty × Int) → k.ty → Option α} {r : α} (h : mapA T S t x ix f = some r) :
  ∃ (k : Kd) (v : IntKind) (i : Nat) (kvs : List (k.ty × Int)) (y : k.ty),(∃ a b,MapTy P t k v a b) ∧ True ∧ x = .ref i ∧ getS S i = .mp k v kvs ∧ datum [] k ix = some y ∧ f k v i kvs y = some r := by
 unfold mapA at h
 split at h
 ·rename_i k v i hm
  split at h
  ·rename_i k' v' kvs hs
   split at h
   ·rename_i hk
    obtain ⟨rfl,rfl⟩ := hk
    split at h
    ·rename_i y hy
     exact ⟨k',v',i,kvs,y,mapT_ok hT hm,trivial,rfl,hs,hy,h⟩
    ·cases h
   ·cases h
  ·cases h
 ·cases h

theorem str_ok {s d e : TypeId} (hs : P.underlying s = some (.slice e)) (he : P.underlying e = some (.int .u8)) (hd : P.underlying d = some .string) {v : AVal} {cv : Value} (ha : AV w R Al H v cv) {xs : List Int}
  (h : frozenL S (.int .u8) v = some xs) : ∀ w',Ext w w' → (convert s d cv).run P w' = .ok (.string (strOfNums xs)) w' := by
 intro w' hw
 have key : ∀ (A : Option Addr) (n c : Nat),cv = .slice A n c → n = xs.length → (xs = [] ∨ ∃ a,A = some a ∧ ∀ (j : Nat) (u : Value),(xs.map (Value.int .u8))[j]? = some u → w'.cell? (a.add j) = some u) → (convert s d cv).run P w' = .ok (.string (strOfNums xs)) w' := by
  rintro A n c rfl rfl hc
  rw [run_convert_bytes_string w' s d e A _ c hs he hd]
  cases A with
  | none =>
   rcases hc with rfl | ⟨a,h,_⟩
   ·simp [Conv.bytesToString,strOfNums]; rfl
   ·cases h
  | some a =>
   have hl := run_loadCells_list (P := P) w' a (xs.map (Value.int .u8)) (fun j u hj => by
    rcases hc with rfl | ⟨a',h,hc⟩
    ·simp at hj
    ·cases h; exact hc j u hj)
   rw [List.length_map] at hl
   rw [run_bytesToString w' a _ c xs hl,foldl_push_bytes]
   simp [strOfNums,ByteArray.empty,ByteArray.emptyWithCapacity]
   rfl
 have rp : ∀ (v1 : Value),Rp w noC R 0 (.sl none (.int .u8)) xs [] [v1] → cv = v1 → (convert s d cv).run P w' = .ok (.string (strOfNums xs)) w' := by
  rintro v1 ⟨A,n,c,fl,h1,h2,h3,h4,h5⟩ rfl
  have hfl : ∀ (ys : List Int) (b : Nat) (gl : List Value),Lst (fun j x c => Rp w noC R 0 (.int .u8) x (j :: []) c) b ys gl → gl = ys.map (Value.int .u8) := by
   intro ys
   induction ys with
   | nil => intro b gl h; exact h
   | cons y ys ih =>
    rintro b gl ⟨c1,r,rfl,hc1,hr⟩
    have hc1 : c1 = [.int .u8 y] := hc1
    rw [hc1,ih _ _ hr]; rfl
  have hfl := hfl xs 0 fl h4
  subst hfl
  simp only [List.cons.injEq,and_true] at h1
  refine key A n c h1 h2 ?_
  rcases h5 with h5 | ⟨a,rfl,hat⟩
  ·exact .inl h5
  ·refine .inr ⟨a,rfl,fun j u hj => ?_⟩
   have h6 := hat.2.2 j u hj
   have hb : (a.add j).block < w.heap.size := by
    unfold World.cell? at h6
    cases hg : w.heap[(a.add j).block]? with
    | none => rw [hg] at h6; cases h6
    | some o => exact (Array.getElem?_eq_some_iff.1 hg).1
   rw [World.cell?_of_block (hw _ hb)]; exact h6
 cases v <;> simp only [frozenL] at h <;> first | (cases h; done) | skip
 case nil =>
  cases h
  simp only [AV] at ha
  exact key none 0 0 ha rfl (.inl rfl)
 case emp =>
  cases h
  simp only [AV] at ha
  obtain ⟨A,ha⟩ := ha
  exact key A 0 0 ha rfl (.inl rfl)
 case sl e' ys =>
  obtain ⟨rfl,rfl⟩ := castL_some h
  simp only [AV] at ha
  exact rp cv ha rfl
 case ref i =>
  split at h
  ·rename_i e' ys hg
   obtain ⟨rfl,rfl⟩ := castL_some h
   simp only [AV] at ha
   have hent := hx.ent i
   rw [hg] at hent
   exact rp (H i) hent ha.2
  ·rename_i t' e' ys hg
   obtain ⟨rfl,rfl⟩ := castL_some h
   simp only [AV] at ha
   obtain ⟨_,rfl⟩ := ha
   obtain ⟨_,fl,ho,_,hl⟩ := row_ok hx hg
   have hfl : ∀ (ys : List Int) (b : Nat) (gl : List Value),Lst (fun j x c => Rp w C R i (.int .u8) x (j :: []) c) b ys gl → gl = ys.map (Value.int .u8) := by
    intro ys
    induction ys with
    | nil => intro b gl h; exact h
    | cons y ys ih =>
     rintro b gl ⟨c1,r,rfl,hc1,hr⟩
     have hc1 : c1 = [.int .u8 y] := hc1
     rw [hc1,ih _ _ hr]; rfl
   have hfl := hfl _ 0 fl hl
   subst hfl
   rcases ho.2 with ⟨A,hA,hn⟩ | ⟨g,cap,cur,hv,hcap,_⟩
   ·have hnil := List.eq_nil_of_length_eq_zero hn
    exact key A 0 0 hA (by rw [hnil]; rfl) (.inl hnil)
   ·refine key _ _ _ hv rfl (.inr ⟨_,rfl,fun j u hj => ?_⟩)
    have how := ho.row (g := g) (by rw [hv]; exact ownB_of hcap)
    rw [hv] at how
    have h6 := how.cells (g := g) rfl j u hj
    have hb : ((⟨g,0,none⟩ : Addr).add j).block < w.heap.size := by
     unfold World.cell? at h6
     cases hg : w.heap[((⟨g,0,none⟩ : Addr).add j).block]? with
     | none => rw [hg] at h6; cases h6
     | some o => exact (Array.getElem?_eq_some_iff.1 hg).1
    rw [World.cell?_of_block (hw _ hb)]; exact h6
  ·cases h

theorem qop_ok {T : Tab} (hT : TabOK P T) {st : St} (hS : st.sto = S) {a : Act} (he : ∀ t, AV w R Al H (getE st.env t) (a.tmps.getD t undef)) {o : Oper} {α : Type} {k : AVal → Option α} {r : α} (h : qop T st o k = some r) :
    ∃ v cv, k v = some r ∧ AV w R Al H v cv ∧ ∀ w', Ext w w' → (execOp a.eval o).run P w' = .ok (.value cv) w' := by
  have ok := fun x => oper_ok (w := w) (R := R) (Al := Al) (H := H) (st := st) (a := a) he x
  obtain ⟨dst, op, type, pos, after, guard⟩ := o
  have fin : ∀ (s : Sem Value) (v : AVal), execOp a.eval ⟨dst, op, type, pos, after, guard⟩ = (do pure (.value (← s))) → k v = some r → (∃ cv, AV w R Al H v cv ∧ ∀ w', Ext w w' → s.run P w' = .ok cv w') →
      ∃ v cv, k v = some r ∧ AV w R Al H v cv ∧ ∀ w', Ext w w' → (execOp a.eval ⟨dst, op, type, pos, after, guard⟩).run P w' = .ok (.value cv) w' := by
    rintro s v e1 e2 ⟨cv, e3, e4⟩
    refine ⟨v, cv, e2, e3, fun w' hw' => ?_⟩
    rw [e1, Sem.run_bind, e4 w' hw']
    rfl
  cases op <;> simp only [qop] at h <;> first | (cases h; done) | skip
  case move x => exact ⟨_, _, h, ok x, fun w' _ => rfl⟩
  case assign x => exact ⟨_, _, h, ok x, fun w' _ => rfl⟩
  case pick c x y =>
    split at h
    · rename_i cb hcb
      have hc := ok c
      rw [hcb] at hc
      simp only [AV] at hc
      have hx := ok x
      have hy := ok y
      split at h
      · rename_i bx by' e1 e2
        rw [e1] at hx
        rw [e2] at hy
        simp only [AV] at hx hy
        refine ⟨_, .bool (cond cb bx by'), h, by simp [AV], fun w' _ => ?_⟩
        simp only [execOp, Sem.run_bind, hc, asBool, Sem.run_pure, Result.andThen_ok, hx, hy]
        cases cb <;> rfl
      · cases cb
        · refine ⟨_, a.eval y, h, hy, fun w' _ => ?_⟩
          simp only [execOp, Sem.run_bind, hc, asBool, Sem.run_pure, Result.andThen_ok]
          rfl
        · refine ⟨_, a.eval x, h, hx, fun w' _ => ?_⟩
          simp only [execOp, Sem.run_bind, hc, asBool, Sem.run_pure, Result.andThen_ok]
          rfl
    · cases h
  case lookup t x ix cm =>
    cases cm with
    | true => cases h
    | false =>
      simp only at h
      obtain ⟨k1, v1, i, kvs, y, a1, b1, c1, d1, e1, f1⟩ := mapA_ok hT h
      subst hS
      have hx' := ok x
      rw [c1] at hx'
      simp only [AV] at hx'
      have he := hx.ent i
      rw [d1] at he
      obtain ⟨g, es, g1, g2, g3, g4, g5⟩ := he
      have hk := datum_ints g4 e1 (ok ix)
      obtain ⟨q1, q2, hm⟩ := a1
      refine fin _ _ rfl f1 ⟨.int v1 (mlook k1 kvs y), by simp only [AV], fun w' hw' => ?_⟩
      rw [hx'.2, g1, hk]
      exact lookup_run hm (by rw [hw' g (hx.colt g i [] g2)]; exact g3) g5 y
  case makeFunc f as cs =>
    cases f <;> simp only at h <;> first | (cases h; done) | skip
    rename_i f
    refine fin (Instr.makeFunc (.func f) (as.map a.eval) (cs.map a.eval)) _ (by simp [execOp]) h ⟨.func (.func f) (as.map a.eval) (cs.map a.eval), ?_, fun w' _ => rfl⟩
    simp only [AV]
    exact ⟨_, _, rfl, by rw [Array.toList_map]; exact AVs_map0 ok as.toList, by rw [Array.toList_map]; exact AVs_map0 ok cs.toList⟩
  case binOp op t x y t' =>
    split at h
    · rename_i hn
      have hy : a.eval y = .slice none 0 0 := by
        have := ok y
        revert this hn
        cases oper st y <;> simp [isNil, AV]
      have hsl : isSl (T.get t) = true → ∃ e, P.underlying t = some (.slice e) := by
        intro hs
        unfold isSl at hs
        split at hs
        · rename_i ti ht
          obtain ⟨i, d, z, hr⟩ := hT.row ht
          simp only [Nat.blt_eq] at hs
          have h1 := hr.elem
          have h2 := hr.und
          cases d <;> simp only [elemD] at h1 <;> first | (exact ⟨_, h2⟩) | omega
        · cases hs
      have hg : ∀ (A : Option Addr) (n c : Nat) w', (eqGuard op t x y (.slice A n c) (.slice none 0 0)).run P w' = .ok () w' := fun A n c w' => run_guard_other ⟨(fun _ h => by cases h), (fun h => by cases h)⟩ w'
      cases op <;> simp only at h <;> first | (cases h; done) | skip
      all_goals
        obtain ⟨h1, h2⟩ := chk_some h
        obtain ⟨e, hu⟩ := hsl h1
        subst hS
        obtain ⟨A, n, c, e1, e2⟩ := nilEq_ok hx (ok x) h2
        refine fin _ _ rfl e2 ⟨_, by simp only [AV]; rfl, fun w' _ => ?_⟩
        rw [e1, hy, Sem.run_bind, hg, Result.andThen_ok]
        simp only [binOp, Sem.run_bind, run_eq_nil hu, Result.andThen_ok, Sem.run_pure]
    · cases hsh : shiftB op
      · rw [hsh] at h
        obtain ⟨v, cv, e1, e2, e3⟩ := binA_ok hT (ok x) (ok y) x y h
        exact fin _ v rfl e1 ⟨cv, e2, fun w' _ => e3 w'⟩
      · rw [hsh] at h
        simp only [cond_true] at h
        obtain ⟨v, cv, e1, e2, e3⟩ := shiftA_ok (P := P) (t := t) (ok x) (ok y) x y h
        exact fin _ v rfl e1 ⟨cv, e2, fun w' _ => e3 w'⟩
  case slice t x lo hi mx =>
    split at h
    · rename_i ti l hh m ht hl hhi hm
      obtain ⟨i1, d1, z1, r1⟩ := hT.row ht
      have go : ∀ (str : Bool) (size e : Nat), (str = false → P.underlying t = some (.slice e) ∧ ∀ w, (sizeOf e).run P w = .ok size w) → (str = true → P.underlying t = some .string) → sliceA st.sto str size (oper st x) l hh m k = some r →
          ∃ v cv, k v = some r ∧ AV w R Al H v cv ∧ ∀ w', Ext w w' → (execOp a.eval ⟨dst, .slice t x lo hi mx, type, pos, after, guard⟩).run P w' = .ok (.value cv) w' := fun str size e hu hstr hk => by
        subst hS
        obtain ⟨v, cv, e1, e2, e3⟩ := sliceA_ok (P := P) hx hu hstr (ok x) (intO_ok ok hl) (intO_ok ok hhi) (intO_ok ok hm) hk
        exact fin _ v rfl e1 ⟨cv, e2, e3⟩
      split at h
      · rename_i hb
        simp only [Nat.blt_eq] at hb
        split at h
        · rename_i te hte
          obtain ⟨i2, d2, z2, r2⟩ := hT.row hte
          have hu : P.underlying t = some (.slice ti.elem) := by
            have h1 := r1.elem
            have h2 := r1.und
            cases d1 <;> simp only [elemD] at h1 <;> first | (rw [h1]; exact h2) | omega
          exact go false te.size ti.elem (fun _ => ⟨hu, r2.run_size⟩) (fun hh => by cases hh) h
        · cases h
      · obtain ⟨h1, h2⟩ := chk_some h
        simp only [beq_iff_eq] at h1
        exact go true 0 0 (fun hh => by cases hh) (fun _ => kdOf_str (r1.kd _ h1).1) h2
    · cases h
  case index t x i =>
    split at h
    · rename_i ti s ki n ht hs hi
      obtain ⟨h1, h2⟩ := chk_some h
      simp only [beq_iff_eq] at h1
      obtain ⟨i1, d1, z1, r1⟩ := hT.row ht
      have hu := kdOf_str (r1.kd _ h1).1
      cases hg : geti s.data.toList n with
      | none => rw [hg] at h2; cases h2
      | some b =>
        rw [hg] at h2
        obtain ⟨g0, g1, g2⟩ := geti_some hg
        have hx' := ok x
        rw [hs] at hx'
        have hi' := ok i
        rw [hi] at hi'
        simp only [AV] at hx' hi'
        refine fin _ _ rfl h2 ⟨.int .u8 (b.toNat : Int), by simp only [AV], fun w' _ => ?_⟩
        have hlt : n.toNat < s.data.toList.length := (List.getElem?_eq_some_iff.1 g1).1
        have hlt' : n.toNat < s.size := by rw [Array.length_toList] at hlt; exact hlt
        have hb : s[n.toNat]'hlt' = b := (List.getElem?_eq_some_iff.1 g1).2
        rw [hx', hi', run_index_string (P := P) w' t s ki n hu, dif_pos ⟨g0, by omega⟩, hb]
    · cases h
  case unOp op t x =>
    split at h
    · rename_i b hb
      have hx := ok x
      rw [hb] at hx
      simp only [AV] at hx
      exact fin _ _ rfl h ⟨.bool !b, by simp [AV], fun w' _ => by rw [hx]; simp [Op.unary]⟩
    · rename_i j n hb
      have hx := ok x
      rw [hb] at hx
      simp only [AV] at hx
      exact fin _ _ rfl h ⟨.int j (j.wrap (-n)), by simp [AV], fun w' _ => by rw [hx]; simp [Op.unary, Op.intArith]⟩
    · cases h
  case nilCheck x =>
    have hx := ok x
    split at h
    · rename_i i o' e1
      rw [e1] at hx
      have hx' := hx
      simp only [AV] at hx'
      obtain ⟨_, b, _, hv⟩ := hx'
      exact ⟨_, a.eval x, h, hx, fun w' _ => by simp only [execOp, hv]; rfl⟩
    · rename_i i s j o' e1
      rw [e1] at hx
      have hx' := hx
      simp only [AV] at hx'
      obtain ⟨_, b, _, _, _, hv⟩ := hx'
      exact ⟨_, a.eval x, h, hx, fun w' _ => by simp only [execOp, hv]; rfl⟩
    · rename_i e y o' e1
      rw [e1] at hx
      have hx' := hx
      simp only [AV] at hx'
      obtain ⟨b, _, hv, _⟩ := hx'
      exact ⟨_, a.eval x, h, hx, fun w' _ => by simp only [execOp, hv]; rfl⟩
    · cases h
  case convert s d x =>
    split at h
    · rename_i ts td j n h1 h2 h3
      split at h
      · rename_i kd hk
        have hx := ok x
        rw [h3] at hx
        simp only [AV] at hx
        obtain ⟨i1, d1, z1, r1⟩ := hT.row h1
        obtain ⟨i2, d2, z2, r2⟩ := hT.row h2
        exact fin _ _ rfl h ⟨.int kd (kd.wrap n), by simp [AV], fun w' _ => by rw [hx]; exact run_convert_int r1.und (kdOf_int (r2.kd _ hk).1) w'⟩
      · cases h
    · rename_i ts td h1 h2 _
      unfold strC at h
      split at h
      · rename_i hk
        split at h
        · rename_i te hte
          split at h
          · rename_i hke
            obtain ⟨hb, h'⟩ := chk_some h
            simp only [Nat.blt_eq] at hb
            split at h'
            · rename_i xs hxs
              obtain ⟨i1, d1, z1, r1⟩ := hT.row h1
              obtain ⟨i2, d2, z2, r2⟩ := hT.row h2
              obtain ⟨i3, d3, z3, r3⟩ := hT.row hte
              have hu : P.underlying s = some (.slice ts.elem) := by
                have h1 := r1.elem
                have h2 := r1.und
                cases d1 <;> simp only [elemD] at h1 <;> first | (rw [h1]; exact h2) | omega
              subst hS
              exact fin _ _ rfl h' ⟨.string (strOfNums xs), by simp [AV], fun w' hw => str_ok hx hu (kdOf_int (r3.kd _ hke).1) (kdOf_str (r2.kd _ hk).1) (ok x) hxs w' hw⟩
            · cases h'
          · cases h
        · cases h
      · cases h
    · cases h
  case fieldAddr t x f =>
    split at h
    · rename_i ti ht
      split at h
      · rename_i off sz tt hf
        split at h
        · rename_i v hv
          obtain ⟨hs, h'⟩ := chk_some h
          obtain ⟨i1, d1, z1, r1⟩ := hT.row ht
          obtain ⟨ad, e1, e2⟩ := offA_ok (ok x) hv
          have hs : 0 < sz := by simpa [Nat.blt_eq] using hs
          exact fin _ v rfl h' ⟨_, e2, fun w' _ => by rw [e1]; exact run_fieldAt r1 w' ad f off sz tt hf hs⟩
        · cases h
      · cases h
    · cases h
  case field t x f =>
    split at h
    · rename_i ti cs ht hxc
      split at h
      · rename_i off sz tt hf
        split at h
        · rename_i tf htf
          split at h
          · rename_i v hv
            obtain ⟨hs, h'⟩ := chk_some h
            simp only [Bool.and_eq_true] at hs
            have hs1 := Nat.eq_of_beq_eq_true hs.1
            obtain ⟨i1, d1, z1, r1⟩ := hT.row ht
            obtain ⟨i2, d2, z2, r2⟩ := hT.row htf
            have hx := ok x
            rw [hxc] at hx
            simp only [AV] at hx
            obtain ⟨vs, e1, e2⟩ := hx
            obtain ⟨cv, fl, q1, q2, q3, q4⟩ := pickCells_ok hv e2
            exact fin _ v rfl h' ⟨cv, q4, fun w' _ => by rw [e1]; exact run_field r1 hf r2 hs1 (by simpa [Nat.blt_eq] using hs.2) vs fl q1 q2 cv q3 w'⟩
          · cases h
        · cases h
      · cases h
    · cases h
  case indexAddr t x i =>
    split at h
    · rename_i ti ht
      split at h
      · rename_i te hte
        obtain ⟨hs, h'⟩ := chk_some h
        subst hS
        obtain ⟨v, cv, e1, e2, e3⟩ := indexA_ok hx hT ht hte (by intro h0; rw [h0] at hs; simp at hs) (ok x) (ok i) h'
        exact fin _ v rfl e1 ⟨cv, e2, e3⟩
      · cases h
    · cases h
  case load t x =>
    split at h
    · rename_i ti ht
      obtain ⟨i1, d1, z1, r1⟩ := hT.row ht
      subst hS
      obtain ⟨v, cv, e1, e2, e3⟩ := loadA_ok hx r1 (ok x) h
      exact fin _ v rfl e1 ⟨cv, e2, e3⟩
    · cases h
  case build t ps =>
    split at h
    · rename_i ti ht
      split at h
      · rename_i cs hcs
        obtain ⟨hc, h'⟩ := chk_some h
        simp only [Bool.and_eq_true, Bool.not_eq_true', List.all_eq_true] at hc
        obtain ⟨i1, d1, z1, r1⟩ := hT.row ht
        have hz : AVs w R Al H ti.zero z1.cells.toList := by rw [r1.zs]; exact absZs_ok _
        have hd : ∃ fs, d1 = .struct fs := by
          have h1 := r1.flds
          cases d1 <;> simp [fldsD] at h1 <;> first | exact ⟨_, rfl⟩ | (rw [h1] at hc; simp at hc)
        obtain ⟨fs, hd⟩ := hd
        have hsz : ∀ f ∈ fs.toList, (P.info? f.type).isSome = true := by
          intro f hf
          have : (f.offset, P.cellsOf f.type, f.type) ∈ ti.flds := by rw [r1.flds, hd]; exact List.mem_map.2 ⟨f, hf, rfl⟩
          have := hc.2 _ this
          simp only [Nat.blt_eq] at this
          obtain ⟨j, hj, _⟩ := cellsOf_info this
          simp [hj]
        have key : ∀ place : Nat → Option (Nat × Nat), (∀ (j off sz tt : Nat), ti.flds[j]? = some (off, sz, tt) → place j = some (off, sz)) → ∃ xs', Instr.fill place z1.cells (ps.toList.map fun p => (p.1, a.eval p.2)) = some xs' ∧ AVs w R Al H cs xs'.toList :=
          fun place hp => buildA_ok he (fun i hi => one_cells (hx.one i hi)) ti.flds place hp ps.toList _ cs hcs z1.cells hz
        have p0 : ∀ (j off sz tt : Nat), ti.flds[j]? = some (off, sz, tt) → (ti.flds[j]?.map fun f => (f.1, f.2.1)) = some (off, sz) := by intro j off sz tt hj; simp [hj]
        obtain ⟨xs', e1, e2⟩ := key (fun j => ti.flds[j]?.map fun f => (f.1, f.2.1)) p0
        refine fin _ _ rfl h' ⟨.agg xs', by simp only [AV]; exact ⟨_, rfl, e2⟩, fun w' _ => ?_⟩
        refine run_build r1 hd hsz _ xs' (fun place hp => ?_) w'
        obtain ⟨ys', e3, e4⟩ := key place hp
        have : (ps.map fun (x : Nat × Operand) => match x with | (i, x) => (i, a.eval x)).toList = ps.toList.map fun p => (p.1, a.eval p.2) := by simp
        rw [this]
        have same : ∀ (l : List (Nat × Operand)) (cs : List AVal) (cs' : List AVal), buildA st ti.flds l cs = some cs' → ∀ (xs : Array Value), Instr.fill place xs (l.map fun p => (p.1, a.eval p.2)) = Instr.fill (fun j => ti.flds[j]?.map fun f => (f.1, f.2.1)) xs (l.map fun p => (p.1, a.eval p.2)) := by
          intro l
          induction l with
          | nil => intro cs cs' _ xs; rfl
          | cons p l ih =>
            intro cs cs' hb xs
            unfold buildA at hb
            split at hb
            · rename_i off sz tt hf
              split at hb
              · simp only [List.map_cons, Instr.fill, hp _ _ _ _ hf, p0 _ _ _ _ hf]
                split
                · rfl
                · exact ih _ _ hb _
              · cases hb
            · cases hb
        rw [same _ _ _ hcs]
        exact e1
      · cases h
    · cases h
  case extract x i =>
    split at h
    · rename_i vs hv
      split at h
      · rename_i v hi
        have hx := ok x
        rw [hv] at hx
        simp only [AV] at hx
        obtain ⟨us, e1, e2⟩ := hx
        obtain ⟨cv, e3, e4⟩ := AVs.get _ _ e2 i v hi
        exact fin _ v rfl h ⟨cv, e4, fun w' _ => by rw [e1]; have : us[i]? = some cv := by simpa using e3
                                                    simp [Instr.extract, this]⟩
      · cases h
    · cases h
  case call c =>
    split at h
    · rename_i x t hc1 hc2 hc3
      split at h
      · rename_i ti ht
        subst hS
        obtain ⟨x', h, hx'⟩ := subV_ok hx (ok x) h
        split at h
        · rename_i v hv
          obtain ⟨hcc, h'⟩ := chk_some h
          obtain ⟨i1, d1, z1, r1⟩ := hT.row ht
          have hsl : isStr x' = false → ∃ e, P.underlying t = some (.slice e) := by
            intro hs
            rw [hs] at hcc
            simp only [Nat.blt_eq] at hcc
            have h1 := r1.elem
            have h2 := r1.und
            cases d1 <;> simp only [elemD] at h1 <;> first | (exact ⟨_, h2⟩) | omega
          have hst : isStr x' = true → P.underlying t = some .string := by
            intro hs
            rw [hs] at hcc
            simp only [beq_iff_eq] at hcc
            exact kdOf_str (r1.kd _ hcc).1
          obtain ⟨cv, e1, e2⟩ := lenA_ok (P := P) (t := t) (ty := type) hx hx' hv (by
            cases hs : isStr x'
            · obtain ⟨e, he⟩ := hsl hs; exact ⟨_, he, .inr ⟨e, rfl⟩⟩
            · exact ⟨_, hst hs, .inl rfl⟩) (fun s hs => hst (by rw [hs]; rfl)) (fun hs => hsl (by cases ho : x' <;> first | rfl | exact absurd ho (hs _)))
          obtain ⟨callee, args, argTypes⟩ := c
          simp only at hc1 hc2 hc3
          subst hc1
          have ha : args = #[x] := by apply Array.ext'; simpa using hc2
          have ht' : argTypes = #[t] := by apply Array.ext'; simpa using hc3
          subst ha ht'
          refine ⟨v, cv, h', e1, fun w' hw' => ?_⟩
          simp only [execOp, resolve, Sem.run_bind, Sem.run_pure, Result.andThen_ok, invoke, builtin]
          have := e2 w' hw'
          simp only [List.map_toArray, List.map_cons, List.map_nil] at this ⊢
          rw [this]
          rfl
        · cases h
      · cases h
    · rename_i x t hc1 hc2 hc3
      split at h
      · rename_i ti hj ht
        obtain ⟨hcc, h'⟩ := chk_some h
        obtain ⟨i1, d1, z1, r1⟩ := hT.row ht
        have hu : ∃ e, P.underlying t = some (.slice e) := by
          simp only [Nat.blt_eq] at hcc
          have h1 := r1.elem
          have h2 := r1.und
          cases d1 <;> simp only [elemD] at h1 <;> first | (exact ⟨_, h2⟩) | omega
        obtain ⟨e, hu⟩ := hu
        obtain ⟨callee, args, argTypes⟩ := c
        simp only at hc1 hc2 hc3
        subst hc1
        have ht' : argTypes = #[t] := by apply Array.ext'; simpa using hc3
        subst ht'
        refine ⟨.int .i64 0, .int .i64 0, h', by simp only [AV], fun w' hw' => ?_⟩
        have hj' := ok x
        rw [hj] at hj'
        simp only [AV] at hj'
        have ha : args.map a.eval = #[.slice none 0 0] := by apply Array.ext'; rw [Array.toList_map, hc2, List.map_cons, hj']; rfl
        simp only [execOp, resolve, Sem.run_bind, Sem.run_pure, Result.andThen_ok, invoke, builtin, ha]
        simp [Builtin.cap_, run_underlying hu, goInt]
      · cases h
    · rename_i x xs hc1 hc2
      split at h
      · rename_i j n hj
        have hv := AVs_map0 ok xs
        obtain ⟨m, h1, h2⟩ := extrA_max (P := P) _ _ n hv h
        obtain ⟨callee, args, argTypes⟩ := c
        simp only at hc1 hc2
        subst hc1
        refine ⟨.int j m, .int j m, h1, by simp only [AV], fun w' hw' => ?_⟩
        have hj' := ok x
        rw [hj] at hj'
        simp only [AV] at hj'
        have ha : (args.map a.eval).toList = .int j n :: xs.map a.eval := by rw [Array.toList_map, hc2, List.map_cons, hj']
        simp only [execOp, resolve, Sem.run_bind, Sem.run_pure, Result.andThen_ok, invoke, builtin, Builtin.max_, ha, h2 w']
      · cases h
    · rename_i x xs hc1 hc2
      split at h
      · rename_i j n hj
        have hv := AVs_map0 ok xs
        obtain ⟨m, h1, h2⟩ := extrA_min (P := P) _ _ n hv h
        obtain ⟨callee, args, argTypes⟩ := c
        simp only at hc1 hc2
        subst hc1
        refine ⟨.int j m, .int j m, h1, by simp only [AV], fun w' hw' => ?_⟩
        have hj' := ok x
        rw [hj] at hj'
        simp only [AV] at hj'
        have ha : (args.map a.eval).toList = .int j n :: xs.map a.eval := by rw [Array.toList_map, hc2, List.map_cons, hj']
        simp only [execOp, resolve, Sem.run_bind, Sem.run_pure, Result.andThen_ok, invoke, builtin, Builtin.min_, ha, h2 w']
      · cases h
    · cases h
end
end Go.Rv
