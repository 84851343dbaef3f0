/- Sorting what an iterator gives. No condition. -/
import Derived.Test.YtjamkpjjlpmofaaGreatRvS
import Derived.Shelf.SlIterI.Sorted
import Derived.Shelf.SortM.Plain
import Derived.Shelf.SortM.SortNone
namespace Go.Rv
open Go.Proofs Go.Shelf Go.RowKit Go.Lib Go.Sort Go.Maps

abbrev KI : Kd := .int .i64
def sortI (xs : List Int) : List Int := xs.mergeSort fun x y => decide (x ≤ y)
def sortedRun (xs : List Int) : Option (List Int × List Int) := if xs.length * 8 ≤ 140737488351232 then some (sortI xs,xs) else none
def SSorted (g t : Nat) : FSpec := ⟨[.fbox g (.sl none KI)],[.sl (some t) KI],fun x => sortedRun x⟩

def GivesB {α : Type} (n : Nat) (P : Program) (g : Nat) (lb : Array Value) (enc : α → Value) (S : List α → Prop) (N : Nat) (w : World) : Prop :=
 ∀ (l : Nat) (J : List α → World → Prop) (W : World),Below w.heap.size w W → AbidesFrom W.heap.size J → (∀ pre W1,J pre W1 → Below w.heap.size w W1) →
  (∀ pre x W1,J pre W1 → pre.length < N → YieldAt Fence.wide (n - 1) P l #[enc x] W1 fun e W' => e = .returned (.bool true) ∧ J (pre ++ [x]) W' ∧ KeepsWalks W1 W') →
  J [] W →
  CallsIn Fence.wide n P g (#[.func (.yield l) #[] #[]] ++ lb) W fun e W' => (∃ v,e = .returned v) ∧ ∃ xs,S xs ∧ J xs W'

variable {P : Program} {ρ : Ren}
set_option maxRecDepth 100000 in
set_option maxHeartbeats 2000000 in
theorem appendSeqB (L : SlLaysZI.n11 P ρ) (n : Nat) (hn : 2 ≤ n) (g : Nat) (lb : Array Value) (eg : ∀ args w,(callFunc g args).run P w = .ok (.enter g args) w)
    (S : List Int → Prop) (N : Nat) (hN : N ≤ maxLen) (hNb : N * 8 ≤ 140737488355328) (w : World) (hseq : ∀ W,Below w.heap.size w W → GivesB (n - 1) P g lb encZ S N W) :
    CallsIn Fence.wide n P (ρ.f 11) #[.slice none 0 0,.func (.func g) #[] lb] w fun e w' => ∃ (v : Value) (ss : List Int),e = .returned v ∧ S ss ∧ w'.ownsRow w.heap.size (ρ.t 26) 1 v ss.length (ss.map encZ) ∧ (v = .slice none 0 0 ↔ ss = []) ∧ Below w.heap.size w w' := by
  have h1 : 1 ≤ n := by omega
  have hro : Fence.wide.round = none := rfl
  have h11 : Fence.wide.fn (ρ.f 11) := trivial
  have hFg : Fence.wide.fn g := trivial
  have mixed := L.mixed; have t0 := L.t0; have a0 := L.a0; have z0 := L.z0; have v0 := L.v0; have t24 := L.t24; have a24 := L.a24; have z24 := L.z24; have v24 := L.v24; have t26 := L.t26; have a26 := L.a26; have z26 := L.z26; have v26 := L.v26; have t28 := L.t28; have a28 := L.a28; have z28 := L.z28; have v28 := L.v28
  have hne : ρ.t 24 ≠ ρ.t 26 := fun e => by have h := L.t24; rw [e,L.t26] at h; cases h
  have u0 := run_underlying L.t0; have u24 := run_underlying L.t24; have u26 := run_underlying L.t26; have u28 := run_underlying L.t28
  obtain ⟨_,_,FG⟩ := L.f11
  refine callsIn_of_wp_marks FG rfl h11 ?_ hro
  simp only [SlBodyZ.n11_ntmps ρ,List.size_toArray,List.length_cons,List.length_nil,Nat.reduceAdd,Nat.reduceSub,Array.replicate_succ,Array.replicate_zero,List.push_toArray,List.append_toArray,List.nil_append,List.cons_append]
  gi_wp2
  refine wpIn_rangeFunc ?_
  intro fn hfn
  rw [hro]
  obtain ⟨W0,hW0⟩ : ∃ W0,w.alloc (.cells #[.slice none 0 0] (ρ.t 24)) = W0 := ⟨_,rfl⟩
  have hs0 : W0.heap.size = w.heap.size + 1 := by rw [← hW0]; simp
  have hv0 : W0.heap[w.heap.size]? = some (.cells #[.slice none 0 0] (ρ.t 24) (0,0)) := by rw [← hW0]; exact World.alloc_heap_new w _
  have hb0 : Below w.heap.size w W0 := by rw [← hW0]; exact (Below.refl _ w).alloc (Nat.le_refl _) _
  rw [hW0]
  obtain ⟨W1,hW1⟩ : ∃ W1,(W0.alloc (.deferred (some []))).alloc (.loop (AnyZI.apRec ρ fn (.func (.func g) #[] lb) w.heap.size W0.heap.size .ready none)) = W1 := ⟨_,rfl⟩
  have hold : ∀ k,k < W0.heap.size → W1.heap[k]? = W0.heap[k]? := fun k hk => by
    rw [← hW1]; exact (Below.heap_alloc _ _ k (by simp; omega)).trans (Below.heap_alloc _ _ k hk)
  have hb1 : Below w.heap.size w W1 := by rw [← hW1]; exact (hb0.alloc hb0.size _).alloc (by have := hb0.size; simp; omega) _
  have hs1 : W1.heap.size = W0.heap.size + 2 := by rw [← hW1]; simp
  have hM : AnyZI.ApAt ρ w fn (.func (.func g) #[] lb) w.heap.size (W0.heap.size + 1) W0.heap.size [] W1 :=
    ⟨⟨_,(hold w.heap.size (by omega)).trans hv0,⟨rfl,.inl ⟨rfl,rfl⟩⟩,by simp⟩,
     by rw [← hW1]; have := World.alloc_heap_new (W0.alloc (.deferred (some []))) (.loop (AnyZI.apRec ρ fn (.func (.func g) #[] lb) w.heap.size W0.heap.size .ready none)); rwa [World.size_alloc] at this,
     by rw [← hW1]; exact (Below.heap_alloc _ _ _ (by simp)).trans (World.alloc_heap_new W0 _),hb1⟩
  refine ⟨W0.heap.size + 1,[{ target := .collected W0.heap.size,args := #[] }],W1,{ target := .fn (.func g) lb,args := #[.func (.yield (W0.heap.size + 1)) #[] #[]] },W1,g,
    #[.func (.yield (W0.heap.size + 1)) #[] #[]] ++ lb,W1,?_,?_,?_,?_,fun _ => h1,?_⟩
  · rw [← hW1]; exact run_enterLoop_outer _ _ _ _ _
  · simp [resolve,go_sem]
  · intro f' hf'; simp [Target.leads] at hf'; subst hf'; exact hFg
  · simp [invoke,go_sem,eg]
  · refine (hseq w (Below.refl _ _) (W0.heap.size + 1) (AnyZI.ApAt ρ w fn (.func (.func g) #[] lb) w.heap.size (W0.heap.size + 1) W0.heap.size) W1 hb1 (AnyZI.ap_abides ρ _ _ _ _ _ _ _ hb1.size) (fun _ _ h => h.below)
      (fun pre x W hJ hl => AnyZI.apYield { L with } Fence.wide (n - 1 - 1) w fn hfn _ w.heap.size (W0.heap.size + 1) W0.heap.size (by omega) (by omega) (by omega) (Nat.le_refl _) (by omega) N hN hNb pre x W hJ hl) hM).mono ?_
    rintro e W2 ⟨⟨v0,rfl⟩,ss,hS,h2⟩
    obtain ⟨v,hv,hrow,hnil⟩ := h2.box
    have hend := run_endLoop (P := P) h2.L (by simp [AnyZI.apRec])
    obtain ⟨W3,hW3⟩ : ∃ W3,W2.putObj (W0.heap.size + 1) (.loop { AnyZI.apRec ρ fn (.func (.func g) #[] lb) w.heap.size W0.heap.size .ready none with state := .exhausted }) = W3 := ⟨_,rfl⟩
    rw [hW3] at hend
    have hg3 : W2.grownBy W3 (some (W0.heap.size + 1)) := by rw [← hW3]; exact grownBy_putObj_a _ _ _
    have hv3 : W3.heap[w.heap.size]? = some (.cells #[v] (ρ.t 24) (0,0)) := by rw [← hW3]; exact (World.putObj_heap_other (by omega)).trans hv
    have hK3 : W3.heap[W0.heap.size]? = some (.deferred (some [])) := by rw [← hW3]; exact (World.putObj_heap_other (by omega)).trans h2.K
    have hrow3 := hrow.kept hg3 (ownsRow_ne_a hrow h2.L (fun cur e => by first | cases e | exact hne (Obj.cells.inj e).2.1))
    have hb3 : Below w.heap.size w W3 := h2.below.grown hg3 h2.below.size (fun k e => by cases e; omega)
    obtain ⟨hc3,hf3⟩ := cell_of_box_a hv3
    clear hW3
    refine ⟨none,W3,hend,?_⟩
    gi_wp2
    rw [← hs0]
    refine ⟨by simp,.inl ⟨_,_,rfl,run_takeDeferred hK3,?_⟩⟩
    exact ⟨_,results_tmp rfl _ _ _,v,ss,rfl,hS,hrow3.kept (grownBy_putObj_a _ _ _) (ownsRow_ne_a hrow3 hK3 (fun cur e => by first | cases e | exact hne (Obj.cells.inj e).2.1)),hnil,hb3.grown (grownBy_putObj_a _ _ _) hb3.size (fun k e => by cases e; omega)⟩

set_option maxHeartbeats 1000000 in
theorem collectB (L : SlLaysZI.n8 P ρ) (n : Nat) (hn : 3 ≤ n) (g : Nat) (lb : Array Value) (eg : ∀ args w,(callFunc g args).run P w = .ok (.enter g args) w)
  (S : List Int → Prop) (N : Nat) (hN : N ≤ maxLen) (hNb : N * 8 ≤ 140737488355328) (w : World) (hseq : ∀ W,Below w.heap.size w W → GivesB (n - 1 - 1) P g lb encZ S N W) :
  CallsIn Fence.wide n P (ρ.f 8) #[.func (.func g) #[] lb] w fun e w' => ∃ (v : Value) (ss : List Int),e = .returned v ∧ S ss ∧ w'.ownsRow w.heap.size (ρ.t 26) 1 v ss.length (ss.map encZ) ∧ (v = .slice none 0 0 ↔ ss = []) ∧ Below w.heap.size w w' := by
 have h1 : 1 ≤ n := by omega
 have hro : Fence.wide.round = none := rfl
 have h8 : Fence.wide.fn (ρ.f 8) := trivial
 have h11 : Fence.wide.fn (ρ.f 11) := trivial
 have e11 : ∀ args w,(callFunc (ρ.f 11) args).run P w = .ok (.enter (ρ.f 11) args) w := L.f11.enters rfl
 have mixed := L.mixed; have t0 := L.t0; have a0 := L.a0; have z0 := L.z0; have v0 := L.v0; have t24 := L.t24; have a24 := L.a24; have z24 := L.z24; have v24 := L.v24; have t26 := L.t26; have a26 := L.a26; have z26 := L.z26; have v26 := L.v26; have t28 := L.t28; have a28 := L.a28; have z28 := L.z28; have v28 := L.v28
 have u0 := run_underlying L.t0; have u24 := run_underlying L.t24; have u26 := run_underlying L.t26; have u28 := run_underlying L.t28
 obtain ⟨_,_,FG⟩ := L.f8
 refine callsIn_of_wp FG rfl h8 ?_ hro
 simp only [SlBodyZ.n8_ntmps ρ,List.size_toArray,List.length_cons,List.length_nil,Nat.reduceAdd,Nat.reduceSub,Array.replicate_succ,Array.replicate_zero,List.push_toArray,List.append_toArray,List.nil_append,List.cons_append]
 gi_wp2_with (gi_at_fn (ρ.f 11); refine (appendSeqB { L with } (n - 1) (by omega) g lb eg S N hN hNb _ hseq).mono ?_; rintro e w' ⟨v,ss,rfl,hS,hrow,hnil,hb⟩)
 go_ret
 exact ⟨v,ss,rfl,hS,hrow,hnil,hb⟩

set_option maxRecDepth 100000 in
set_option maxHeartbeats 2000000 in
theorem sortedB (L : SlLaysZI.n6 P ρ) (n : Nat) (hn : 4 ≤ n) (hsort : AnyZI.SortsIn P ρ Fence.wide (n - 1)) (e9 : ∀ args w,(callFunc (ρ.f 9) args).run P w = .ok (.enter (ρ.f 9) args) w) (g : Nat) (lb : Array Value) (eg : ∀ args w,(callFunc g args).run P w = .ok (.enter g args) w)
  (zs : List Int) (hN : zs.length ≤ maxLen) (hNb : zs.length * 8 ≤ 140737488355328) (w : World) (hseq : ∀ W,Below w.heap.size w W → GivesB (n - 1 - 1 - 1) P g lb encZ (fun ss => ss = zs) zs.length W) :
  CallsIn Fence.wide n P (ρ.f 6) #[.func (.func g) #[] lb] w fun e w' => ∃ (v : Value),e = .returned v ∧
   w'.ownsRow w.heap.size (ρ.t 26) 1 v zs.length ((sortI zs).map encZ) ∧ Below w.heap.size w w' := by
 have h1 : 1 ≤ n := by omega
 have hro : Fence.wide.round = none := rfl
 have h6 : Fence.wide.fn (ρ.f 6) := trivial
 unfold sortI
 have h8 : Fence.wide.fn (ρ.f 8) := trivial
 have h9 : Fence.wide.fn (ρ.f 9) := trivial
 have h11 : Fence.wide.fn (ρ.f 11) := trivial
 have e8 : ∀ args w,(callFunc (ρ.f 8) args).run P w = .ok (.enter (ρ.f 8) args) w := L.f8.enters rfl
 have mixed := L.mixed; have t0 := L.t0; have a0 := L.a0; have z0 := L.z0; have v0 := L.v0; have t24 := L.t24; have a24 := L.a24; have z24 := L.z24; have v24 := L.v24; have t26 := L.t26; have a26 := L.a26; have z26 := L.z26; have v26 := L.v26; have t28 := L.t28; have a28 := L.a28; have z28 := L.z28; have v28 := L.v28
 have u0 := run_underlying L.t0; have u24 := run_underlying L.t24; have u26 := run_underlying L.t26; have u28 := run_underlying L.t28
 obtain ⟨_,_,FG⟩ := L.f6
 refine callsIn_of_wp FG rfl h6 ?_ hro
 simp only [SlBodyZ.n6_ntmps ρ,List.size_toArray,List.length_cons,List.length_nil,Nat.reduceAdd,Nat.reduceSub,Array.replicate_succ,Array.replicate_zero,List.push_toArray,List.append_toArray,List.nil_append,List.cons_append]
 gi_wp2_with (gi_at_fn (ρ.f 8); refine (collectB { L with } (n - 1) (by omega) g lb eg _ zs.length hN hNb _ hseq).mono ?_; rintro e W ⟨v,ss,rfl,hS,hrow,hnil,hb⟩)
 subst hS
 rcases hrow.2 with ⟨rfl,hz⟩ | ⟨gb,cap,cur,rfl,hbase,hgb,r1,r2,r3,r4⟩
 ·have hss : ss = [] := List.eq_nil_of_length_eq_zero hz
  subst hss
  gi_wp2_with (gi_at_fn (ρ.f 9); refine (hsort.2 none 0 W).mono ?_; rintro e w' ⟨rfl,rfl⟩)
  go_ret
  exact ⟨.slice none 0 0,rfl,by simpa using hrow,hb⟩
 ·have hH : Holds encZ W gb 0 ss.toArray := holds_of_block_i hgb (by simpa using r4)
  have hgl : gb < W.heap.size := (Array.getElem?_eq_some_iff.1 hgb).1
  have hsz : ss.length < 4611686018427387904 := by omega
  have cS := hsort.1 gb 0 cap ss W hH hgl hsz
  gi_wp2_with (gi_at_fn (ρ.f 9); refine cS.mono ?_; rintro e w' ⟨rfl,nn,os,rfl⟩)
  go_ret
  exact ⟨_,rfl,ownsRow_sorted_i (by simp) hbase hgb r1 r2 r3,hb.grown (grownBy_sorted_i _) hb.size (fun j hj => by cases hj; exact hbase)⟩
end Go.Rv
namespace Go.Rv
open Go.Proofs Go.Shelf Go.RowKit Go.Lib Go.Sort Go.Maps
variable {P : Program} {ρ σ : Ren}

def BoxedI (w : World) (Bs : Nat) (zs : List Int) : Prop :=
 Bs < w.heap.size ∧ ∃ A c,w.cell? ⟨Bs,0,none⟩ = some (.slice A zs.length c) ∧ (zs = [] ∨ ∃ b off,A = some ⟨b,off,none⟩ ∧ b < w.heap.size ∧ ∀ j (h : j < zs.length),w.cell? ⟨b,off + j,none⟩ = some (.int .i64 zs[j]))
theorem BoxedI.below {w W : World} {Bs : Nat} {zs : List Int} (h : BoxedI w Bs zs) (hb : Below w.heap.size w W) : BoxedI W Bs zs := by
 obtain ⟨h0,A,c,h1,h2⟩ := h
 refine ⟨Nat.lt_of_lt_of_le h0 hb.size,A,c,(hb.cell (p := ⟨Bs,0,none⟩) h0).trans h1,?_⟩
 rcases h2 with h2 | ⟨b,off,e,hbl,hc⟩
 ·exact .inl h2
 ·exact .inr ⟨b,off,e,Nat.lt_of_lt_of_le hbl hb.size,fun j hj => (hb.cell (p := ⟨b,off + j,none⟩) hbl).trans (hc j hj)⟩

theorem gives_of {g : Nat}
  (h1 : ∀ (n : Nat) (_ : 1 ≤ n) (l Bs n₀ b off cap : Nat) (zs : List Int) (_ : zs.length * 8 ≤ 140737488351232) (_ : b < n₀) (w0 : World) (J : List Int → World → Prop) (_ : ∀ pre W1,J pre W1 → Below n₀ w0 W1)
   (_ : ∀ pre x W,J pre W → pre.length < zs.length → YieldAt Fence.wide (n - 1) P l #[.int .i64 x] W fun e W' => e = .returned (.bool true) ∧ J (pre ++ [x]) W' ∧ KeepsWalks W W')
   (W : World) (_ : W.cell? ⟨Bs,0,none⟩ = some (.slice (some ⟨b,off,none⟩) zs.length cap)) (_ : ∀ j (h : j < zs.length),w0.cell? ⟨b,off + j,none⟩ = some (.int .i64 zs[j])) (_ : J [] W),
   CallsIn Fence.wide n P g #[.func (.yield l) #[] #[],.pointer (some ⟨Bs,0,none⟩)] W fun e W' => (∃ v,e = .returned v) ∧ J zs W')
  (h0 : ∀ (n l Bs : Nat) (A : Option Addr) (cap : Nat) (J : List Int → World → Prop) (W : World) (_ : W.cell? ⟨Bs,0,none⟩ = some (.slice A 0 cap)) (_ : J [] W),
   CallsIn Fence.wide n P g #[.func (.yield l) #[] #[],.pointer (some ⟨Bs,0,none⟩)] W fun e W' => (∃ v,e = .returned v) ∧ J [] W')
  (n : Nat) (hn : 1 ≤ n) (w : World) (Bs : Nat) (zs : List Int) (hr : zs.length * 8 ≤ 140737488351232) (hI : BoxedI w Bs zs) :
  GivesB n P g #[.pointer (some ⟨Bs,0,none⟩)] encZ (fun ss => ss = zs) zs.length w := by
 intro l J W hW hA hB hY hJ
 obtain ⟨hl,A,c,hc,hz⟩ := hI
 have hc' := (hW.cell (p := ⟨Bs,0,none⟩) hl).trans hc
 rcases hz with rfl | ⟨b,off,rfl,hb,hcs⟩
 ·exact (h0 n l Bs A c J W hc' hJ).mono fun e W' ⟨he,hj⟩ => ⟨he,_,rfl,hj⟩
 ·exact (h1 n hn l Bs w.heap.size b off c zs hr hb w J hB hY W hc' hcs hJ).mono fun e W' ⟨he,hj⟩ => ⟨he,_,rfl,hj⟩

theorem sortsWide (L : SlLaysM.n5 P σ) {ρ : Ren} (h : σ.f 5 = ρ.f 9) (n : Nat) : AnyZI.SortsIn P ρ Fence.wide n := by
 refine ⟨fun blk off cap ss W hH hb hs => ?_,fun p cap W => ?_⟩
 ·rw [← h]
  exact callsIn_wide.2 (AnyM.slices_Sort_int L blk off cap ss W hH hb hs)
 ·rw [← h]
  exact callsIn_wide.2 (AnyM.slices_Sort_int_none L p cap W)

theorem sortI_length (zs : List Int) : (sortI zs).length = zs.length := by simp [sortI]
theorem enc_flat (zs : List Int) : zs.map encZ = (zs.map fun x => [Value.int .i64 x]).flatten := by
 induction zs with
 | nil => rfl
 | cons z zs ih => simp only [List.map_cons,List.flatten_cons,ih]; rfl

theorem sound_sorted {f g t : Nat} (hcall : ∀ (w : World) (Bs : Nat) (zs : List Int), zs.length * 8 ≤ 140737488351232 → BoxedI w Bs zs →
      Calls P f #[.func (.func g) #[] #[.pointer (some ⟨Bs, 0, none⟩)]] w fun e w' => ∃ v, e = .returned v ∧ w'.ownsRow w.heap.size t 1 v zs.length ((sortI zs).map encZ) ∧ Below w.heap.size w w') : Sound P f (SSorted g t) := by
  intro w R vs (x : List Int) D hs hargs hR hD _ r hr
  obtain ⟨v, rfl, u, rfl, _, rfl, b, cells, T, rfl, hDb, hhb, hrp⟩ := hargs
  have hx : x.length * 8 ≤ 140737488351232 ∧ r = (sortI x, x) := by
    have hr : sortedRun x = some r := hr
    unfold sortedRun at hr
    split at hr
    · rename_i h; exact ⟨h, (Option.some.inj hr).symm⟩
    · cases hr
  obtain ⟨hlen, rfl⟩ := hx
  have hrp : Rp w noC R 0 (.sl none KI) x [] cells.toList := hrp
  obtain ⟨A, n, c, fl, hcs, rfl, hnc, hl, hat⟩ := hrp
  have hfl := (lst_enc (f := fun j x c => Rp w noC R 0 KI x (j :: []) c) (enc := fun x => [Value.int .i64 x]) (e := KI) (fun j x c => Iff.rfl) x 0 fl).1 hl
  have hbl : b < w.heap.size := (hD b 0 [] hDb).1
  have hbox : BoxedI w b x := by
    refine ⟨hbl, A, c, ?_, ?_⟩
    · have : cells = #[.slice A x.length c] := by apply Array.ext'; simpa using hcs
      simp [World.cell?, hhb, this]
    · rcases hat with rfl | ⟨a, rfl, hs, ha, hcell⟩
      · exact .inl rfl
      · obtain ⟨ab, ao, asp⟩ := a
        have hs : asp = none := hs
        subst hs
        refine .inr ⟨ab, ao, rfl, (hR ab ha).1, fun j hj => ?_⟩
        have := hcell j (.int .i64 x[j]) (by
          rw [hfl]
          have e : (x.map fun x => [Value.int .i64 x]).flatten = x.map fun x => Value.int .i64 x := (enc_flat x).symm
          rw [e, List.getElem?_map, List.getElem?_eq_getElem hj]; rfl)
        rwa [Addr.add_lit] at this
  refine (hcall w b x hlen hbox).mono ?_
  rintro en w' ⟨v, rfl, hown, hbel⟩
  refine ⟨_, rfl, ?_⟩
  have hi : Inv w ⟨D, [.pointer (some ⟨b, 0, none⟩)]⟩ R [(0, .box (cellsOf (.sl none KI) x))] w D R (fun i => i = 0) (fun _ => .pointer (some ⟨b, 0, none⟩)) := by
    refine ⟨rfl, rfl, rfl, Nat.le_refl _, fun _ _ _ => rfl, fun b i p hb => ⟨by have := (hD b i p hb).2; simp at this; omega, (hD b i p hb).1, .inr ⟨i, p, hb⟩⟩, fun b hb => ⟨(hR b hb).1, (hR b hb).2, .inr (.inl hb)⟩, fun _ h => h, fun i => ?_, fun i hi => ?_, fun i _ => rfl, fun q u hq => ?_⟩
    · by_cases h : i = 0
      · subst h
        rw [getS_cons_self]
        exact ⟨b, cells, T, rfl, hDb, hhb, cellsOf_ok (.sl none KI) x [] _ ⟨A, x.length, c, fl, hcs, rfl, hnc, hl, hat⟩⟩
      · rw [getS_cons_ne _ _ h]; trivial
    · by_cases h : i = 0
      · exact h
      · rw [getS_cons_ne _ _ h] at hi; exact absurd rfl hi
    · cases q with
      | zero => simp at hq; exact ⟨rfl, hq⟩
      | succ q => simp at hq
  have hgr : w.grownBy w' none := ⟨hbel.os, hbel.tape, hbel.output, hbel.size, fun b hb _ => hbel.block b hb⟩
  obtain ⟨C', Al', H', hi', hn', hav, _⟩ := hi.newRow (n := 1) (fun i h => by omega) (e := KI) (t := t) (xs := sortI x) (v := v) (fl := (sortI x).map encZ) none none (fun i h => by cases h) (fun _ => rfl) hgr
    (by
      have hown0 : w'.ownsRow 0 t 1 v (sortI x).length ((sortI x).map encZ) := by
        rw [sortI_length]
        refine ⟨hown.1, ?_⟩
        rcases hown.2 with h | ⟨gb, cap, cur, q1, q2, q3⟩
        · exact .inl h
        · exact .inr ⟨gb, cap, cur, q1, Nat.zero_le _, q3⟩
      exact Own.of hown0)
    (fun gb hgb => by
      rcases hown.2 with ⟨rfl, _⟩ | ⟨g', cap, cur, rfl, q2, q3⟩
      · rw [ownB_zero] at hgb; cases hgb
      · left
        have := ownB_block hgb
        simp only [Value.ownBlock, Option.some.injEq] at this
        omega)
    ((lst_enc (f := fun j x c => Rp w' noC R 0 KI x (j :: []) c) (enc := fun x => [Value.int .i64 x]) (e := KI) (fun j x c => Iff.rfl) (sortI x) 0 _).2 (enc_flat _)) rfl
  have hend : endVs (⟨[], (1, .row t KI (sortI x)) :: kill none [(0, .box (cellsOf (.sl none KI) x))], 2, 0⟩ : St) (SSorted g t).rs (hands (SSorted g t).ps) [.ref 1] = some ((sortI x, x), [some 1]) := by
    have e1 : takeV [(1, Ent.row t KI (sortI x)), (0, Ent.box [AVal.sl KI x])] (.sl (some t) KI) (.ref 1) = some (sortI x, [some 1]) := by
      simp [takeV, takeCells, cellsV, takeSl, getS, castL, Kd.ro, Kd.agg, aggV, solid]
    have g0 : getS [(1, Ent.row t KI (sortI x)), (0, Ent.box [AVal.sl KI x])] 0 = .box [.sl KI x] := rfl
    simp only [SSorted, hands, endVs, kill, cellsOf, e1, endBoxes, endBox, g0, takeCells, takeSl]
    simp [castL]
    rfl
  have := endOK (F := SSorted g t) hi' (vs := [.ref 1]) (cvs := [v]) (by simp only [AVs]; exact ⟨v, [], rfl, hav, rfl⟩) hend rfl (fun i hi => absurd hi (by simp [SSorted, hands, endIds])) rfl
  simpa [packC] using this

end Go.Rv
