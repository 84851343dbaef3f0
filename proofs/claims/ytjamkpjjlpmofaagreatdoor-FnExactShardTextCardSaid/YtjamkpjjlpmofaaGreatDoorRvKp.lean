/- The table that a law lists. No condition. -/
import Derived.Test.YtjamkpjjlpmofaaGreatDoorRvL
import Derived.OpenShut
import Derived.MakeChecks
import Derived.LaidMore
namespace Go.Rv
open Go
theorem cells_of_ints {T : Type} {enc : TypeId × Value → T} {P : Program} {w : World} {b : Nat} {sp : Nat → Bool} {hd : Bool} {fuel n : Nat} {t e : TypeId} {k : IntKind} (ht : P.underlying t = some (.array n e)) (he : P.underlying e = some (.int k)) (hc : P.cellsOf e = 1) (hn : P.cellsOf t = n) {zs : List Int} {cs : List Value} {ps : List MemPlace}
  (h : DataW.trod enc P w b sp hd fuel t cs = some (.agg (zs.map fun z => .lit (.int k z)),ps)) : cs = zs.map (.int k) := by
 obtain ⟨xs,m,rfl,hx,hlen,hxn,hel⟩ := DataW.trod_array ht h
 simp only [Prod.mk.injEq,DataW.agg.injEq] at hx
 have hz : zs.length = n := by rw [← hxn]; simpa using congrArg List.length hx.1
 refine List.ext_getElem (by rw [hlen,hn,List.length_map,hz]) fun i h1 h2 => ?_
 have hi : i < n := by rw [hlen,hn] at h1; exact h1
 have hel := hel i hi
 rw [hc,Nat.mul_one,List.drop_eq_getElem_cons h1,List.take_succ_cons,List.take_zero,List.getElem?_eq_getElem (show i < xs.length by omega)] at hel
 obtain ⟨q,e1,e2,_⟩ := DataW.trod_int he hel
 have e3 := congrArg (·[i]?) hx.1
 simp only [List.getElem?_map,List.getElem?_eq_getElem (show i < zs.length by omega),List.getElem?_eq_getElem (show i < xs.length by omega),Option.map_some,Option.some.injEq] at e3
 rw [e2] at e3
 simp only [DataW.lit.injEq,Lit.int.injEq,true_and] at e3
 rw [List.getElem_map,e3]
 exact (List.cons.inj e1).1
theorem laid_at {P : Program} {w : World} {nm : String} {d : DataW Unit} : ∀ {l : List (String × DataW Unit)} {ps : List MemPlace},DataW.LaidVars P w l ps → (nm,d) ∈ l →
  ∃ g t cs f p,P.globalNamed nm = some g ∧ (P.globals[g]?).map (·.type) = some t ∧ w.var? P nm = some cs ∧ DataW.trod (fun _ => ()) P w 0 (fun _ => true) false f t cs.toList = some (d,p)
 | [],_,_,hm => by cases hm
 | (a,b) :: l,_,⟨g,t,cs,f,p,q,hg,ht,hv,hd,hr,_⟩,hm => by
  rcases List.mem_cons.1 hm with e | hm
  ·cases e; exact ⟨g,t,cs,f,p,hg,ht,hv,hd⟩
  ·exact laid_at hr hm
def tabB (P : Program) : Bool :=
 match P.globalNamed "internal/strconv.uint64pow10" with
 | some g => match (P.globals[g]?).map (·.type) with
  | some t => match P.underlying t with
   | some (.array 20 e) => match P.underlying e with
    | some (.int .u64) => Nat.beq (P.cellsOf e) 1 && Nat.beq (P.cellsOf t) 20
    | _ => false
   | _ => false
  | none => false
 | none => false
theorem keeps_of {P : Program} {W : World} {l : List (String × DataW Unit)} (k : Nat) (hm : (l.all fun x => x.2.handleName?.isNone) = true)
  (hin : l[k]? = some ("internal/strconv.uint64pow10", DataW.agg (((List.range 20).map fun i => ((10 ^ i : Nat) : Int)).map fun z => .lit (.int .u64 z)))) (hB : tabB P = true) (h : laidMetH P l W) : Keeps P W (RD W) := by
 unfold tabB at hB
 split at hB
 ·rename_i g hg
  split at hB
  ·rename_i t ht
   split at hB
   ·rename_i e hu
    split at hB
    ·rename_i he
     simp only [Bool.and_eq_true] at hB
     have hc := Nat.eq_of_beq_eq_true hB.1
     have hn := Nat.eq_of_beq_eq_true hB.2
     rw [MakeChecks.laidMetH_plain _ _ _ hm] at h
     obtain ⟨ps,hl,_⟩ := h
     obtain ⟨g',t',cs,f,p,q1,q2,q3,q4⟩ := laid_at hl (List.mem_of_getElem? hin)
     rw [hg] at q1; cases q1
     rw [ht] at q2; cases q2
     have hcs := cells_of_ints hu he hc hn q4
     intro g2 hg2
     rw [hg] at hg2; cases hg2
     refine ⟨?_,?_⟩
     ·show g < W.heap.size
      simp only [World.var?,hg,Option.bind_some] at q3
      split at q3
      ·rename_i hh
       exact (Array.getElem?_eq_some_iff.1 hh).1
      ·cases q3
     ·rw [q3]
      congr 1
      apply Array.ext'
      rw [hcs,List.map_map]
      rfl
    ·cases hB
   ·cases hB
  ·cases hB
 ·cases hB
end Go.Rv
