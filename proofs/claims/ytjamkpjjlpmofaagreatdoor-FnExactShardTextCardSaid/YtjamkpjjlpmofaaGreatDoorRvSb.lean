/- Texts that are being written. No condition. -/
import Derived.Test.YtjamkpjjlpmofaaGreatDoorRvF
import Derived.Test.YtjamkpjjlpmofaaGreatDoorRvC5
import Derived.Shelf.Strings.Builder1
namespace Go.Rv
open Go.Shelf Go.RowKit Go.Proofs
section
variable {P : Program} {ρ : Ren}

theorem wpList_appendS {ops : Array Oper} {rest : List Oper} {o : Oper} {a : Act} {w : World} {Q : Exit → Act → World → Prop} (hgd : o.guard = none) (sl x : Operand) (t u : TypeId)
  (ho : o.op = .call { callee := .builtin .append,args := #[sl,x],argTypes := #[t,u] })
  (e : TypeId) (i : TypeInfo) (z : Value) (ht : P.underlying t = some (.slice e)) (hu : P.underlying u = some .string) (hi : P.info? e = some i) (hz : i.zero = some z)
  (hsize : i.size = 1) (hby : i.bytes = 1) (hzs : z.cells.size = 1)
  (v : Value) (n : Nat) (xs : List Value) (hs : a.eval sl = v) (hown : Own w e 1 v n xs) (s : ByteArray) (hx : a.eval x = .string s) (hbytes : n + s.size ≤ 140737488355328)
  (h : ∀ v' w',Own w' e 1 v' (n + s.size) (xs ++ Lib.strCells s) → w.grownBy w' (ownB v) → (∀ g,ownB v' = some g → w.heap.size ≤ g ∨ ownB v = some g) → wpList P ops Q rest (a.put o.dst v') w') : wpList P ops Q (o :: rest) a w := by
 refine wpList_plain hgd fun K hK => ?_
 obtain ⟨v',w',hr,h2,h3,h4⟩ := run_append_OwnS (P := P) (w := w) (ty := o.type) ht hu hi hz hsize hby hzs hown s hbytes
 unfold Oper.wp execOp
 simp only [ho,resolve,invoke,builtin,Sem.run_bind,Sem.run_pure,Result.andThen_ok,List.map_toArray,List.map_cons,List.map_nil,hs,hx,hr]
 exact hK _ _ (h v' w' h2 h3 h4)

structure Checked1 (w w1 : World) (b : Nat) (v : Value) (t : Nat) : Prop where
 os : w1.os = w.os
 tape : w1.tape = w.tape
 output : w1.output = w.output
 size : w1.heap.size = w.heap.size
 blk : w1.heap[b]? = some (.cells #[.pointer (some ⟨b,0,none⟩),v] t (0,0))
 oth : ∀ k,k ≠ b → w1.heap[k]? = w.heap[k]?

theorem bcheck_ok (L : Lays.n240 P ρ) (X : Builder.X72 P ρ) {w : World} {b : Nat} {p v : Value} (hb : w.heap[b]? = some (.cells #[p,v] (ρ.t 72) (0,0))) (hp : p = .pointer none ∨ p = .pointer (some ⟨b,0,none⟩)) :
  Calls P (ρ.f 240) #[.pointer (some ⟨b,0,none⟩)] w fun e w1 => e = .returned (.tuple #[]) ∧ Checked1 w w1 b v (ρ.t 72) := by
 have c0 : w.cell? ⟨b,0,none⟩ = some p := by rw [Lib.cell_of_heap hb]; rfl
 rcases hp with rfl | rfl
 ·refine (Any.Builder_copyCheck_fresh L X b w c0 (by simp [World.shape?,hb]) (Lib.frozen_of_heap hb 0)).mono ?_
  rintro e w1 ⟨rfl,rfl⟩
  refine ⟨rfl,rfl,rfl,rfl,?_,?_,fun k hk => ?_⟩
  ·simp [World.setCell]
  ·simp [World.setCell,Array.getElem?_modify,hb]
  ·simp [World.setCell,Array.getElem?_modify,Ne.symm hk]
 ·refine (Any.Builder_copyCheck_used L X b w c0).mono ?_
  rintro e w1 ⟨rfl,rfl⟩
  exact ⟨rfl,rfl,rfl,rfl,rfl,hb,fun _ _ => rfl⟩

theorem cellsB_append (s x : ByteArray) : cellsB (s ++ x) = cellsB s ++ cellsB x := by
 unfold cellsB
 rw [← List.map_append]
 simp

set_option maxHeartbeats 2000000 in
set_option maxRecDepth 100000 in
theorem write_ok (L : Lays.n166 P ρ) (X : Builder.Extra P ρ) : WriteOK P (ρ.f 166) (ρ.t 72) (ρ.t 5) := by
 intro w b p v s x hb hp hown hne hlen
 obtain ⟨i0,hi,hz0,hz1,hz2⟩ := info_parts X.infoByte
 have mixed := L.mixed
 have t72 := L.t72; have a72 := L.a72; have z72 := L.z72; have v72 := L.v72; have u72 := run_underlying L.t72
 have t70 := L.t70; have a70 := L.a70; have z70 := L.z70; have v70 := L.v70; have u70 := run_underlying L.t70
 have t37 := L.t37; have a37 := L.a37; have z37 := L.z37; have v37 := L.v37; have u37 := run_underlying L.t37
 have t3 := L.t3; have a3 := L.a3; have z3 := L.z3; have v3 := L.v3; have u3 := run_underlying L.t3
 have t9 := L.t9; have a9 := L.a9; have z9 := L.z9; have v9 := L.v9; have u9 := run_underlying L.t9
 have t4 := L.t4; have a4 := L.a4; have z4 := L.z4; have v4 := L.v4; have u4 := run_underlying L.t4
 have t164 := L.t164; have a164 := L.a164; have z164 := L.z164; have v164 := L.v164; have u164 := run_underlying L.t164
 have t5 := X.t5; have a5 := X.a5; have z5 := X.z5; have v5 := X.v5; have u5 := run_underlying X.t5
 have e240 : ∀ args w,(callFunc (ρ.f 240) args).run P w = .ok (.enter (ρ.f 240) args) w := enters_of L.f240 (by kernel_rfl) rfl
 go_enter L.f166,Body.n166_ntmps ρ
 go_wp2_with (go_at_fn (ρ.f 240); refine (bcheck_ok { L with } X.toX72 hb hp).mono ?_)
 rintro e w1 ⟨rfl,hk⟩
 have hbk := hk.blk
 have hown1 : Own w1 (ρ.t 5) 1 v s.size (cellsB s) := ownsRow_same (fun g hg => hk.oth g (fun h => hne (by rw [hg,h]))) hown
 have c0 : w1.cell? ⟨b,0,none⟩ = some (.pointer (some ⟨b,0,none⟩)) := by rw [Lib.cell_of_heap hbk]; rfl
 have c1 : w1.cell? ⟨b,1,none⟩ = some v := by rw [Lib.cell_of_heap hbk]; rfl
 go_wp2_with (at_builtin; refine wpList_appendS rfl _ _ (ρ.t 37) (ρ.t 9) rfl (ρ.t 5) i0 (.int .u8 0) L.t37 L.t9 hi hz0 hz1 hz2 rfl _ _ _ rfl hown1 x rfl hlen ?_)
 intro v' w2 hown' hgrow hnew
 have hlt : b < w1.heap.size := by
  rcases Nat.lt_or_ge b w1.heap.size with h' | h'
  ·exact h'
  ·simp [Array.getElem?_eq_none h'] at hbk
 have hb2 : w2.heap[b]? = some (.cells #[.pointer (some ⟨b,0,none⟩),v] (ρ.t 72) (0,0)) := by
  rw [hgrow.block b hlt (fun e => hne e.symm)]
  exact hbk
 have d0 : w2.cell? ⟨b,0,none⟩ = some (.pointer (some ⟨b,0,none⟩)) := by rw [Lib.cell_of_heap hb2]; rfl
 have d1 : w2.cell? ⟨b,1,none⟩ = some v := by rw [Lib.cell_of_heap hb2]; rfl
 have f1 : w2.frozen? ⟨b,1,none⟩ = false := Lib.frozen_of_heap hb2 1
 obtain ⟨ao,n',cap,rfl⟩ : ∃ ao n' cap,v' = .slice ao n' cap := by
  rcases hown'.2 with ⟨A,hv,_⟩ | ⟨g,cap,cur,hv,_⟩
  ·exact ⟨_,_,_,hv⟩
  ·exact ⟨_,_,_,hv⟩
 have hsz := hgrow.size
 have hnb : ∀ g,ownB (.slice ao n' cap) = some g → g ≠ b := fun g hg h => by
  rcases hnew g hg with h' | h'
  ·omega
  ·exact hne (by rw [h',h])
 go_wp2
 go_ret2
 refine ⟨rfl,hgrow.os.trans hk.os,hgrow.tape.trans hk.tape,hgrow.output.trans hk.output,?_,.slice ao n' cap,?_,?_,fun g hg => ⟨hnb g hg,?_⟩,fun k h1 h2 h3 => ?_⟩
 ·have h1 := hk.size
  simp only [World.setCell,Array.size_modify]
  omega
 ·simp [World.setCell,Array.getElem?_modify,hb2]
 ·rw [cellsB_append,ByteArray.size_append]
  refine ownsRow_same (w := w2) (fun g hg => ?_) hown'
  simp [World.setCell,Array.getElem?_modify,Ne.symm (hnb g hg)]
 ·rcases hnew g hg with h' | h'
  ·right; have := hk.size; omega
  ·exact .inl h'
 ·have h4 : (w2.setCell ⟨b,1,none⟩ (.slice ao n' cap)).heap[k]? = w2.heap[k]? := by simp [World.setCell,Array.getElem?_modify,Ne.symm h2]
  rw [h4,hgrow.block k (by have := hk.size; omega) (fun h => h3 h.symm),hk.oth k h2]

set_option maxHeartbeats 1000000 in
set_option maxRecDepth 100000 in
theorem string_ok (L : Lays.n169 P ρ) (X : Builder.Extra P ρ) : StringOK P (ρ.f 169) (ρ.t 72) (ρ.t 5) := by
 intro w b p v s hbk hp hown hne h1
 obtain ⟨l,rfl⟩ : ∃ l : List UInt8,s = ⟨l.toArray⟩ := ⟨s.data.toList,by cases s; simp⟩
 have hsz : (⟨l.toArray⟩ : ByteArray).size = l.length := by simp [ByteArray.size]
 rw [hsz] at hown h1
 have hcB : cellsB ⟨l.toArray⟩ = Lib.byteCells l := by simp [cellsB,Lib.byteCells]
 rw [hcB] at hown
 have hl0 : l.length ≠ 0 := by omega
 have h0 : l ≠ [] := fun h => hl0 (by rw [h]; rfl)
 obtain ⟨g,cap,cur,rfl,hcp,hg,hnc,hcm,hcs,htake⟩ : ∃ g cap cur,v = .slice (some ⟨g,0,none⟩) l.length cap ∧ 0 < cap ∧ w.heap[g]? = some (.cells cur (ρ.t 5) (0,0)) ∧ l.length ≤ cap ∧ cap ≤ maxLen ∧ cur.size = cap * 1 ∧ cur.toList.take (l.length * 1) = Lib.byteCells l := by
  rcases hown.2 with ⟨_,_,hz⟩ | ⟨g,cap,cur,hv,r⟩
  ·exact absurd hz hl0
  ·exact ⟨g,cap,cur,hv,r⟩
 have hrow : w.ownsRow 0 (ρ.t 5) 1 (.slice (some ⟨g,0,none⟩) l.length cap) l.length (Lib.byteCells l) := hown.row (ownB_of hcp)
 have c1 : w.drew.cell? ⟨b,1,none⟩ = some (.slice (some ⟨g,0,none⟩) l.length cap) := by
  have : w.drew.heap[b]? = some (.cells #[p,.slice (some ⟨g,0,none⟩) l.length cap] (ρ.t 72) (0,0)) := hbk
  rw [Lib.cell_of_heap this]; rfl
 have hSD : (Builtin.unsafeSliceData_ #[(ρ.t 37)] (ρ.t 127) #[.slice (some ⟨g,0,none⟩) l.length cap]).run P w.drew = .ok (.pointer (some ⟨g,0,none⟩)) w.drew :=
  Lib.run_unsafeSliceData_row _ _ _ _ _ _ (by omega)
 have hUS : (Builtin.unsafeString_ #[(ρ.t 127),(ρ.t 3)] (ρ.t 9) #[.pointer (some ⟨g,0,none⟩),.int .i64 l.length]).run P w.drew = .ok (.string ⟨l.toArray⟩) (w.drew.freeze ⟨g,0,none⟩ l.length) := by
  refine Lib.run_unsafeString_row w.drew (ρ.t 127) (ρ.t 3) (ρ.t 9) (ρ.t 5) L.t127 X.cellsByte g cur.size (by have hg' : w.drew.heap[g]? = some (.cells cur (ρ.t 5) (0,0)) := hg; simp [World.shape?,hg']) l h0 (by omega) (by unfold maxLen at hcm; omega) ?_
  intro j x hx
  have := hrow.cells (g := g) rfl j (.int .u8 x.toNat) (by simp [Lib.byteCells,hx])
  exact this
 have mixed := L.mixed
 have t72 := L.t72; have a72 := L.a72; have z72 := L.z72; have v72 := L.v72; have u72 := run_underlying L.t72
 have t70 := L.t70; have a70 := L.a70; have z70 := L.z70; have v70 := L.v70; have u70 := run_underlying L.t70
 have t37 := L.t37; have a37 := L.a37; have z37 := L.z37; have v37 := L.v37; have u37 := run_underlying L.t37
 have t127 := L.t127; have a127 := L.a127; have z127 := L.z127; have v127 := L.v127; have u127 := run_underlying L.t127
 have t3 := L.t3; have a3 := L.a3; have z3 := L.z3; have v3 := L.v3; have u3 := run_underlying L.t3
 have t9 := L.t9; have a9 := L.a9; have z9 := L.z9; have v9 := L.v9; have u9 := run_underlying L.t9
 have t5 := X.t5; have a5 := X.a5; have z5 := X.z5; have v5 := X.v5; have u5 := run_underlying X.t5
 have fin : ∀ w' : World,w' = w.drew.freeze ⟨g,0,none⟩ l.length → w'.os = w.os ∧ w'.tape = w.tape ∧ w'.output = w.output ∧ w.heap.size ≤ w'.heap.size ∧ ∀ k,k < w.heap.size → ownB (.slice (some ⟨g,0,none⟩) l.length cap) ≠ some k → w'.heap[k]? = w.heap[k]? := by
  rintro w' rfl
  refine ⟨by unfold World.freeze; rw [if_neg hl0]; rfl,by unfold World.freeze; rw [if_neg hl0]; rfl,by unfold World.freeze; rw [if_neg hl0]; rfl,?_,fun k hk hkn => ?_⟩
  ·unfold World.freeze; rw [if_neg hl0]; show w.heap.size ≤ (w.heap.modify g _).size; rw [Array.size_modify]; exact Nat.le_refl _
  ·rw [ownB_of hcp] at hkn
   have : g ≠ k := fun h => hkn (by rw [h])
   unfold World.freeze; rw [if_neg hl0]; show (w.heap.modify g _)[k]? = w.heap[k]?; rw [Array.getElem?_modify,if_neg this]
 go_enter L.f169,Body.n169_ntmps ρ
 go_wp2
 go_region_o
 all_goals (go_wp2; go_ret; exact ⟨rfl,fin _ rfl⟩)
end
end Go.Rv
