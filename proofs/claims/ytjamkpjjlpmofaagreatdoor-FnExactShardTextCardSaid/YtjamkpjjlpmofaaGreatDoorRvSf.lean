/- Numbers as texts, and texts joined. No condition. -/
import Derived.Test.YtjamkpjjlpmofaaGreatDoorRvL
import Derived.Shelf.Strconv.Itoa4
import Derived.Room.Shelf.Join48
namespace Go.Rv
open Go.Shelf Go.Proofs

def itoaB (n : Int) : ByteArray := ⟨(Lib.itoa n).toArray⟩
def fmtRun (x : Int × Int) : Option ByteArray := cond (Nat.ble x.1.natAbs 9223372036854775807 && x.2 == 10) (some (itoaB x.1)) none
def SFmt : FSpec := ⟨[.val (.int .i64),.val (.int .i64)],[.str],fun x => fmtRun x⟩

def joinW (xs : List ByteArray) (sep : ByteArray) : ByteArray := ⟨(Lib.join (xs.map (·.data.toList)) sep.data.toList).toArray⟩
def joinRun (x : List ByteArray × ByteArray) : Option ByteArray := cond (!x.1.isEmpty && Nat.ble x.1.length 140737488355328 && Nat.ble (joinW x.1 x.2).size 140737488355328) (some (joinW x.1 x.2)) none
def SJoin : FSpec := ⟨[.val (.sl none .str),.val .str],[.str],fun x => joinRun x⟩

theorem resOK_str {w w' : World} {R : Nat → Prop} {D : Col} {ps : List PK} (hps : hands ps = []) {run : Tup (ps.map PK.kd) → Option (Tup ([.str] ++ boxes ps))} {s : Tup ([.str] ++ boxes ps)} {v : ByteArray} (hs : HEq s v) (os : w'.os = w.os) (tape : w'.tape = w.tape) (output : w'.output = w.output) (size : w.heap.size ≤ w'.heap.size) (same : ∀ b,b < w.heap.size → w'.heap[b]? = w.heap[b]?) :
  ResOK w w' R D [] ⟨ps,[.str],run⟩ s (.string v) := by
 refine ⟨os,tape,output,size,fun b hb _ => same b hb,fun nx is h1 h2 h3 => ?_⟩
 have : is = [] := List.length_eq_zero_iff.1 h1
 subst this
 have e : results [.str] (hands ps) [] s nx = ([.str v],[],nx) := by
  have gen : ∀ (bs : List BK) (hb : bs = []) (s : Tup ([.str] ++ bs.map BK.kd)),HEq s v → results [.str] bs [] s nx = ([.str v],[],nx) := by
   rintro bs rfl s hs
   have : s = v := eq_of_heq hs
   subst this
   rfl
  exact gen _ hps s hs
 refine ⟨fun _ => none,fun _ => .slice none 0 0,fun _ => False,?_⟩
 have no : ∀ i,¬ ((nx ≤ i ∧ i < nx) ∨ i ∈ ([] : List Nat)) := fun i h => by
  rcases h with ⟨h1,h2⟩ | h
  ·omega
  ·cases h
 constructor
 ·rw [e]; exact Nat.le_refl _
 ·intro b i p h; cases h
 ·intro q i u h; simp at h
 ·intro b h; cases h
 ·rw [e]; intro i h; exact absurd h (no i)
 ·rw [e]; intro p h; cases h
 ·rw [e]; intro i h; exact absurd h (no i)
 ·rw [e]; intro i h1 h2; exact absurd (Nat.lt_of_le_of_lt h1 h2) (Nat.lt_irrefl _)
 ·rw [e]; simp [packV,AV]

section
variable {P : Program} {ρ : Ren}

theorem sound_fmt (L : LaysM.n173 P ρ) (hg : (P.globalNamed "internal/strconv.uint64pow10").isSome = true) : Sound P (ρ.f 173) SFmt := by
 intro w R vs x D hs hargs hR hD hK r hr
 obtain ⟨x,y⟩ : Int × Int := x
 obtain ⟨v1,vs',b1,b2,rfl,rfl,⟨rfl,_,h1,h2⟩,v2,rfl,rfl,_,h3,h4⟩ := hargs
 have e1 : v1 = .int .i64 x := by
  have := shaped_val (Al := fun _ => False) (H := fun _ => .slice none 0 0) h1 h2
  simpa [valOf,cellsOf,AV,Kd.agg] using this
 have e2 : v2 = .int .i64 y := by
  have := shaped_val (Al := fun _ => False) (H := fun _ => .slice none 0 0) h3 h4
  simpa [valOf,cellsOf,AV,Kd.agg] using this
 subst e1 e2
 have hr' : fmtRun (x,y) = some r := hr
 unfold fmtRun at hr'
 cases hc : (Nat.ble x.natAbs 9223372036854775807 && y == 10)
 ·rw [hc] at hr'; cases hr'
 ·rw [hc] at hr'
  simp only [cond_true,Option.some.injEq] at hr'
  simp only [Bool.and_eq_true,beq_iff_eq] at hc
  have hx := Nat.le_of_ble_eq_true hc.1
  have hy := hc.2
  subst hy
  obtain ⟨g,hg⟩ := Option.isSome_iff_exists.1 hg
  have htab : Lib.TabIs P w "internal/strconv.uint64pow10" .u64 Lib.pow10Tab := by
   have h := (hK g hg).2
   unfold Lib.TabIs Lib.pow10Tab
   rw [h,List.map_map]
   rfl
  refine (Any.strconv_FormatInt_10 L x (by omega) (by omega) w htab).mono ?_
  rintro e w' ⟨rfl,k,os,rfl⟩
  refine ⟨_,rfl,resOK_str (ps := [.val (.int .i64),.val (.int .i64)]) rfl (heq_of_eq (Option.some.inj hr').symm) ?_ ?_ ?_ ?_ ?_⟩
  ·simp [Sort.grow,World.drewN]
  ·simp [Sort.grow,World.drewN]
  ·simp [Sort.grow,World.drewN]
  ·simp [Sort.grow,World.drewN]
  ·intro b hb
   simp [Sort.grow,World.drewN,Array.getElem?_append,hb]

theorem sound_join (L : Lays.n156 P ρ) (X : Builder.Extra P ρ) : Sound P (ρ.f 156) SJoin := by
 intro w R vs x D hs hargs hR hD hK r hr
 obtain ⟨xs,sep⟩ : List ByteArray × ByteArray := x
 obtain ⟨v1,vs',b1,b2,rfl,rfl,⟨rfl,_,h1,h2⟩,v2,rfl,rfl,_,h3,h4⟩ := hargs
 have e2 : v2 = .string sep := by
  have := shaped_val (Al := fun _ => False) (H := fun _ => .slice none 0 0) h3 h4
  simpa [valOf,cellsOf,AV,Kd.agg] using this
 subst e2
 have hr' : joinRun (xs,sep) = some r := hr
 unfold joinRun at hr'
 cases hc : (!xs.isEmpty && Nat.ble xs.length 140737488355328 && Nat.ble (joinW xs sep).size 140737488355328)
 ·rw [hc] at hr'; cases hr'
 ·rw [hc] at hr'
  simp only [cond_true,Option.some.injEq] at hr'
  simp only [Bool.and_eq_true,Bool.not_eq_true'] at hc
  have hx := Nat.le_of_ble_eq_true hc.1.2
  have hj := Nat.le_of_ble_eq_true hc.2
  have hne : xs ≠ [] := fun h => by rw [h] at hc; simp at hc
  have h1' : v1.oneCell' = true := h1
  obtain ⟨A,n,c,fl,e1,hn,hnc,hl,ha⟩ := h2
  have hv1 : v1 = .slice A n c := by
   rw [one_cells h1'] at e1
   simpa using e1
  subst hv1 hn
  rcases ha with ha | ⟨a,rfl,hsp,hRa,hat⟩
  ·exact absurd ha hne
  ·obtain ⟨bk,o,sp⟩ := a
   have hsp : sp = none := hsp
   subst hsp
   have hfl : ∀ (xs : List ByteArray) (j : Nat) (fl : List Value),Lst (fun j x c => Rp w noC R 0 .str x (j :: []) c) j xs fl → fl = xs.map Value.string := by
    intro xs
    induction xs with
    | nil => intro j fl h; exact h
    | cons x xs ih =>
     intro j fl h
     obtain ⟨c,r,rfl,hc,hr⟩ := h
     have hc : c = [.string x] := hc
     rw [hc,ih _ _ hr]
     rfl
   have hfl := hfl xs 0 fl hl
   subst hfl
   have hjl : (Lib.join (xs.map (·.data.toList)) sep.data.toList).length ≤ 281474976710656 := by
    have : (joinW xs sep).size = (Lib.join (xs.map (·.data.toList)) sep.data.toList).length := by simp [joinW,ByteArray.size]
    omega
   refine (Any.strings_Join_48 L X bk o c xs sep w (fun j x hx => ?_) (hR bk hRa).1 hx hnc hjl).mono ?_
   ·have := hat j (.string x) (by simp [hx])
    rwa [Addr.add_lit] at this
   rintro e w' ⟨rfl,hb⟩
   exact ⟨_,rfl,resOK_str (ps := [.val (.sl none .str),.val .str]) rfl (heq_of_eq (Option.some.inj hr').symm) hb.os hb.tape hb.output hb.size fun b hb' => hb.block b hb'⟩
end
end Go.Rv
