/- The evaluator of the code, and its relation to the world of the machine. No condition. -/
import Derived.Deep.Quiet
import Derived.KernelRfl
import Derived.Deep.Draws
import Derived.Laws.OwnMore
import Derived.Laws.BytesArg
import Derived.Laws.StructEq
import Derived.DataElems
namespace Go.Rv

inductive Kd where
 | int (k : IntKind) | bool | str | sl (own : Option Nat) (e : Kd) | one (a : Kd) | pair (a b : Kd)
 deriving DecidableEq

@[reducible] def Kd.ty : Kd → Type
 | .int _ => Int
 | .bool => Bool
 | .str => ByteArray
 | .sl _ e => List e.ty
 | .one a => a.ty
 | .pair a b => a.ty × b.ty

def Kd.size : Kd → Nat
 | .pair a b => a.size + b.size
 | .one a => a.size
 | _ => 1

def Kd.agg : Kd → Bool
 | .pair _ _ => true
 | .one _ => true
 | _ => false

def Kd.ro : Kd → Bool
 | .pair a b => cond a.ro b.ro false
 | .one a => a.ro
 | .sl none e => e.ro
 | .sl (some _) _ => false
 | _ => true

def Kd.flat : Kd → Bool
 | .pair a b => cond a.flat b.flat false
 | .one a => a.flat
 | .sl _ _ => false
 | _ => true

def Kd.fresh : Kd → Bool
 | .pair a b => cond a.fresh b.fresh false
 | .one a => a.fresh
 | .sl none _ => false
 | .sl (some _) e => e.fresh
 | _ => true

@[reducible] def Kd.er : Kd → Kd
 | .sl _ e => .sl none e.er
 | .one a => .one a.er
 | .pair a b => .pair a.er b.er
 | .int k => .int k
 | .bool => .bool
 | .str => .str

theorem Kd.er_ty : ∀ k : Kd,k.er.ty = k.ty
 | .int _ => rfl
 | .bool => rfl
 | .str => rfl
 | .sl _ e => congrArg List e.er_ty
 | .one a => a.er_ty
 | .pair a b => by show (a.er.ty × b.er.ty) = (a.ty × b.ty); rw [a.er_ty,b.er_ty]

def Kd.ok : Kd → Bool
 | .sl none e => e.ro
 | .sl (some _) e => e.ok
 | .one a => a.ok
 | .pair a b => cond a.ok b.ok false
 | _ => true

inductive AVal where
 | undef
 | int (k : IntKind) (n : Int)
 | bool (b : Bool)
 | str (s : ByteArray)
 | nil
 | sl (e : Kd) (xs : List e.ty)
 | ref (i : Nat)
 | ptr (i off : Nat)
 | eptr (i s j off : Nat)
 | pel (e : Kd) (x : e.ty) (off : Nat)
 | vw (i s lo n : Nat)
 | emp
 | pnil
 | sub (i ver s j off : Nat)
 | agg (cs : List AVal)
 | tup (vs : List AVal)
 | fn (f : Nat) (pre caps : List AVal)

inductive Ent where
 | dead
 | box (cs : List AVal)
 | row (t : Nat) (e : Kd) (xs : List e.ty)
 | fro (e : Kd) (xs : List e.ty)
 | nrow (t : Nat) (e : Kd) (ver : Nat) (xs : List e.ty)
 | ver
 | mp (k : Kd) (v : IntKind) (kvs : List (k.ty × Int))
 | it (m : Nat) (n : Int) (seen : List Int)
 | bld (t e : Nat) (s : ByteArray)
 | fbx (k : Kd) (x : k.ty)

abbrev Upd := List (Nat × Ent)
abbrev Slots := List (Nat × AVal)

structure St where
 env : Slots
 sto : Upd
 nxt : Nat
 sz : Nat

def getE : Slots → Nat → AVal
 | [],_ => .undef
 | (d,v) :: r,t => cond (Nat.beq t d) v (getE r t)

def getS : Upd → Nat → Ent
 | [],_ => .dead
 | (d,v) :: r,t => cond (Nat.beq t d) v (getS r t)

structure TI where
 agg : Bool
 size : Nat
 bytes : Nat
 flds : List (Nat × Nat × Nat)
 elem : Nat
 zero : List AVal
 kd : Option Kd
 eq : List Nat

abbrev Tab := List (Nat × TI)

def Tab.get : Tab → Nat → Option TI
 | [],_ => none
 | (d,v) :: r,t => cond (Nat.beq t d) (some v) (Tab.get r t)

def cellsOf : (k : Kd) → k.ty → List AVal
 | .int k,n => [.int k n]
 | .bool,b => [.bool b]
 | .str,s => [.str s]
 | .sl _ e,xs => [.sl e xs]
 | .one a,x => cellsOf a x
 | .pair a b,x => cellsOf a x.1 ++ cellsOf b x.2

def castL (e e' : Kd) (xs : List e'.ty) : Option (List e.ty) := if h : e' = e then some (h ▸ xs) else none

def castR (e e' : Kd) (xs : List e'.ty) : Option (List e.ty) := if h : e'.er = e then some (cast (congrArg List (by rw [← h,Kd.er_ty])) xs) else none

def frozenL (S : Upd) (e : Kd) : AVal → Option (List e.ty)
 | .nil => some []
 | .emp => some []
 | .sl e' xs => castL e e' xs
 | .ref i => match getS S i with
  | .fro e' xs => castL e e' xs
  | .row _ e' xs => castL e e' xs
  | _ => none
 | _ => none

def readSl (S : Upd) (e : Kd) : AVal → Option (List e.ty)
 | .nil => some []
 | .emp => some []
 | .vw i s lo n => match getS S i with
  | .row _ e' xs => cond (Nat.beq s e'.size) (castL e e' ((xs.drop lo).take n)) none
  | .fro e' xs => cond (Nat.beq s e'.size) (castL e e' ((xs.drop lo).take n)) none
  | _ => none
 | .sl e' xs => castL e e' xs
 | .ref i => match getS S i with
  | .row _ e' xs => castL e e' xs
  | .fro e' xs => castL e e' xs
  | _ => none
 | _ => none

def readD (S : Upd) (e : Kd) (v : AVal) : Option (List e.ty) :=
 match v with
 | .ref i => match getS S i with
  | .nrow _ e' _ xs => castR e e' xs
  | _ => readSl S e v
 | v => readSl S e v

def ofCells (S : Upd) : (k : Kd) → List AVal → Option (k.ty × List AVal)
 | .int k,.int k' n :: r => if k' = k then some (n,r) else none
 | .bool,.bool b :: r => some (b,r)
 | .str,.str s :: r => some (s,r)
 | .sl _ e,v :: r => match readD S e v with
  | some xs => some (xs,r)
  | none => none
 | .one a,cs => ofCells S a cs
 | .pair a b,cs => match ofCells S a cs with
  | some (x,r) => match ofCells S b r with
   | some (y,r') => some ((x,y),r')
   | none => none
  | none => none
 | _,_ => none

def takeSl (S : Upd) (o : Option Nat) (e : Kd) (v : AVal) : Option (List e.ty × List (Option Nat)) :=
 match o with
 | none => match v with
  | .nil => some ([],[])
  | .emp => some ([],[])
  | .sl e' xs => match castL e e' xs with
   | some ys => some (ys,[])
   | none => none
  | .ref i => match getS S i with
   | .fro e' xs => match castL e e' xs with
    | some ys => some (ys,[])
    | none => none
   | _ => none
  | _ => none
 | some t => match v with
  | .nil => some ([],cond e.ro [none] [none,none])
  | .ref i => match getS S i with
   | .row t' e' xs => cond (Nat.beq t' t && e.ro) (match castL e e' xs with
    | some ys => some (ys,[some i])
    | none => none) none
   | .nrow t' e' ver xs => cond (Nat.beq t' t && !e.ro) (match castL e e' xs with
    | some ys => some (ys,[some i,some ver])
    | none => none) none
   | _ => none
  | _ => none

def takeCells (S : Upd) : (k : Kd) → List AVal → Option (k.ty × List AVal × List (Option Nat))
 | .int k,.int k' n :: r => if k' = k then some (n,r,[]) else none
 | .bool,.bool b :: r => some (b,r,[])
 | .str,.str s :: r => some (s,r,[])
 | .sl o e,v :: r => match takeSl S o e v with
  | some (xs,is) => some (xs,r,is)
  | none => none
 | .one a,cs => takeCells S a cs
 | .pair a b,cs => match takeCells S a cs with
  | some (x,r,is) => match takeCells S b r with
   | some (y,r',js) => some ((x,y),r',is ++ js)
   | none => none
  | none => none
 | _,_ => none

def cellsV : AVal → List AVal
 | .agg cs => cs
 | v => [v]

def aggV : AVal → Bool
 | .agg _ => true
 | _ => false

def solid : AVal → Bool
 | .undef => false
 | .tup _ => false
 | _ => true

def takeV (S : Upd) (k : Kd) (v : AVal) : Option (k.ty × List (Option Nat)) :=
 match takeCells S k (cellsV v) with
 | some (x,[],is) => cond (k.agg == aggV v && solid v) (some (x,is)) none
 | _ => none

def datum (S : Upd) (k : Kd) (v : AVal) : Option k.ty :=
 match ofCells S k (cellsV v) with
 | some (x,[]) => cond (k.agg == aggV v && solid v) (some x) none
 | _ => none

def constA : Value → AVal
 | .int k n => .int k n
 | .bool b => .bool b
 | .string s => .str s
 | .slice none 0 0 => .nil
 | .pointer none => .pnil
 | _ => .undef

def oper (st : St) : Operand → AVal
 | .tmp t => getE st.env t
 | .const v => constA v
 | .func f => .fn f [] []
 | .global _ => .undef

def geti {α : Type} (xs : List α) (i : Int) : Option α := if 0 ≤ i then xs[i.toNat]? else none
def lenI {α : Type} (xs : List α) : Int := (xs.length : Int)

def tagV : AVal → Nat
 | .int _ _ => 0
 | .bool _ => 1
 | .str _ => 2
 | _ => 3

def eqCells : List AVal → List AVal → Option Bool
 | [],[] => some true
 | .int k a :: r,.int k' b :: s => match eqCells r s with
  | some q => if k = k' then some ((a == b) && q) else none
  | none => none
 | .bool a :: r,.bool b :: s => match eqCells r s with
  | some q => some ((a == b) && q)
  | none => none
 | .str a :: r,.str b :: s => match eqCells r s with
  | some q => some ((a.toList == b.toList) && q)
  | none => none
 | _,_ => none

def intBin (op : BinOp) (k : IntKind) (a b : Int) : Option AVal :=
 match op with
 | .add => some (.int k (k.wrap (a + b)))
 | .sub => some (.int k (k.wrap (a - b)))
 | .mul => some (.int k (k.wrap (a * b)))
 | .eql => some (.bool (a == b))
 | .neq => some (.bool (!(a == b)))
 | .lss => some (.bool (decide (a < b)))
 | .leq => some (.bool (decide (a ≤ b)))
 | .gtr => some (.bool (decide (a > b)))
 | .geq => some (.bool (decide (a ≥ b)))
 | _ => none

def Kd.ints : Kd → Bool
 | .int _ => true
 | .one a => a.ints
 | .pair a b => cond a.ints b.ints false
 | _ => false

def keqB : (k : Kd) → k.ty → k.ty → Bool
 | .int _,a,b => a == b
 | .one k,a,b => keqB k a b
 | .pair k l,a,b => keqB k a.1 b.1 && keqB l a.2 b.2
 | _,_,_ => false

def mfind (k : Kd) (kvs : List (k.ty × Int)) (x : k.ty) : Nat := kvs.findIdx fun p => keqB k x p.1

def mlook (k : Kd) (kvs : List (k.ty × Int)) (x : k.ty) : Int :=
 match kvs[mfind k kvs x]? with
 | some p => p.2
 | none => 0

def mput (k : Kd) (kvs : List (k.ty × Int)) (x : k.ty) : List (k.ty × Int) :=
 match kvs[mfind k kvs x]? with
 | some _ => kvs
 | none => kvs ++ [(x,0)]

def mset (k : Kd) (kvs : List (k.ty × Int)) (j : Nat) (v : Int) : List (k.ty × Int) := kvs.modify j fun p => (p.1,v)

def mupd (k : Kd) (kvs : List (k.ty × Int)) (x : k.ty) (v : Int) : List (k.ty × Int) :=
 match kvs[mfind k kvs x]? with
 | some _ => mset k kvs (mfind k kvs x) v
 | none => kvs ++ [(x,v)]

def leftM (n : Int) (seen : List Int) : List Int := ((List.range n.toNat).map Int.ofNat).filter fun j => !seen.contains j

noncomputable section
variable {R : Type}

def sameAll : List (Option R) → Option R
 | [] => none
 | x :: r => @ite _ (∀ y ∈ r,y = x) (Classical.propDecidable _) x none

def drawM (left : List Int) (f : Int → Option R) (fin : Option R) : Option R :=
 match left with
 | [] => fin
 | j :: r => sameAll ((j :: r).map f)

def same (a b : Option R) : Option R := @ite _ (a = b) (Classical.propDecidable _) a none

def chk (b : Bool) (x : Option R) : Option R := cond b x none

def binA (ti : Option TI) (op : BinOp) (x y : AVal) (k : AVal → Option R) : Option R :=
 match x,y with
 | .int ka a,.int kb b =>
  if ka = kb then
   match op with
   | .quo => cond (b == 0) none (k (.int ka (ka.wrap (a.tdiv b))))
   | .rem => cond (b == 0) none (k (.int ka (a.tmod b)))
   | .shl => none
   | .shr => none
   | op => match intBin op ka a b with
    | some v => k v
    | none => none
  else none
 | .bool a,.bool b => match ti with
  | some ti => match ti.kd with
   | some .bool => match op with
    | .eql => k (.bool (a == b))
    | .neq => k (.bool !(a == b))
    | _ => none
   | _ => none
  | none => none
 | .str a,.str b => match op with
  | .add => chk (Nat.ble (a.size + b.size) 9223372036854775807) (k (.str (a ++ b)))
  | .eql => k (.bool (a.toList == b.toList))
  | .neq => k (.bool !(a.toList == b.toList))
  | .lss => k (.bool (Op.bytesLess a.toList b.toList))
  | .leq => k (.bool (Op.bytesLess a.toList b.toList || a.toList == b.toList))
  | .gtr => k (.bool !(Op.bytesLess a.toList b.toList || a.toList == b.toList))
  | .geq => k (.bool !(Op.bytesLess a.toList b.toList))
  | _ => none
 | .agg cs,.agg ds => match ti with
  | some ti => chk (ti.agg && !ti.eq.isEmpty && cs.map tagV == ti.eq && ds.map tagV == ti.eq) (match eqCells cs ds with
   | some q => match op with
    | .eql => k (.bool q)
    | .neq => k (.bool !q)
    | _ => none
   | none => none)
  | none => none
 | _,_ => none

def offA (x : AVal) (d : Nat) : Option AVal :=
 match x with
 | .ptr i o => some (.ptr i (o + d))
 | .eptr i s j o => some (.eptr i s j (o + d))
 | .pel e x o => some (.pel e x (o + d))
 | _ => none

def pickCells (agg : Bool) (size off : Nat) (cs : List AVal) : Option AVal :=
 match agg with
 | true => cond (Nat.beq ((cs.drop off).take size).length size) (some (.agg ((cs.drop off).take size))) none
 | false => match (cs.drop off).take size with
  | [v] => cond (Nat.beq size 1) (some v) none
  | _ => none

def cellsN (i ver s j : Nat) : (k : Kd) → k.ty → Nat → List AVal
 | .int k,n,_ => [.int k n]
 | .bool,b,_ => [.bool b]
 | .str,t,_ => [.str t]
 | .sl none e,xs,_ => [.sl e xs]
 | .sl (some _) _,_,o => [.sub i ver s j o]
 | .one a,x,o => cellsN i ver s j a x o
 | .pair a b,x,o => cellsN i ver s j a x.1 o ++ cellsN i ver s j b x.2 (o + a.size)

def ownAt : Kd → Nat → Option (Nat × Kd)
 | .one a,o => ownAt a o
 | .pair a b,o => cond (Nat.blt o a.size) (ownAt a o) (ownAt b (o - a.size))
 | .sl (some t) e,0 => some (t,e)
 | _,_ => none

def getC : (k : Kd) → k.ty → Nat → (e : Kd) → Option (List e.ty)
 | .one a,x,o,e => getC a x o e
 | .pair a b,x,o,e => cond (Nat.blt o a.size) (getC a x.1 o e) (getC b x.2 (o - a.size) e)
 | .sl (some _) e',xs,0,e => castL e e' xs
 | _,_,_,_ => none

def putC : (k : Kd) → k.ty → Nat → (e : Kd) → List e.ty → Option k.ty
 | .one a,x,o,e,ys => putC a x o e ys
 | .pair a b,x,o,e,ys => cond (Nat.blt o a.size)
  (match putC a x.1 o e ys with
  | some z => some (z,x.2)
  | none => none)
  (match putC b x.2 (o - a.size) e ys with
  | some z => some (x.1,z)
  | none => none)
 | .sl (some _) e',_,0,e,ys => castL e' e ys
 | _,_,_,_,_ => none

def putF (S : Upd) : (k : Kd) → k.ty → Nat → List AVal → Option (k.ty × Nat × List AVal)
 | .one a,x,o,vs => putF S a x o vs
 | .pair a b,x,o,vs => match putF S a x.1 o vs with
  | some (y,o',vs') => match putF S b x.2 o' vs' with
   | some (z,o'',vs'') => some ((y,z),o'',vs'')
   | none => none
  | none => none
 | .int _,x,o + 1,vs => some (x,o,vs)
 | .bool,x,o + 1,vs => some (x,o,vs)
 | .str,x,o + 1,vs => some (x,o,vs)
 | .sl _ _,x,o + 1,vs => some (x,o,vs)
 | .int _,x,0,[] => some (x,0,[])
 | .bool,x,0,[] => some (x,0,[])
 | .str,x,0,[] => some (x,0,[])
 | .sl _ _,x,0,[] => some (x,0,[])
 | .int k,_,0,.int k' n :: r => if k' = k then some (n,0,r) else none
 | .bool,_,0,.bool b :: r => some (b,0,r)
 | .str,_,0,.str t :: r => some (t,0,r)
 | .sl none e,_,0,v :: r => match takeSl S none e v with
  | some (xs,_) => some (xs,0,r)
  | none => none
 | _,_,_,_ => none

def hasOwn (k : Kd) (o : Nat) : Nat → Bool
 | 0 => false
 | n + 1 => (ownAt k (o + n)).isSome || hasOwn k o n

def once (is : List (Option Nat)) : Bool := decide (is.filterMap id).Nodup

def deadU (is : List (Option Nat)) : Upd := (is.filterMap id).map fun i => (i,.dead)

def loadA (S : Upd) (ti : TI) (x : AVal) (k : AVal → Option R) : Option R :=
 match x with
 | .ptr i o => match getS S i with
  | .box cs => match pickCells ti.agg ti.size o cs with
   | some v => k v
   | none => none
  | .fbx e x => match pickCells ti.agg ti.size o (cellsOf e x) with
   | some v => k v
   | none => none
  | _ => none
 | .pel e x o => match pickCells ti.agg ti.size o (cellsOf e x) with
   | some v => k v
   | none => none
 | .eptr i s j o => match getS S i with
  | .row _ e xs => chk (Nat.beq s e.size && e.ro) ((xs[j]?).bind fun x => match pickCells ti.agg ti.size o (cellsOf e x) with
   | some v => k v
   | none => none)
  | .nrow _ e ver xs => chk (Nat.beq s e.size && e.ok) ((xs[j]?).bind fun x => match pickCells ti.agg ti.size o (cellsN i ver s j e x 0) with
   | some v => k v
   | none => none)
  | _ => none
 | _ => none

def setSeg (cs : List AVal) (off : Nat) (vs : List AVal) : List AVal := cs.take off ++ vs ++ cs.drop (off + vs.length)

def one1 : AVal → Bool
 | .undef => false
 | .tup _ => false
 | .agg _ => false
 | _ => true

def bldZ : List AVal → Bool
 | [.pnil,.nil] => true
 | _ => false

def storeA (S : Upd) (nxt : Nat) (ti : TI) (x v : AVal) (k : Upd → Nat → Option R) : Option R :=
 chk (Nat.beq (cellsV v).length ti.size && (cellsV v).all one1)
  (match x with
  | .ptr i o => match getS S i with
   | .box cs => chk (Nat.ble (o + (cellsV v).length) cs.length) (k [(i,.box (setSeg cs o (cellsV v)))] nxt)
   | .bld t e _ => chk (Nat.beq o 0 && bldZ (cellsV v)) (k [(i,.bld t e .empty)] nxt)
   | _ => none
  | .eptr i s j o => match getS S i with
   | .row t e xs => chk (Nat.beq s e.size && Nat.ble (o + (cellsV v).length) e.size && e.ro)
    ((xs[j]?).bind fun x => match takeCells S e (setSeg (cellsOf e x) o (cellsV v)) with
     | some (y,[],_) => k [(i,.row t e (xs.set j y))] nxt
     | _ => none)
   | .nrow t e ver xs => chk (Nat.beq s e.size && Nat.ble (o + (cellsV v).length) e.size && e.ok)
    (cond (hasOwn e o (cellsV v).length)
     (chk (Nat.beq o 0 && Nat.beq (cellsV v).length e.size) ((xs[j]?).bind fun _ => match takeCells S e (cellsV v) with
      | some (y,[],ids) => chk (once ids && !ids.contains (some i)) (k ((i,.nrow t e nxt (xs.set j y)) :: (nxt,.ver) :: deadU ids) (nxt + 1))
      | _ => none))
     ((xs[j]?).bind fun x => match putF S e x o (cellsV v) with
      | some (y,_,[]) => k [(i,.nrow t e ver (xs.set j y))] nxt
      | _ => none))
   | _ => none
  | _ => none)

def indexA (S : Upd) (size : Nat) (x ix : AVal) (k : AVal → Option R) : Option R :=
 match ix with
 | .int _ i => match x with
  | .sl e xs => chk (Nat.beq size e.size) ((geti xs i).bind fun y => k (.pel e y 0))
  | .ref r => match getS S r with
   | .row _ e xs => chk (Nat.beq size e.size) ((geti xs i).bind fun _ => k (.eptr r size i.toNat 0))
   | .nrow _ e _ xs => chk (Nat.beq size e.size) ((geti xs i).bind fun _ => k (.eptr r size i.toNat 0))
   | .fro e xs => chk (Nat.beq size e.size) ((geti xs i).bind fun y => k (.pel e y 0))
   | _ => none
  | .vw r s lo n => match getS S r with
   | .row _ e xs => chk (Nat.beq size e.size && Nat.beq s e.size) ((geti ((xs.drop lo).take n) i).bind fun _ => k (.eptr r size (lo + i.toNat) 0))
   | .fro e xs => chk (Nat.beq size e.size && Nat.beq s e.size) ((geti ((xs.drop lo).take n) i).bind fun y => k (.pel e y 0))
   | _ => none
  | _ => none
 | _ => none

def intO (st : St) (x : Option Operand) : Option (Option Int) :=
 match x with
 | none => some none
 | some x => match oper st x with
  | .int _ n => some (some n)
  | _ => none

def bndB (lo hi mx : Option Int) (len : Nat) : Bool :=
 decide (0 ≤ lo.getD 0) && decide (lo.getD 0 ≤ hi.getD (len : Int)) && match mx with
  | none => decide (hi.getD (len : Int) ≤ (len : Int))
  | some m => hi.isSome && decide (hi.getD (len : Int) ≤ m) && decide (m ≤ (len : Int))

def cutL {α : Type} (lo hi : Option Int) (xs : List α) : List α := (xs.drop (lo.getD 0).toNat).take ((hi.getD (xs.length : Int)).toNat - (lo.getD 0).toNat)

def sliceA (S : Upd) (str : Bool) (size : Nat) (x : AVal) (lo hi mx : Option Int) (k : AVal → Option R) : Option R :=
 match x with
 | .str s => chk (str && mx.isNone && bndB lo hi none s.size) (k (.str (s.extract (lo.getD 0).toNat (hi.getD (s.size : Int)).toNat)))
 | .nil => chk (!str && bndB lo hi mx 0) (k (match mx with | none => .nil | some _ => .undef))
 | .emp => chk (!str && bndB lo hi mx 0) (k (match mx with | none => .emp | some _ => .undef))
 | .sl e xs => chk (!str && Nat.beq size e.size && bndB lo hi mx xs.length) (k (.sl e (cutL lo hi xs)))
 | .ref i => match getS S i with
  | .row _ e xs => chk (!str && Nat.beq size e.size && bndB lo hi mx xs.length) (k (match mx with | none => .vw i size (lo.getD 0).toNat ((hi.getD (xs.length : Int)).toNat - (lo.getD 0).toNat) | some _ => .undef))
  | .fro e xs => chk (!str && Nat.beq size e.size && bndB lo hi mx xs.length) (k (.sl e (cutL lo hi xs)))
  | _ => none
 | .vw i s l n => match getS S i with
  | .row _ e xs => chk (!str && Nat.beq size e.size && Nat.beq s size && (mx.isNone || hi.isSome) && bndB lo (some (hi.getD (n : Int))) mx (xs.length - l)) (k (match mx with | none => .vw i size (l + (lo.getD 0).toNat) ((hi.getD (n : Int)).toNat - (lo.getD 0).toNat) | some _ => .undef))
  | .fro e xs => chk (!str && Nat.beq size e.size && Nat.beq s size && (mx.isNone || hi.isSome) && bndB lo (some (hi.getD (n : Int))) mx (xs.length - l)) (k (.sl e (cutL lo (some (hi.getD (n : Int))) (xs.drop l))))
  | _ => none
 | _ => none

def lenA (S : Upd) (x : AVal) : Option AVal :=
 match x with
 | .nil => some (.int .i64 0)
 | .emp => some (.int .i64 0)
 | .vw _ _ _ n => some (.int .i64 (n : Int))
 | .sl _ xs => some (.int .i64 (lenI xs))
 | .ref i => match getS S i with
  | .row _ _ xs => some (.int .i64 (lenI xs))
  | .nrow _ _ _ xs => some (.int .i64 (lenI xs))
  | .fro _ xs => some (.int .i64 (lenI xs))
  | _ => none
 | .str s => some (.int .i64 (s.size : Int))
 | _ => none

def maxBytes : Nat := 140737488355328

def rowU (nx t : Nat) (e : Kd) (xs : List e.ty) : Upd × Nat :=
 match e.ro with
 | true => ([(nx,.row t e xs)],nx + 1)
 | false => ([(nx,.nrow t e (nx + 1) xs),(nx + 1,.ver)],nx + 2)

def appN (S : Upd) (nxt : Nat) (t : Nat) (e : Kd) (bytes : Nat) (x : AVal) (m t2 : Nat) (e2 : Kd) (ys : List e2.ty) (k : AVal → Upd → Nat → Option R) : Option R :=
 chk (Nat.beq t2 t && decide (e2.er = e) && e2.ok)
  (match x with
  | .nil => chk (Nat.ble (ys.length * bytes) maxBytes) (k (.ref nxt) [(nxt,.nrow t e2 (nxt + 1) ys),(nxt + 1,.ver),(m,.dead)] (nxt + 2))
  | .emp => chk (Nat.ble (ys.length * bytes) maxBytes) (k (.ref nxt) [(nxt,.nrow t e2 (nxt + 1) ys),(nxt + 1,.ver),(m,.dead)] (nxt + 2))
  | .ref i => match getS S i with
   | .nrow t' e' _ xs' => chk (Nat.beq t' t && !(Nat.beq i m)) (match castL e2 e' xs' with
    | some xs => chk (Nat.ble ((xs.length + ys.length) * bytes) maxBytes) (k (.ref nxt) [(nxt,.nrow t e2 (nxt + 1) (xs ++ ys)),(nxt + 1,.ver),(i,.dead),(m,.dead)] (nxt + 2))
    | none => none)
   | _ => none
  | _ => none)

def appA (S : Upd) (nxt : Nat) (t : Nat) (e : Kd) (bytes : Nat) (x y : AVal) (k : AVal → Upd → Nat → Option R) : Option R :=
 match (match y with | .ref m => (match getS S m with | .nrow t2 e2 _ ys => some ⟨m,t2,e2,ys⟩ | _ => none) | _ => none : Option (Nat × Nat × (e2 : Kd) × List e2.ty)) with
 | some ⟨m,t2,e2,ys⟩ => appN S nxt t e bytes x m t2 e2 ys k
 | none => match readSl S e y with
 | none => none
 | some ys =>
  match x with
  | .nil => chk (e.ro && Nat.ble (ys.length * bytes) maxBytes) (k (.ref nxt) [(nxt,.row t e ys)] (nxt + 1))
  | .emp => chk (e.ro && Nat.ble (ys.length * bytes) maxBytes) (k (.ref nxt) [(nxt,.row t e ys)] (nxt + 1))
  | .ref i => match getS S i with
   | .row t' e' xs' => chk (e.ro && Nat.beq t' t) (match castL e e' xs' with
    | some xs => chk (Nat.ble ((xs.length + ys.length) * bytes) maxBytes) (k (.ref nxt) [(nxt,.row t e (xs ++ ys)),(i,.dead)] (nxt + 1))
    | none => none)
   | _ => none
  | _ => none

@[reducible] def Tup : List Kd → Type
 | [] => Unit
 | [k] => k.ty
 | k :: ks => k.ty × Tup ks

inductive PK where
 | val (k : Kd) | box (k : Kd)
 | row (t : Nat) (e : Kd)
 | own (t : Nat) (e : Kd)
 | fn (g : Nat)
 | fbox (g : Nat) (k : Kd)
 | rp (k : Kd)

def PK.kd : PK → Kd | .val k => k | .rp k => k | .box k => k | .row t e => .sl (some t) e | .own t e => .sl (some t) e | .fn _ => .bool | .fbox _ k => k

inductive BK where
 | box (k : Kd) | row (t : Nat) (e : Kd) | own

def BK.kd : BK → Kd | .box k => k | .row t e => .sl (some t) e | .own => .bool
def hands : List PK → List BK
 | [] => []
 | .box k :: r => .box k :: hands r
 | .row t e :: r => .row t e :: hands r
 | .own _ _ :: r => .own :: hands r
 | .val _ :: r => hands r
 | .fn _ :: r => hands r
 | .fbox _ k :: r => .box k :: hands r
 | .rp _ :: r => hands r
def boxes (ps : List PK) : List Kd := (hands ps).map BK.kd
def BK.isBox : BK → Bool | .box _ => true | _ => false
def BK.isOwn : BK → Bool | .own => true | _ => false
def BK.fresh : BK → Bool | .box k => k.fresh | .row _ e => e.fresh | .own => true

structure FSpec where
 ps : List PK
 rs : List Kd
 run : Tup (ps.map PK.kd) → Option (Tup (rs ++ boxes ps))

abbrev Env := List (Nat × FSpec)
def Env.get : Env → Nat → Option FSpec
 | [],_ => none
 | (d,v) :: r,t => cond (Nat.beq t d) (some v) (Env.get r t)

def shareF (F : FSpec) : Bool := !(F.rs.all Kd.fresh && (hands F.ps).all BK.fresh)

def PK.apart : PK → Bool
 | .val k => k.flat
 | .box _ => false
 | .row _ e => e.fresh
 | .own _ e => e.fresh
 | .fn _ => true
 | .fbox _ _ => false
 | .rp _ => false

def rowsApart (ps : List PK) : Bool :=
 (hands ps).all BK.isBox || ps.all PK.apart

def argRow (S : Upd) (t : Nat) (e : Kd) (v : AVal) : Option (List e.ty × List Nat) :=
 match v with
 | .ref i => match getS S i with
  | .row t' e' xs => cond (Nat.beq t' t && e.ro) (match castL e e' xs with
   | some ys => some (ys,[i])
   | none => none) none
  | .nrow t' e' _ xs => cond (Nat.beq t' t && !e.ro) (match castL e e' xs with
   | some ys => some (ys,[i])
   | none => none) none
  | _ => none
 | _ => none

def arg (any : Bool) (S : Upd) : (p : PK) → AVal → Option (p.kd.ty × List Nat)
 | .val k,v => match k.ro with
  | true => match any with
   | true => match datum S k v with
    | some x => some (x,[])
    | none => none
   | false => match takeV S k v with
    | some (x,_) => some (x,[])
    | none => none
  | false => none
 | .box k,v => match k.ro with
  | true => match v with
   | .ptr i 0 => match getS S i with
    | .box cs => match takeCells S k cs with
     | some (x,[],_) => some (x,[i])
     | _ => none
    | _ => none
   | _ => none
  | false => none
 | .row t e,v => argRow S t e v
 | .own t e,v => argRow S t e v
 | .fn g,v => match v with
  | .fn g' [] [] => cond (Nat.beq g' g) (some (true,[])) none
  | _ => none
 | .fbox g k,v => match v with
  | .fn g' [] [v] => match Nat.beq g' g && k.ro with
   | true => match v with
    | .ptr i 0 => match getS S i with
     | .box cs => match takeCells S k cs with
      | some (x,[],_) => some (x,[i])
      | _ => none
     | _ => none
    | _ => none
   | false => none
  | _ => none
 | .rp k,v => match k.ro with
  | true => match v with
   | .ptr i 0 => match getS S i with
    | .fbx k' x => if h : k' = k then some (h ▸ x,[]) else none
    | _ => none
   | .pel k' x 0 => if h : k' = k then some (h ▸ x,[]) else none
   | _ => none
  | false => none

def args (any : Bool) (S : Upd) : (ps : List PK) → List AVal → Option (Tup (ps.map PK.kd) × List Nat)
 | [],[] => some ((),[])
 | [p],[v] => arg any S p v
 | p :: p' :: ps,v :: vs => match arg any S p v with
  | some (x,b) => match args any S (p' :: ps) vs with
   | some (y,bs) => some ((x,y),b ++ bs)
   | none => none
  | none => none
 | _,_ => none

def resCells : (k : Kd) → k.ty → Nat → List AVal × Upd × Nat
 | .int k,n,nx => ([.int k n],[],nx)
 | .bool,b,nx => ([.bool b],[],nx)
 | .str,s,nx => ([.str s],[],nx)
 | .sl none e,xs,nx => ([.sl e xs],[],nx)
 | .sl (some t) e,xs,nx => ([.ref nx],(rowU nx t e xs).1,(rowU nx t e xs).2)
 | .one a,x,nx => resCells a x nx
 | .pair a b,x,nx => match resCells a x.1 nx with
  | (c1,u1,n1) => match resCells b x.2 n1 with
   | (c2,u2,n2) => (c1 ++ c2,u2 ++ u1,n2)

def valOf (k : Kd) (cs : List AVal) : AVal :=
 match k.agg with
 | true => .agg cs
 | false => match cs with
  | [v] => v
  | _ => .undef

def resBox : (b : BK) → Nat → b.kd.ty → Nat → Upd × Nat
 | .box k,i,x,nx => match resCells k x nx with
  | (c,u,n) => ((i,.box c) :: u,n)
 | .row t e,i,x,nx => match e.ro with
  | true => ([(i,.row t e x)],nx)
  | false => ([(i,.nrow t e nx x),(nx,.ver)],nx + 1)
 | .own,i,_,nx => ([(i,.dead)],nx)

def resBoxes : (bs : List BK) → List Nat → Tup (bs.map BK.kd) → Nat → Upd × Nat
 | [],_,_,nx => ([],nx)
 | [b],is,x,nx => resBox b (is.headD 0) x nx
 | b :: b' :: bs,is,x,nx => match resBox b (is.headD 0) x.1 nx with
  | (u,n) => match resBoxes (b' :: bs) is.tail x.2 n with
   | (u',n') => (u' ++ u,n')

def results : (rs : List Kd) → (bs : List BK) → List Nat → Tup (rs ++ bs.map BK.kd) → Nat → List AVal × Upd × Nat
 | [],bs,is,x,nx => match resBoxes bs is x nx with
  | (u,n) => ([],u,n)
 | [r],[],_,x,nx => match resCells r x nx with
  | (c,u,n) => ([valOf r c],u,n)
 | [r],b :: bs,is,x,nx => match resCells r x.1 nx with
  | (c,u,n) => match resBoxes (b :: bs) is x.2 n with
   | (u',n') => ([valOf r c],u' ++ u,n')
 | r :: r' :: rs,bs,is,x,nx => match resCells r x.1 nx with
  | (c,u,n) => match results (r' :: rs) bs is x.2 n with
   | (vs,u',n') => (valOf r c :: vs,u' ++ u,n')

def packV : List AVal → AVal
 | [v] => v
 | vs => .tup vs

def subV (S : Upd) (v : AVal) (k : AVal → Option R) : Option R :=
 match v with
 | .sub i ver s j off => match getS S i with
  | .nrow _ e ver' xs => chk (Nat.beq ver' ver && Nat.beq s e.size) ((xs[j]?).bind fun x => match ownAt e off with
   | some (_,e') => match getC e x off e' with
    | some ys => match castR e'.er e' ys with
     | some zs => k (.sl e'.er zs)
     | none => none
    | none => none
   | none => none)
  | _ => none
 | v => k v

def subVs (S : Upd) : List AVal → (List AVal → Option R) → Option R
 | [],k => k []
 | v :: vs,k => subV S v fun v' => subVs S vs fun vs' => k (v' :: vs')

def subAs (S : Upd) : List AVal → (List AVal → Option R) → Option R
 | [],k => k []
 | .agg cs :: vs,k => subVs S cs fun cs' => subAs S vs fun vs' => k (.agg cs' :: vs')
 | v :: vs,k => subV S v fun v' => subAs S vs fun vs' => k (v' :: vs')

def lentE (nx t : Nat) (e : Kd) (ys : List e.ty) : Ent :=
 match e.ro with
 | true => .row t e ys
 | false => .nrow t e (nx + 1) ys

def callS (F : FSpec) (S : Upd) (nxt i ver s j off : Nat) (rest : List AVal) (k : AVal → Upd → Nat → Option R) : Option R :=
 match getS S i with
 | .nrow t0 e0 ver' xs => chk (Nat.beq ver' ver && Nat.beq s e0.size) ((xs[j]?).bind fun x => match ownAt e0 off with
  | some (t,e) => match getC e0 x off e with
   | some ys => match args true ((nxt,lentE nxt t e ys) :: (nxt + 1,.ver) :: (i,.dead) :: S) F.ps (.ref nxt :: rest) with
    | some (y,[m]) => chk (Nat.beq m nxt && rowsApart F.ps && !(shareF F)) ((F.run y).bind fun r => match results F.rs (hands F.ps) [nxt] r (nxt + 2) with
     | (cs,u,n) => match getS u nxt with
      | .row t' e' zs => match putC e0 x off e' zs with
       | some x' => chk (Nat.beq t' t) (k (packV cs) ((i,.nrow t0 e0 ver (xs.set j x')) :: (nxt,.dead) :: u) n)
       | none => none
      | .nrow t' e' _ zs => match putC e0 x off e' zs with
       | some x' => chk (Nat.beq t' t) (k (packV cs) ((i,.nrow t0 e0 ver (xs.set j x')) :: (nxt,.dead) :: u) n)
       | none => none
      | _ => none)
    | _ => none
   | none => none
  | none => none)
 | _ => none

def lentB (ps : List PK) : Bool :=
 match ps with
 | .row _ _ :: _ => true
 | _ => false

def bldF (F : FSpec) : Option (Nat × Nat) :=
 match F.ps with
 | [.box .bool,.fn t,.fn e] => some (t,e)
 | _ => none

def bldA (F : FSpec) (S : Upd) (nxt t e : Nat) (vs : List AVal) (k : AVal → Upd → Nat → Option R) : Option R :=
 match vs with
 | [.ptr i 0,.str x] => match getS S i with
  | .bld t' e' s => chk (Nat.beq t' t && Nat.beq e' e && F.rs.isEmpty && Nat.ble (s.size + x.size) maxBytes) (k (.tup [.int .i64 (x.size : Int),.undef]) [(i,.bld t e (s ++ x))] nxt)
  | _ => none
 | [.ptr i 0] => match getS S i with
  | .bld t' e' s => chk (Nat.beq t' t && Nat.beq e' e && !F.rs.isEmpty && Nat.ble 1 s.size) (k (.str s) [(i,.dead)] nxt)
  | _ => none
 | _ => none

def callA (G : Env) (S : Upd) (nxt : Nat) (f : Nat) (vs : List AVal) (k : AVal → Upd → Nat → Option R) : Option R :=
 match G.get f with
 | none => none
 | some F => match bldF F with
 | some (t,e) => bldA F S nxt t e vs k
 | none => match lentB F.ps,vs with
  | true,.sub i ver s j off :: rest => callS F S nxt i ver s j off rest k
  | _,_ => (cond (shareF F) (fun vs k => k vs) (subAs S) : List AVal → (List AVal → Option R) → Option R) vs fun vs => match args (!shareF F) S F.ps vs with
   | none => none
   | some (x,bs) => chk (decide bs.Nodup && rowsApart F.ps) ((F.run x).bind fun r => match results F.rs (hands F.ps) bs r nxt with
    | (cs,u,n) => k (packV cs) u n)

def buildA (st : St) (flds : List (Nat × Nat × Nat)) : List (Nat × Operand) → List AVal → Option (List AVal)
 | [],cs => some cs
 | p :: r,cs => match flds[p.1]? with
  | some (off,sz,_) => match solid (oper st p.2) && Nat.beq (cellsV (oper st p.2)).length sz && Nat.ble (off + sz) cs.length with
   | true => buildA st flds r (setSeg cs off (cellsV (oper st p.2)))
   | false => none
  | none => none

def buildL (st : St) (e : Kd) : List (Nat × Operand) → Nat → Option (List e.ty)
 | [],_ => some []
 | p :: r,b => match Nat.beq p.1 b,takeV st.sto e (oper st p.2) with
  | true,some (x,_) => match buildL st e r (b + 1) with
   | some xs => some (x :: xs)
   | none => none
  | _,_ => none

def buildO (st : St) (e : Kd) : List (Nat × Operand) → Nat → Option (List e.ty × List (Option Nat))
 | [],_ => some ([],[])
 | p :: r,b => match Nat.beq p.1 b,takeV st.sto e (oper st p.2) with
  | true,some (x,is) => match buildO st e r (b + 1) with
   | some (xs,js) => some (x :: xs,is ++ js)
   | none => none
  | _,_ => none

def isStr : AVal → Bool
 | .str _ => true
 | _ => false

def nilEq (S : Upd) (x : AVal) (k : Bool → Option R) : Option R :=
 match x with
 | .nil => k true
 | .emp => same (k true) (k false)
 | .sl _ xs => cond xs.isEmpty (same (k true) (k false)) (k false)
 | .ref i => match getS S i with
  | .row _ _ xs => cond xs.isEmpty (same (k true) (k false)) (k false)
  | .fro _ xs => cond xs.isEmpty (same (k true) (k false)) (k false)
  | _ => none
 | _ => none

def shiftA (op : BinOp) (x y : AVal) (k : AVal → Option R) : Option R :=
 match x,y with
 | .int ka a,.int _ b => match op with
  | .shl => chk (decide (0 ≤ b)) (k (.int ka (ka.wrap (a * 2 ^ (min b.toNat ka.bits)))))
  | .shr => chk (decide (0 ≤ b)) (k (.int ka (a.fdiv (2 ^ (min b.toNat ka.bits)))))
  | _ => none
 | _,_ => none

def shiftB (op : BinOp) : Bool :=
 match op with
 | .shl => true
 | .shr => true
 | _ => false

def extrA (gt : Bool) (j : IntKind) (n : Int) : List AVal → (AVal → Option R) → Option R
 | [],k => k (.int j n)
 | .int j' m :: r,k => if j' = j then extrA gt j (cond gt (if m > n then m else n) (if m < n then m else n)) r k else none
 | _,_ => none

def isNil : AVal → Bool
 | .nil => true
 | _ => false

def isSl (ti : Option TI) : Bool :=
 match ti with
 | some ti => Nat.blt 0 ti.elem
 | none => false

def mapT (T : Tab) (t : Nat) : Option (Kd × IntKind) :=
 match T.get t with
 | some ti => match ti.agg,ti.flds with
  | false,[(a,0,b)] => match T.get a,T.get b with
   | some ta,some tb => match ta.kd,tb.kd,tb.zero with
    | some k,some (.int v),[.int v' 0] => match decide (v' = v) && k.ints && (!k.agg || !ta.eq.isEmpty) && (!k.agg || ta.eq == (List.replicate k.size 0)) with
     | true => some (k,v)
     | false => none
    | _,_,_ => none
   | _,_ => none
  | _,_ => none
 | none => none

def mapA (T : Tab) (S : Upd) (t : Nat) (x ix : AVal) (f : (k : Kd) → IntKind → Nat → List (k.ty × Int) → k.ty → Option R) : Option R :=
 match mapT T t,x with
 | some (k,v),.ref i => match getS S i with
  | .mp k' v' kvs => if h : k' = k ∧ v' = v then match datum [] k ix with
   | some y => f k v i (h.1 ▸ kvs) y
   | none => none
   else none
  | _ => none
 | _,_ => none

def strC (T : Tab) (S : Upd) (ts td : TI) (v : AVal) (k : AVal → Option R) : Option R :=
 match td.kd with
 | some .str => match T.get ts.elem with
  | some te => match te.kd with
   | some (.int .u8) => chk (Nat.blt 0 ts.elem) (match frozenL S (.int .u8) v with
    | some xs => k (.str (strOfNums xs))
    | none => none)
   | _ => none
  | none => none
 | _ => none

def qop (T : Tab) (st : St) (o : Oper) (k : AVal → Option R) : Option R :=
 match o.op with
 | .move x | .assign x => k (oper st x)
 | .pick c a b => match oper st c with
  | .bool cb => match oper st a,oper st b with
   | .bool x,.bool y => k (.bool (cond cb x y))
   | va,vb => cond cb (k va) (k vb)
  | _ => none
 | .binOp op t x y _ => match isNil (oper st y) with
  | true => match op with
   | .eql => chk (isSl (T.get t)) (nilEq st.sto (oper st x) fun b => k (.bool b))
   | .neq => chk (isSl (T.get t)) (nilEq st.sto (oper st x) fun b => k (.bool !b))
   | _ => none
  | false => cond (shiftB op) (shiftA op (oper st x) (oper st y) k) (binA (T.get t) op (oper st x) (oper st y) k)
 | .unOp op _ x => match op,oper st x with
  | .not,.bool b => k (.bool !b)
  | .neg,.int j n => k (.int j (j.wrap (-n)))
  | _,_ => none
 | .nilCheck x => match oper st x with
  | .ptr i o => k (.ptr i o)
  | .eptr i s j o => k (.eptr i s j o)
  | .pel e x o => k (.pel e x o)
  | _ => none
 | .convert s d x => match T.get s,T.get d,oper st x with
  | some _,some td,.int _ n => match td.kd with
   | some (.int kd) => k (.int kd (kd.wrap n))
   | _ => none
  | some ts,some td,v => strC T st.sto ts td v k
  | _,_,_ => none
 | .fieldAddr t x f => match T.get t with
  | some ti => match ti.flds[f]? with
   | some (off,sz,_) => match offA (oper st x) off with
    | some v => chk (Nat.blt 0 sz) (k v)
    | none => none
   | none => none
  | none => none
 | .field t x f => match T.get t,oper st x with
  | some ti,.agg cs => match ti.flds[f]? with
   | some (off,sz,tt) => match T.get tt with
    | some tf => match pickCells tf.agg sz off cs with
     | some v => chk (Nat.beq sz tf.size && Nat.blt 0 sz) (k v)
     | none => none
    | none => none
   | none => none
  | _,_ => none
 | .indexAddr t x i => match T.get t with
  | some ti => match T.get ti.elem with
   | some te => chk (Nat.blt 0 ti.elem) (indexA st.sto te.size (oper st x) (oper st i) k)
   | none => none
  | none => none
 | .slice t x lo hi mx => match T.get t,intO st lo,intO st hi,intO st mx with
  | some ti,some lo,some hi,some mx => match Nat.blt 0 ti.elem with
   | true => match T.get ti.elem with
    | some te => sliceA st.sto false te.size (oper st x) lo hi mx k
    | none => none
   | false => chk (ti.kd == some .str) (sliceA st.sto true 0 (oper st x) lo hi mx k)
  | _,_,_,_ => none
 | .index t x i => match T.get t,oper st x,oper st i with
  | some ti,.str s,.int _ n => chk (ti.kd == some .str) ((geti s.data.toList n).bind fun b => k (.int .u8 (b.toNat : Int)))
  | _,_,_ => none
 | .load t a => match T.get t with
  | some ti => loadA st.sto ti (oper st a) k
  | none => none
 | .build t ps => match T.get t with
  | some ti => match buildA st ti.flds ps.toList ti.zero with
   | some cs => chk (!ti.flds.isEmpty && ti.flds.all fun f => Nat.blt 0 f.2.1) (k (.agg cs))
   | none => none
  | none => none
 | .extract x i => match oper st x with
  | .tup vs => match vs[i]? with
   | some v => k v
   | none => none
  | _ => none
 | .lookup t x ix false => mapA T st.sto t (oper st x) (oper st ix) fun kk v _ kvs y => k (.int v (mlook kk kvs y))
 | .makeFunc (.func f) as cs => k (.fn f (as.toList.map (oper st)) (cs.toList.map (oper st)))
 | .call c => match c.callee,c.args.toList,c.argTypes.toList with
  | .builtin .len,[x],[t] => match T.get t with
   | some ti => subV st.sto (oper st x) fun x => match lenA st.sto x with
    | some v => chk (match isStr x with | true => ti.kd == some .str | false => Nat.blt 0 ti.elem) (k v)
    | none => none
   | none => none
  | .builtin .cap,[x],[t] => match oper st x,T.get t with
   | .nil,some ti => chk (Nat.blt 0 ti.elem) (k (.int .i64 0))
   | _,_ => none
  | .builtin .max,x :: xs,_ => match oper st x with
   | .int j n => extrA true j n (xs.map (oper st)) k
   | _ => none
  | .builtin .min,x :: xs,_ => match oper st x with
   | .int j n => extrA false j n (xs.map (oper st)) k
   | _ => none
  | _,_,_ => none
 | _ => none

def isQ (o : Oper) : Bool :=
 match o.op with
 | .move _ | .assign _ | .pick .. | .binOp .. | .unOp .. | .nilCheck _ | .convert .. | .fieldAddr .. | .field .. | .indexAddr .. | .load .. | .build .. | .extract .. | .makeFunc .. | .slice .. | .index .. => true
 | .lookup _ _ _ false => true
 | .call { callee := .builtin .max,.. } => true
 | .call { callee := .builtin .cap,.. } => true
 | .call { callee := .builtin .min,.. } => true
 | .call { callee := .builtin .len,.. } => true
 | _ => false

def nextA (S : Upd) (nxt : Nat) (x : AVal) (k : AVal → Upd → Nat → Option R) : Option R :=
 match x with
 | .ref r => match getS S r with
  | .it m n seen => match getS S m with
   | .mp kk v kvs => chk (n == lenI kvs) (drawM (leftM n seen) (fun j => (geti kvs j).bind fun p => k (.tup [.bool true,valOf kk (cellsOf kk p.1),.int v p.2]) [(r,.it m n (seen ++ [j]))] nxt) (k (.tup [.bool false]) [] nxt))
   | _ => none
  | _ => none
 | _ => none

def entryA (S : Upd) (nxt : Nat) (x : AVal) (k : AVal → Upd → Nat → Option R) : Option R :=
 match x with
 | .ref r => match getS S r with
  | .it m n seen => match getS S m with
   | .mp kk v kvs => chk (n == lenI kvs) (seen.getLast?.bind fun j => (geti kvs j).bind fun p => k (.tup [valOf kk (cellsOf kk p.1),.int v p.2]) [] nxt)
   | _ => none
  | _ => none
 | _ => none

def clrA (S : Upd) (nxt t : Nat) (te : TI) (x : AVal) (k : AVal → Upd → Nat → Option R) : Option R :=
 match x with
 | .vw i s lo n => match getS S i with
  | .row t' e xs => match takeCells [] e te.zero with
   | some (z,[],_) => chk (Nat.blt 0 t && Nat.beq t' t && Nat.beq s e.size && e.ro && te.zero.all one1) (k .undef [(i,.row t' e (xs.take lo ++ List.replicate n z ++ xs.drop (lo + n)))] nxt)
   | _ => none
  | _ => none
 | _ => none

def bytesNums (t : ByteArray) : List Int := t.data.toList.map fun b => (b.toNat : Int)

def strA : AVal → Option ByteArray
 | .str s => some s
 | _ => none

def apS (T : Tab) (S : Upd) (nxt t' e : Nat) (te : TI) (x : AVal) (s : ByteArray) (k : AVal → Upd → Nat → Option R) : Option R :=
 match x,T.get t',te.kd with
 | .ref i,some tn,some (.int .u8) => match getS S i with
  | .row t1 e1 xs1 => match castL (.int .u8) e1 xs1 with
   | some xs => chk (tn.kd == some .str && Nat.beq t1 e && Nat.blt 0 e && Nat.beq te.bytes 1 && Nat.beq te.size 1 && Nat.beq te.zero.length te.size && Nat.ble (xs.length + s.size) maxBytes) (k (.ref nxt) [(nxt,.row e (.int .u8) (xs ++ bytesNums s)),(i,.dead)] (nxt + 1))
   | none => none
  | _ => none
 | _,_,_ => none

def intA : AVal → Option Int
 | .int _ n => some n
 | _ => none

def zrA (T : Tab) (nxt t' e : Nat) (te : TI) (x : AVal) (n : Int) (k : AVal → Upd → Nat → Option R) : Option R :=
 match x,T.get t',te.kd with
 | .nil,some tn,some e0 => match tn.kd with
  | some (.int _) => match takeCells [] e0 te.zero with
   | some (z,[],_) => chk (e0.ro && Nat.blt 0 e && Nat.blt 0 te.bytes && decide (0 < n) && Nat.ble (te.bytes * n.toNat) maxBytes) (k (.ref nxt) [(nxt,.row e e0 (List.replicate n.toNat z))] (nxt + 1))
   | _ => none
  | _ => none
 | _,_,_ => none

def bldE (T : Tab) (ti : TI) : Option Nat :=
 match bldZ ti.zero,ti.flds with
 | true,[_,f] => match T.get f.2.2 with
  | some tf => some tf.elem
  | none => none
 | _,_ => none

def wop (G : Env) (T : Tab) (ow : Option Kd) (st : St) (o : Oper) (k : AVal → Upd → Nat → Option R) : Option R :=
  match o.op with
  | .store t a v => match T.get t with
    | some ti => storeA st.sto st.nxt ti (oper st a) (oper st v) fun u n => k .undef u n
    | none => none
  | .alloc t => match T.get t with
    | some ti => match bldE T ti with
      | some e => k (.ptr st.nxt 0) [(st.nxt,.bld t e .empty)] (st.nxt + 1)
      | none => k (.ptr st.nxt 0) [(st.nxt,.box ti.zero)] (st.nxt + 1)
    | none => none
  | .makeMap t none => match mapT T t with
    | some (kk,v) => k (.ref st.nxt) [(st.nxt,.mp kk v [])] (st.nxt + 1)
    | none => none
  | .mapEntry t x ix => mapA T st.sto t (oper st x) (oper st ix) fun kk v i kvs y => k (.tup [.int v (mlook kk kvs y),.int .i64 (mfind kk kvs y : Int)]) [(i,.mp kk v (mput kk kvs y))] st.nxt
  | .mapUpdate t x ix y => match oper st y with
    | .int v' n => mapA T st.sto t (oper st x) (oper st ix) fun kk v i kvs z => if v' = v then k .undef [(i,.mp kk v (mupd kk kvs z n))] st.nxt else none
    | _ => none
  | .entryStore _ x j y => match oper st x,oper st j,oper st y with
    | .ref i,.int _ j,.int v' n => match getS st.sto i with
      | .mp kk v kvs => if v' = v then (geti kvs j).bind fun _ => k .undef [(i,.mp kk v (mset kk kvs j.toNat n))] st.nxt else none
      | _ => none
    | _,_,_ => none
  | .slice t x none (some h) none => match ow,T.get t with
    | some _,some ti => match T.get ti.elem with
      | some te => match oper st x,oper st h with
        | .ref i,.int _ n => match getS st.sto i with
          | .row t' e xs => chk (Nat.blt 0 ti.elem && Nat.beq te.size e.size && e.ro && bndB none (some n) none xs.length) (k (.ref st.nxt) [(st.nxt,.row t' e (xs.take n.toNat)),(i,.dead)] (st.nxt + 1))
          | _ => none
        | _,_ => none
      | none => none
    | _,_ => none
  | .convert s d x => match ow,T.get s,T.get d,oper st x with
    | some _,some ts,some td,.str t => match T.get td.elem with
      | some te => match ts.kd,te.kd with
        | some .str,some (.int .u8) => chk (Nat.blt 0 td.elem) (k (.sl (.int .u8) (bytesNums t)) [] st.nxt)
        | _,_ => none
      | none => none
    | _,_,_,_ => none
  | .range t x => match mapT T t,oper st x with
    | some _,.ref m => match getS st.sto m with
      | .mp _ _ kvs => k (.ref st.nxt) [(st.nxt,.it m (lenI kvs) [])] (st.nxt + 1)
      | _ => none
    | _,_ => none
  | .next x false => nextA st.sto st.nxt (oper st x) k
  | .entry x => entryA st.sto st.nxt (oper st x) k
  | .box _ v => chk (solid (oper st v)) (k (.ptr st.nxt 0) [(st.nxt,.box (cellsV (oper st v)))] (st.nxt + 1))
  | .buildSlice t n ps => match T.get t with
    | some ti => match T.get ti.elem with
      | some te => match te.kd with
        | some e0 => match ow with
          | some e => match buildO st e ps.toList 0 with
            | some (xs,ids) => chk (decide (e.er = e0) && e.ok && !e.ro && once ids && Nat.beq xs.length n && Nat.ble (n * te.size) 16777216 && Nat.blt 0 ti.elem) (k (.ref st.nxt) ((st.nxt,.nrow ti.elem e (st.nxt + 1) xs) :: (st.nxt + 1,.ver) :: deadU ids) (st.nxt + 2))
            | none => none
          | none => match buildL st e0 ps.toList 0 with
            | some xs => chk (e0.ro && Nat.beq xs.length n && Nat.ble (n * te.size) 16777216 && Nat.blt 0 ti.elem) (k (.ref st.nxt) [(st.nxt,.row ti.elem e0 xs)] (st.nxt + 1))
            | none => none
        | none => none
      | none => none
    | none => none
  | .makeSlice t l c => match T.get t with
    | some ti => match T.get ti.elem with
      | some te => match te.kd with
        | some e0 => match oper st l,oper st c with
          | .int _ n,.int _ n' => match ow with
           | some e => match takeCells [] e te.zero with
            | some (z,[],_) => chk (decide (e.er = e0) && e.ok && !e.ro && Nat.blt 0 ti.elem && Nat.blt 0 te.bytes) (if n = n' then (if 0 ≤ n then chk (Nat.ble (te.bytes * n.toNat) maxBytes) (k (.ref st.nxt) [(st.nxt,.nrow ti.elem e (st.nxt + 1) (List.replicate n.toNat z)),(st.nxt + 1,.ver)] (st.nxt + 2)) else none) else none)
            | _ => none
           | none => match takeCells [] e0 te.zero with
            | some (z,[],_) => chk (e0.ro && Nat.blt 0 ti.elem && Nat.blt 0 te.bytes) (if n = n' then (if 0 ≤ n then chk (Nat.ble (te.bytes * n.toNat) maxBytes) (k (.ref st.nxt) [(st.nxt,.row ti.elem e0 (List.replicate n.toNat z))] (st.nxt + 1)) else none) else none)
            | _ => none
          | _,_ => none
        | none => none
      | none => none
    | none => none
  | .call c => match c.callee,c.args.toList,c.argTypes.toList with
    | .builtin .append,[x,y],[t,t'] => match T.get t with
      | some ti => match T.get ti.elem with
        | some te => match intA (oper st y) with
          | some n => zrA T st.nxt t' ti.elem te (oper st x) n k
          | none => match strA (oper st y) with
            | some s => apS T st.sto st.nxt t' ti.elem te (oper st x) s k
            | none => match te.kd with
              | some e => chk (Nat.beq t t' && Nat.blt 0 ti.elem && Nat.blt 0 te.bytes && Nat.beq te.zero.length te.size) (appA st.sto st.nxt ti.elem e te.bytes (oper st x) (oper st y) k)
              | none => none
        | none => none
      | none => none
    | .builtin .clear,[x],[t] => match T.get t with
      | some ti => match T.get ti.elem with
        | some te => clrA st.sto st.nxt ti.elem te (oper st x) k
        | none => none
      | none => none
    | .value f,as,_ => match oper st f with
      | .fn g pre caps => callA G st.sto st.nxt g ((pre ++ as.map (oper st)) ++ caps) k
      | _ => none
    | _,_,_ => none
  | _ => none

def frz1 (S : Upd) (v : AVal) : Upd :=
 match v with
 | .ref i => match getS S i with
  | .row _ e xs => cond e.ro [(i,.fro e xs)] []
  | .nrow _ e _ xs => [(i,.fro e.er (cast (congrArg List e.er_ty.symm) xs))]
  | _ => []
 | _ => []

def frzK (S : Upd) : (k : Kd) → List AVal → Upd × List AVal
 | .sl none _,v :: r => (frz1 S v,r)
 | .one a,cs => frzK S a cs
 | .pair a b,cs => match frzK S a cs with
  | (u,r) => match frzK S b r with
   | (u',r') => (u' ++ u,r')
 | _,_ :: r => ([],r)
 | _,[] => ([],[])

def frzs (S : Upd) (k : Kd) : List AVal → Upd
 | [] => []
 | v :: vs => (frzK S k (cellsV v)).1 ++ frzs S k vs

def frzR (S : Upd) : List Kd → List AVal → Upd
 | k :: ks,v :: vs => (frzK S k (cellsV v)).1 ++ frzR S ks vs
 | _,_ => []

def frzB (S : Upd) : List PK → List AVal → Upd
 | .box k :: ps,.ptr i _ :: vs => (match getS S i with | .box cs => (frzK S k cs).1 | _ => []) ++ frzB S ps vs
 | .rp k :: ps,.ptr i _ :: vs => (match getS S i with | .box cs => (frzK S k cs).1 | _ => []) ++ frzB S ps vs
 | _ :: ps,_ :: vs => frzB S ps vs
 | _,_ => []

def kdT (T : Tab) (t : Nat) : Option Kd :=
 match T.get t with
 | some ti => ti.kd
 | none => none

def preW (G : Env) (T : Tab) (ow : Option Kd) (st : St) (o : Oper) : Upd :=
 match o.op with
 | .buildSlice t _ ps => match ow with
  | some _ => []
  | none => match T.get t with
   | some ti => match kdT T ti.elem with
    | some e => frzs st.sto e (ps.toList.map fun p => oper st p.2)
    | none => []
   | none => []
 | .store t a v => match oper st a with
  | .eptr i _ _ _ => match getS st.sto i with
   | .nrow _ _ _ _ => []
   | _ => match kdT T t with
    | some k => frzs st.sto k [oper st v]
    | none => []
  | _ => []
 | .call c => match c.callee with
  | .value f => match oper st f with
   | .fn g pre caps => match G.get g with
    | some F => match shareF F with
     | true => frzR st.sto (F.ps.map PK.kd) ((pre ++ c.args.toList.map (oper st)) ++ caps) ++ frzB st.sto F.ps ((pre ++ c.args.toList.map (oper st)) ++ caps)
     | false => frzB st.sto F.ps ((pre ++ c.args.toList.map (oper st)) ++ caps)
    | none => []
   | _ => []
  | _ => []
 | _ => []

def frzP (S : Upd) : List PK → List AVal → Upd
 | .rp k :: ps,.ptr i _ :: vs => (match getS S i with
  | .box cs => match k.ro,takeCells S k cs with
   | true,some (x,[],_) => [(i,.fbx k x)]
   | _,_ => []
  | _ => []) ++ frzP S ps vs
 | _ :: ps,_ :: vs => frzP S ps vs
 | _,_ => []

def preB (G : Env) (st : St) (o : Oper) : Upd :=
 match o.op with
 | .call c => match c.callee with
  | .value f => match oper st f with
   | .fn g pre caps => match G.get g with
    | some F => cond (decide ((frzP st.sto F.ps ((pre ++ c.args.toList.map (oper st)) ++ caps)).map Prod.fst).Nodup) (frzP st.sto F.ps ((pre ++ c.args.toList.map (oper st)) ++ caps)) []
    | none => []
   | _ => []
  | _ => []
 | _ => []

def preX (G : Env) (T : Tab) (ow : Option Kd) (st : St) (o : Oper) : Upd := preB G ⟨st.env,preW G T ow st o ++ st.sto,st.nxt,st.sz⟩ o ++ preW G T ow st o

def wopF (G : Env) (T : Tab) (ow : Option Kd) (st : St) (o : Oper) (k : AVal → Upd → Nat → Option R) : Option R :=
 wop G T ow ⟨st.env,preX G T ow st o ++ st.sto,st.nxt,st.sz⟩ o fun v u n => k v (u ++ preX G T ow st o) n

def putE (d : Option Nat) (v : AVal) (env : Slots) : Slots :=
 match d with
 | some t => (t,v) :: env
 | none => env

def okD (d : Option Nat) (sz : Nat) : Bool :=
 match d with
 | some t => Nat.blt t sz
 | none => true

inductive LV where
 | slot (t : Nat) (k : Kd)
 | box (i : Nat) (k : Kd)
 | row (i t : Nat) (e : Kd)
 | map (i : Nat) (k : Kd) (v : IntKind)
 | iter (i m : Nat)
 | bld (i t e : Nat)

def LV.kd : LV → Kd | .slot _ k => k | .box _ k => k | .row _ t e => .sl (some t) e | .map _ k v => .sl none (.pair k (.int v)) | .iter _ _ => .pair (.int .i64) (.sl none (.int .i64)) | .bld _ _ _ => .str

inductive Ann where
 | leaf
 | node (l r : Ann)
 | join (o : List LV) (fg : List Nat) (l r : Ann)
 | loop (v : List LV) (fg : List Nat) (b : Ann)
 | joinx (o : List LV) (fg : List Nat) (l r : Ann)
 | reg (t : Nat) (a r : Ann)
 | regj (t : Nat) (o : List LV) (fg : List Nat) (a r : Ann)
 | lazy (t : Nat) (r : Ann)
 | own (t : Nat) (e : Kd) (r : Ann)

def Ann.sub : Ann → Nat → Option (List LV × List Nat) × Ann
 | .reg k a r,t => cond (Nat.beq t k) (none,a) (Ann.sub r t)
 | .regj k o fg a r,t => cond (Nat.beq t k) (some (o,fg),a) (Ann.sub r t)
 | .lazy _ r,t => Ann.sub r t
 | .own _ _ r,t => Ann.sub r t
 | _,_ => (none,.leaf)

def Ann.lz : Ann → Nat → Bool
 | .reg _ _ r,t => Ann.lz r t
 | .regj _ _ _ _ r,t => Ann.lz r t
 | .lazy k r,t => cond (Nat.beq t k) true (Ann.lz r t)
 | .own _ _ r,t => Ann.lz r t
 | _,_ => false

def Ann.ow : Ann → Nat → Option Kd
 | .reg _ _ r,t => Ann.ow r t
 | .regj _ _ _ _ r,t => Ann.ow r t
 | .lazy _ r,t => Ann.ow r t
 | .own k e r,t => cond (Nat.beq t k) (some e) (Ann.ow r t)
 | _,_ => none

def cutB (an : Ann) (o : Oper) : Bool :=
 match o.op with
 | .slice .. => (an.ow (o.dst.getD 0)).isSome
 | .convert .. => (an.ow (o.dst.getD 0)).isSome
 | _ => false

abbrev Inl := (R : Type) → Nat → Ann → List AVal → St → (AVal → St → Option R) → Option R

def noInl : Inl := fun _ _ _ _ _ _ => none

def inlB (G : Env) (st : St) (o : Oper) : Option (Nat × List AVal) :=
 match o.op with
 | .call c => match c.callee with
  | .value f => match oper st f with
   | .fn g pre caps => match G.get g with
    | none => some (g,(pre ++ c.args.toList.map (oper st)) ++ caps)
    | some _ => none
   | _ => none
  | _ => none
 | _ => none

def softB (G : Env) (o : Oper) : Bool :=
 match o.op with
 | .alloc _ => true
 | .box _ _ => true
 | .buildSlice _ _ _ => true
 | .makeSlice _ _ _ => true
 | .call c => match c.callee with
  | .value (.func f) => match G.get f with
   | some F => (hands F.ps).isEmpty
   | none => false
  | _ => false
 | _ => false

def depB (o : Oper) (i : Nat) : Bool := o.after.any fun e => Region.binds .any e && e.on == i

def nilB (st : St) (o : Oper) : Bool :=
 match o.op with
 | .binOp _ _ _ y _ => isNil (oper st y)
 | _ => false

def lzop (T : Tab) (st : St) (o : Oper) (k : AVal → Option R) : Option R :=
 match o.op with
 | .buildSlice t n ps => match T.get t with
  | some ti => match T.get ti.elem with
   | some te => match te.kd with
    | some e => match ps.toList with
     | [] => chk (e.ro && Nat.beq 0 n && Nat.blt 0 ti.elem) (k .emp)
     | p :: r => match buildL st e (p :: r) 0 with
      | some xs => chk (e.ro && Nat.beq xs.length n && Nat.ble (n * te.size) 16777216 && Nat.blt 0 ti.elem) (k (cond (Nat.beq n 0) .emp (.sl e xs)))
      | none => none
    | none => none
   | none => none
  | none => none
 | _ => none

def virt (an : Ann) (o : Oper) : Bool :=
 match o.op with
 | .assign _ => false
 | .buildSlice .. => an.lz (o.dst.getD 0)
 | _ => isQ o && !(cutB an o)

def vop (T : Tab) (st : St) (o : Oper) (k : AVal → Option R) : Option R :=
 match isQ o with
 | true => cond (nilB st o) none (qop T st o k)
 | false => lzop T st o k

def idsV : AVal → List Nat
 | .ptr i _ => [i]
 | .ref i => [i]
 | .eptr i _ _ _ => [i]
 | .vw i _ _ _ => [i]
 | .sub i _ _ _ _ => [i]
 | _ => []

def readIds (st : St) (o : Oper) : List Nat :=
 match o.op with
 | .load _ x => idsV (oper st x)
 | .indexAddr _ x _ => idsV (oper st x)
 | .slice _ x _ _ _ => idsV (oper st x)
 | .lookup _ x _ _ => idsV (oper st x)
 | .convert _ _ x => idsV (oper st x)
 | .buildSlice _ _ ps => ps.toList.flatMap fun p => (cellsV (oper st p.2)).flatMap idsV
 | .binOp _ _ x y _ => cond (isNil (oper st y)) (idsV (oper st x)) []
 | .call c => match c.callee with
  | .builtin .len => c.args.toList.flatMap fun x => idsV (oper st x)
  | _ => []
 | _ => []

def antiB (ops : Array Oper) (oi oj : Oper) : Bool :=
 match oj.dst with
 | some d => !(oi.looksAt ops).contains d && oi.dst != some d
 | none => true

def selfB (ops : Array Oper) (o : Oper) : Bool :=
 match o.dst with
 | some d => !(o.looksAt ops).contains d
 | none => true

def pairB (an : Ann) (ops : Array Oper) (i j : Nat) : Bool :=
 match ops[i]?,ops[j]? with
 | some oi,some oj => cond (depB oj i) (cond (virt an oj) (antiB ops oi oj) true) (oi.apart ops oj)
 | _,_ => false

inductive Ord where
 | nil
 | one (i : Nat) (r : Ord)
 | alt (a b : Ord)

def Ord.ids : Ord → List Nat
 | .nil => []
 | .one i r => i :: r.ids
 | .alt a b => a.ids ++ b.ids
def Ord.heads : Ord → List Nat
 | .nil => []
 | .one i _ => [i]
 | .alt a b => a.heads ++ b.heads
def Ord.len : Ord → Nat
 | .nil => 0
 | .one _ r => r.len + 1
 | .alt a _ => a.len

def ordB (an : Ann) (ops : Array Oper) : Bool → Ord → Array Bool → Bool
 | _,.nil,listed => (Region.ready .any ops listed).isEmpty
 | top,.one i r,listed => match ops[i]? with
  | none => false
  | some o => (Region.ready .any ops listed).contains i && (match virt an o with | true => selfB ops o && top && r.ids.all (pairB an ops i) | false => !top || Region.ready .any ops listed == [i]) && ordB an ops true r (listed.setIfInBounds i true)
 | top,.alt a b,listed => Nat.beq a.len b.len && (!top || (Region.ready .any ops listed).all fun i => (a.heads ++ b.heads).contains i) && ordB an ops false a listed && ordB an ops false b listed

def asapV (an : Ann) (ops : Array Oper) : Nat → Array Bool → Ord
 | 0,_ => .nil
 | n + 1,listed => match (Region.ready .any ops listed).find? (fun i => match ops[i]? with | some o => virt an o | none => false) with
  | some i => .one i (asapV an ops n (listed.setIfInBounds i true))
  | none => match Region.ready .any ops listed with
   | [] => .nil
   | i :: is => is.foldl (fun t j => .alt t (.one j (asapV an ops n (listed.setIfInBounds j true)))) (.one i (asapV an ops n (listed.setIfInBounds i true)))

def drawB (an : Ann) (ops : Array Oper) (ord : Ord) : Bool := Region.noSelect ops && Nat.beq ord.len ops.size && ordB an ops true ord (Array.replicate ops.size false)

inductive Ex where
 | normal | exit (id : Nat) | ret

def outV (st : St) : (l : LV) → Option (l.kd.ty × List (Option Nat))
 | .slot t k => takeV st.sto k (getE st.env t)
 | .box i k => match getS st.sto i with
  | .box cs => match takeCells st.sto k cs with
   | some (x,[],is) => some (x,is)
   | _ => none
  | _ => none
 | .row i t e => match getS st.sto i with
  | .row t' e' xs => cond (Nat.beq t' t && e.ro) (match castL e e' xs with
   | some ys => some (ys,[])
   | none => none) none
  | .nrow t' e' ver xs => cond (Nat.beq t' t && !e.ro) (match castL e e' xs with
   | some ys => some (ys,[some ver])
   | none => none) none
  | _ => none
 | .map i k v => match getS st.sto i with
  | .mp k' v' kvs => if h : k' = k ∧ v' = v then some (h.1 ▸ kvs,[]) else none
  | _ => none
 | .iter i m => match getS st.sto i with
  | .it m' n seen => if m' = m then some ((n,seen),[]) else none
  | _ => none
 | .bld i t e => match getS st.sto i with
  | .bld t' e' s => if t' = t ∧ e' = e then some (s,[]) else none
  | _ => none

def outs (st : St) : (l : List LV) → Option (Tup (l.map LV.kd) × List (Option Nat))
 | [] => some ((),[])
 | [v] => outV st v
 | v :: w :: r => match outV st v with
  | some (x,is) => match outs st (w :: r) with
   | some (y,js) => some ((x,y),is ++ js)
   | none => none
  | none => none

def frzL (st : St) : List LV → Upd
 | [] => []
 | .slot t k :: r => (frzK st.sto k (cellsV (getE st.env t))).1 ++ frzL st r
 | .box i k :: r => (match getS st.sto i with | .box cs => (frzK st.sto k cs).1 | _ => []) ++ frzL st r
 | .row _ _ _ :: r => frzL st r
 | .map _ _ _ :: r => frzL st r
 | .iter _ _ :: r => frzL st r
 | .bld _ _ _ :: r => frzL st r

def frzS (vs : List LV) (st : St) : St := ⟨st.env,frzL st vs ++ st.sto,st.nxt,st.sz⟩

def inV (st : St) : (l : LV) → l.kd.ty → St
 | .slot t k,x => match resCells k x st.nxt with
  | (cs,u,n) => ⟨(t,valOf k cs) :: st.env,u ++ st.sto,n,st.sz⟩
 | .box i k,x => match resCells k x st.nxt with
  | (cs,u,n) => ⟨st.env,(i,.box cs) :: (u ++ st.sto),n,st.sz⟩
 | .row i t e,x => match e.ro with
  | true => ⟨st.env,(i,.row t e x) :: st.sto,st.nxt,st.sz⟩
  | false => ⟨st.env,(i,.nrow t e st.nxt x) :: (st.nxt,.ver) :: st.sto,st.nxt + 1,st.sz⟩
 | .map i k v,x => ⟨st.env,(i,.mp k v x) :: st.sto,st.nxt,st.sz⟩
 | .iter i m,x => ⟨st.env,(i,.it m x.1 x.2) :: st.sto,st.nxt,st.sz⟩
 | .bld i t e,x => ⟨st.env,(i,.bld t e x) :: st.sto,st.nxt,st.sz⟩

def ins (st : St) : (l : List LV) → Tup (l.map LV.kd) → St
 | [],_ => st
 | [v],x => inV st v x
 | v :: w :: r,x => ins (inV st v x.1) (w :: r) x.2

def LV.ri : LV → Option Nat | .row i _ _ => some i | .map i _ _ => some i | .iter i _ => some i | .bld i _ _ => some i | _ => none

def LV.slotB (t : Nat) : LV → Bool | .slot t' _ => Nat.beq t t' | _ => false
def LV.boxB (i : Nat) : LV → Bool | .box i' _ => Nat.beq i i' | .row i' _ _ => Nat.beq i i' | .map i' _ _ => Nat.beq i i' | .iter i' _ => Nat.beq i i' | .bld i' _ _ => Nat.beq i i' | _ => false

def rowsIn (S : Upd) : List AVal → List Nat
 | [] => []
 | c :: r => match c with
  | .ref j => match getS S j with
   | .row _ _ _ => j :: rowsIn S r
   | .nrow _ _ ver _ => j :: ver :: rowsIn S r
   | _ => rowsIn S r
  | _ => rowsIn S r

def gone (st0 : St) : List LV → List Nat
 | [] => []
 | .slot t _ :: r => rowsIn st0.sto (cellsV (getE st0.env t)) ++ gone st0 r
 | .box i _ :: r => match getS st0.sto i with
  | .box cs => rowsIn st0.sto cs ++ gone st0 r
  | _ => gone st0 r
 | .row i _ _ :: r => match getS st0.sto i with
  | .nrow _ _ ver _ => ver :: gone st0 r
  | _ => gone st0 r
 | .map _ _ _ :: r => gone st0 r
 | .iter _ _ :: r => gone st0 r
 | .bld _ _ _ :: r => gone st0 r

def okBack (fg : List Nat) (vs : List LV) (st0 st : St) (ids : List (Option Nat)) : Bool :=
 ((st.env.take (st.env.length - st0.env.length)).all fun p => fg.contains p.1 || vs.any (LV.slotB p.1)) &&
 ((st.sto.take (st.sto.length - st0.sto.length)).all fun p => Nat.ble st0.nxt p.1 || vs.any (LV.boxB p.1) || (gone st0 vs).contains p.1) &&
 (vs.all fun v => match v with | .box i _ => Nat.blt i st0.nxt | .row i _ _ => Nat.blt i st0.nxt && !ids.contains (some i) | .map i _ _ => Nat.blt i st0.nxt && !ids.contains (some i) | .iter i m => Nat.blt i st0.nxt && !ids.contains (some i) && Nat.blt m st0.nxt | .bld i _ _ => Nat.blt i st0.nxt && !ids.contains (some i) | _ => true) &&
 (ids.all fun o => match o with | some j => Nat.ble st0.nxt j || (gone st0 vs).contains j | none => true) &&
 once ids

def forget (l : List Nat) (env : Slots) : Slots := l.foldr (fun t e => (t,.undef) :: e) env
def slotsV : List LV → List Nat
 | [] => []
 | .slot t _ :: r => t :: slotsV r
 | _ :: r => slotsV r
def boxesV : List LV → List Nat
 | [] => []
 | .box i _ :: r => i :: boxesV r
 | .row i _ _ :: r => i :: boxesV r
 | .map i _ _ :: r => i :: boxesV r
 | .iter i _ :: r => i :: boxesV r
 | .bld i _ _ :: r => i :: boxesV r
 | _ :: r => boxesV r
def deads (l : List Nat) (S : Upd) : Upd := l.foldr (fun i e => (i,.dead) :: e) S

def back (fg : List Nat) (vs : List LV) (st0 : St) (x : Tup (vs.map LV.kd)) : St := ins ⟨forget fg (forget (slotsV vs) st0.env),deads (gone st0 vs) (deads (boxesV vs) st0.sto),st0.nxt,st0.sz⟩ vs x

def resI (st : St) (i : Nat) : Nat :=
 cond (Nat.ble 1000000 i) (match getE st.env (i - 1000000) with
  | .ptr j _ => j
  | .ref j => j
  | _ => i) i
def resLV (st : St) : LV → LV
 | .slot t k => .slot t k
 | .box i k => .box (resI st i) k
 | .row i t e => .row (resI st i) t e
 | .map i k v => .map (resI st i) k v
 | .iter i m => .iter i m
 | .bld i t e => .bld (resI st i) t e
def resL (st : St) (l : List LV) : List LV := l.map (resLV st)

def aop (G : Env) (T : Tab) (I : Inl) (an : Ann) (st : St) (o : Oper) (k : St → Option R) : Option R :=
 match isQ o && !(cutB an o) with
 | true => qop T st o fun v => chk (okD o.dst st.sz) (k ⟨putE o.dst v st.env,st.sto,st.nxt,st.sz⟩)
 | false => match inlB G st o with
  | some (g,vs) => match an.sub (o.dst.getD 0) with
   | (none,a) => chk (okD o.dst st.sz) (I R g a vs ⟨[],st.sto,st.nxt,st.sz⟩ fun v st' => k ⟨putE o.dst v st.env,st'.sto,st'.nxt,st.sz⟩)
   | (some (lv,fg),a) => chk (okD o.dst st.sz) ((I (Tup (lv.map LV.kd)) g a vs ⟨[],st.sto,st.nxt,st.sz⟩ fun v st' => match outs (frzS lv ⟨putE o.dst v st.env,st'.sto,st'.nxt,st.sz⟩) lv with
    | some (x,is) => chk (okBack fg lv st (frzS lv ⟨putE o.dst v st.env,st'.sto,st'.nxt,st.sz⟩) is) (some x)
    | none => none).bind fun x => k (back fg lv st x))
  | none => wopF G T (an.ow (o.dst.getD 0)) st o fun v u n => chk (okD o.dst st.sz) (k ⟨putE o.dst v st.env,u ++ st.sto,n,st.sz⟩)

def guardB (want b : Bool) (x y : Option R) : Option R :=
 match want with
 | true => cond b x y
 | false => cond b y x

def guarded (ops : List Oper) (o : Oper) (st : St) (yes no : St → Option R) : Option R :=
 match o.guard with
 | none => yes st
 | some (j,want) => match (ops[j]?).bind (·.dst) with
  | some d => match getE st.env d with
   | .bool b => guardB want b (yes ⟨(d,.bool want) :: st.env,st.sto,st.nxt,st.sz⟩)
     (chk (okD o.dst st.sz) (no ⟨putE o.dst (.tup []) ((d,.bool !want) :: st.env),st.sto,st.nxt,st.sz⟩))
   | .tup _ => chk (okD o.dst st.sz) (no ⟨putE o.dst (.tup []) st.env,st.sto,st.nxt,st.sz⟩)
   | _ => none
  | none => none

def aseq (G : Env) (T : Tab) (I : Inl) (an : Ann) (ops : List Oper) : List Oper → St → (St → Option R) → Option R
 | [],st,k => k st
 | o :: r,st,k => guarded ops o st (fun st => aop G T I an st o fun st => aseq G T I an ops r st k) (fun st => aseq G T I an ops r st k)

def lp {X : Type} (step : (X → Option R) → X → Option R) : Nat → X → Option R
 | 0,_ => none
 | n + 1,x => step (lp step n) x

def aloop (vs : List LV) (fg : List Nat) (st0 : St) (body : St → (Ex → St → Option R) → Option R) (k : Ex → St → Option R) (rec : Tup (vs.map LV.kd) → Option R) (x : Tup (vs.map LV.kd)) : Option R :=
 body (back fg vs st0 x) fun e st => match e with
  | .normal => match outs (frzS vs st) vs with
   | some (y,is) => chk (okBack fg vs st0 (frzS vs st) is) (rec y)
   | none => none
  | e => k e st

def joinB (an : Ann) (o : Oper) : Bool :=
 match an.sub (o.dst.getD 0) with
 | (some (lv,fg),_) => (lv.all fun v => match v with | .slot t _ => o.dst == some t | _ => true) && fg.all fun t => o.dst == some t
 | (none,_) => true

def entB (o : Oper) : Bool :=
 match o.op with
 | .mapEntry .. => true
 | _ => false

def dep2B (ops : Array Oper) (o : Oper) (i : Nat) : Bool := depB o i || o.after.any fun e => Region.binds .any e && (match ops[e.on]? with | some o' => depB o' i | none => false)

def touchB (ops : Array Oper) (vs : List (Nat × List Nat)) (o : Oper) (st st' : St) : Bool :=
 entB o || vs.all fun v => dep2B ops o v.1 || v.2.all fun i => (st'.sto.take (st'.sto.length - st.sto.length)).all fun p => !(Nat.beq p.1 i)

def aseqV (G : Env) (T : Tab) (I : Inl) (an : Ann) (ops : Array Oper) : Ord → List (Nat × List Nat) → St → (St → Option R) → Option R
 | .nil,_,st,k => k st
 | .one i r,vs,st,k => match ops[i]? with
  | none => none
  | some o => match virt an o with
   | true => guarded ops.toList o st (fun st' => vop T st' o fun v => chk (okD o.dst st'.sz) (aseqV G T I an ops r ((i,readIds st o) :: vs) ⟨putE o.dst v st'.env,st'.sto,st'.nxt,st'.sz⟩ k)) (fun st' => aseqV G T I an ops r ((i,readIds st o) :: vs) st' k)
   | false => chk (joinB an o) (guarded ops.toList o st (fun st => aop G T I an st o fun st2 => chk (touchB ops vs o st st2) (aseqV G T I an ops r vs st2 k)) (fun st => aseqV G T I an ops r vs st k))
 | .alt a b,vs,st,k => same (aseqV G T I an ops a vs st k) (aseqV G T I an ops b vs st k)

def dup : Nat → Option R → Option R
 | 0,x => x
 | n + 1,x => same (dup n x) x

def aeval (G : Env) (T : Tab) (I : Inl) (fuel : Nat) : {R : Type} → Code → Ann → St → (Ex → St → Option R) → Option R
 | _,.skip,_,st,k => k .normal st
 | _,.region _ ops false,an,st,k => aseq G T I an ops.toList ops.toList st fun st => k .normal st
 | _,.region _ ops true,an,st,k => chk (drawB an ops (asapV an ops ops.size (Array.replicate ops.size false))) (aseqV G T I an ops (asapV an ops ops.size (Array.replicate ops.size false)) [] st fun st => k .normal st)
 | _,.seq a b,an,st,k => match an with
  | .node l r => aeval G T I fuel a l st fun e st => match e with
   | .normal => aeval G T I fuel b r st k
   | e => k e st
  | .join o fg l r => (aeval G T I fuel a l st fun e st' => match e with
   | .normal => match outs (frzS (resL st o) st') (resL st o) with
    | some (x,is) => chk (okBack fg (resL st o) st (frzS (resL st o) st') is) (some x)
    | none => none
   | _ => none).bind fun x => aeval G T I fuel b r (back fg (resL st o) st x) k
  | .joinx o fg l r => (aeval G T I fuel a l st fun e st' => match e with
   | .normal => match outs (frzS (resL st o) st') (resL st o) with
    | some (x,is) => chk (okBack fg (resL st o) st (frzS (resL st o) st') is) (some (Sum.inl x))
    | none => none
   | e => (k e st').map Sum.inr).bind (Sum.elim (fun x => aeval G T I fuel b r (back fg (resL st o) st x) k) some)
  | an => aeval G T I fuel a an st fun e st => match e with
   | .normal => aeval G T I fuel b an st k
   | e => k e st
 | _,.cond c a b,an,st,k => match oper st c with
  | .bool x => match an with
   | .node l r => cond x (aeval G T I fuel a l st k) (aeval G T I fuel b r st k)
   | an => cond x (aeval G T I fuel a an st k) (aeval G T I fuel b an st k)
  | _ => none
 | _,.block id c,an,st,k => aeval G T I fuel c an st fun e st => match e with
  | .exit j => cond (Nat.beq j id) (k .normal st) (k (.exit j) st)
  | e => k e st
 | _,.loop c,an,st,k => match an with
  | .loop vs fg b => match outs (frzS (resL st vs) st) (resL st vs) with
   | some (x,is) => chk (okBack fg (resL st vs) st (frzS (resL st vs) st) is) (lp (aloop (resL st vs) fg st (fun st k => aeval G T I fuel c b st k) k) fuel x)
   | none => none
  | _ => none
 | _,.exit id,_,st,k => k (.exit id) st
 | _,.ret,_,st,k => k .ret st
 | _,_,_,_,_ => none

def enter1 : (p : PK) → p.kd.ty → Nat → Nat → St → St
 | .val k,x,t,_,st => ⟨(t,valOf k (cellsOf k x)) :: st.env,st.sto,st.nxt,st.sz⟩
 | .box k,x,t,q,st => ⟨(t,.ptr q 0) :: st.env,(q,.box (cellsOf k x)) :: st.sto,st.nxt,st.sz⟩
 | .row t' e,x,t,q,st => match e.ro with
  | true => ⟨(t,.ref q) :: st.env,(q,.row t' e x) :: st.sto,st.nxt,st.sz⟩
  | false => ⟨(t,.ref q) :: st.env,(q,.nrow t' e st.nxt x) :: (st.nxt,.ver) :: st.sto,st.nxt + 1,st.sz⟩
 | .own t' e,x,t,q,st => match e.ro with
  | true => ⟨(t,.ref q) :: st.env,(q,.row t' e x) :: st.sto,st.nxt,st.sz⟩
  | false => ⟨(t,.ref q) :: st.env,(q,.nrow t' e st.nxt x) :: (st.nxt,.ver) :: st.sto,st.nxt + 1,st.sz⟩
 | .fn g,_,t,_,st => ⟨(t,.fn g [] []) :: st.env,st.sto,st.nxt,st.sz⟩
 | .fbox g k,x,t,q,st => ⟨(t,.fn g [] [.ptr q 0]) :: st.env,(q,.box (cellsOf k x)) :: st.sto,st.nxt,st.sz⟩
 | .rp k,x,t,_,st => ⟨(t,.pel k x 0) :: st.env,st.sto,st.nxt,st.sz⟩

def enter : (ps : List PK) → Tup (ps.map PK.kd) → Nat → Nat → St → St
 | [],_,_,_,st => st
 | [p],x,t,q,st => enter1 p x t q st
 | p :: p' :: ps,x,t,q,st => enter (p' :: ps) x.2 (t + 1) (q + (hands [p]).length) (enter1 p x.1 t q st)

def resV (T : Tab) (st : St) : ResultVar → (AVal → Option R) → Option R
 | .tmp t,k => k (getE st.env t)
 | .cell a t,k => match T.get t with
  | some ti => loadA st.sto ti (getE st.env a) k
  | none => none

def resVs (T : Tab) (st : St) : List ResultVar → (List AVal → Option R) → Option R
 | [],k => k []
 | r :: rs,k => resV T st r fun c => resVs T st rs fun cs => k (c :: cs)

abbrev Bodies := List (Nat × Func)
def Bodies.get : Bodies → Nat → Option Func
 | [],_ => none
 | (d,v) :: r,t => cond (Nat.beq t d) (some v) (Bodies.get r t)

def enterI : List AVal → Nat → Slots → Slots
 | [],_,e => e
 | v :: vs,t,e => enterI vs (t + 1) ((t,v) :: e)

def inlC (T : Tab) (B : Bodies) (ev : (R : Type) → Code → Ann → St → (Ex → St → Option R) → Option R) : Inl := fun R g an vs st k =>
 match B.get g with
 | none => none
 | some fn => match fn.body with
  | none => none
  | some c => chk (Nat.ble vs.length fn.ntmps) (ev R c an ⟨enterI vs 0 [],st.sto,st.nxt,fn.ntmps⟩ fun e st' => match e with
   | .exit _ => none
   | _ => resVs T st' fn.results.toList fun rs => k (packV rs) ⟨st.env,st'.sto,st'.nxt,st.sz⟩)

def inlD (G : Env) (T : Tab) (B : Bodies) (fuel : Nat) : Nat → Inl
 | 0 => noInl
 | d + 1 => inlC T B fun _ c an st k => aeval G T (inlD G T B fuel d) fuel c an st k

def endBox (st : St) : (b : BK) → Nat → Option (b.kd.ty × List (Option Nat))
 | .box k,i => match getS st.sto i with
  | .box cs => match takeCells st.sto k cs with
   | some (x,[],is) => some (x,is)
   | _ => none
  | _ => none
 | .row t e,i => match getS st.sto i with
  | .row t' e' xs => cond (Nat.beq t' t && e.ro) (match castL e e' xs with
   | some ys => some (ys,[])
   | none => none) none
  | .nrow t' e' ver xs => cond (Nat.beq t' t && !e.ro) (match castL e e' xs with
   | some ys => some (ys,[some ver])
   | none => none) none
  | _ => none
 | .own,_ => some (true,[])

def endBoxes (st : St) : (bs : List BK) → Nat → Option (Tup (bs.map BK.kd) × List (Option Nat))
 | [],_ => some ((),[])
 | [b],i => endBox st b i
 | b :: b' :: bs,i => match endBox st b i with
  | some (x,is) => match endBoxes st (b' :: bs) (i + 1) with
   | some (y,js) => some ((x,y),is ++ js)
   | none => none
  | none => none

def endVs (st : St) : (rs : List Kd) → (bs : List BK) → List AVal → Option (Tup (rs ++ bs.map BK.kd) × List (Option Nat))
 | [],bs,[] => endBoxes st bs 0
 | [r],[],[v] => takeV st.sto r v
 | [r],b :: bs,[v] => match takeV st.sto r v with
  | some (x,is) => match endBoxes st (b :: bs) 0 with
   | some (y,js) => some ((x,y),is ++ js)
   | none => none
  | none => none
 | r :: r' :: rs,bs,v :: vs => match takeV st.sto r v with
  | some (x,is) => match endVs st (r' :: rs) bs vs with
   | some (y,js) => some ((x,y),is ++ js)
   | none => none
  | none => none
 | _,_,_ => none

def endIds : List BK → Nat → List Nat
 | [],_ => []
 | .row _ _ :: bs,i => i :: endIds bs (i + 1)
 | _ :: bs,i => endIds bs (i + 1)

def afun (G : Env) (T : Tab) (B : Bodies) (d : Nat) (fuel : Nat) (fn : Func) (an : Ann) (ps : List PK) (rs : List Kd) (x : Tup (ps.map PK.kd)) : Option (Tup (rs ++ boxes ps)) :=
 match fn.body with
 | none => none
 | some c => aeval G T (inlD G T B fuel d) fuel c an (enter ps x 0 0 ⟨[],[],(hands ps).length,fn.ntmps⟩) fun e st => match e with
  | .exit _ => none
  | _ => resVs T st fn.results.toList fun vs => match endVs ⟨st.env,frzR st.sto rs vs ++ st.sto,st.nxt,st.sz⟩ rs (hands ps) vs with
   | some (r,is) => chk (once is && (endIds (hands ps) 0).all fun i => !is.contains (some i)) (some r)
   | none => none

end
end Go.Rv
namespace Go.Rv

abbrev Col := Nat → Option (Nat × List Nat)

def Lst {α : Type} (f : Nat → α → List Value → Prop) : Nat → List α → List Value → Prop
 | _,[],fl => fl = []
 | j,x :: xs,fl => ∃ c r,fl = c ++ r ∧ f j x c ∧ Lst f (j + 1) xs r

theorem Lst.imp {α : Type} {f g : Nat → α → List Value → Prop} (h : ∀ j x c,f j x c → g j x c) : ∀ (xs : List α) (j : Nat) (fl : List Value),Lst f j xs fl → Lst g j xs fl
 | [],_,_,hl => hl
 | _ :: xs,j,_,⟨c,r,he,hf,hr⟩ => ⟨c,r,he,h _ _ _ hf,Lst.imp h xs (j + 1) r hr⟩

def At (w : World) (R : Nat → Prop) (a : Addr) (fl : List Value) : Prop :=
 a.spot = none ∧ R a.block ∧ ∀ (j : Nat) (u : Value),fl[j]? = some u → w.cell? (a.add j) = some u

def ownB : Value → Option Nat
 | .slice (some a) _ c => if c = 0 then none else some a.block
 | _ => none

def Own (w : World) (t : TypeId) (s : Nat) (v : Value) (n : Nat) (fl : List Value) : Prop :=
 fl.length = n * s ∧ ((∃ A,v = .slice A 0 0 ∧ n = 0) ∨
  ∃ g cap cur,v = .slice (some ⟨g,0,none⟩) n cap ∧ 0 < cap ∧ w.heap[g]? = some (.cells cur t (0,0)) ∧ n ≤ cap ∧ cap ≤ maxLen ∧ cur.size = cap * s ∧ cur.toList.take (n * s) = fl)

theorem Own.of {w : World} {t : TypeId} {s : Nat} {v : Value} {n : Nat} {fl : List Value} (h : w.ownsRow 0 t s v n fl) : Own w t s v n fl := by
 refine ⟨h.1,?_⟩
 rcases h.2 with ⟨hv,hn⟩ | ⟨g,cap,cur,hv,hb,hg,h1,h2,h3,h4⟩
 ·exact .inl ⟨none,hv,hn⟩
 ·by_cases hc : cap = 0
  ·subst hc
   have : n = 0 := by omega
   subst this
   exact .inl ⟨_,hv,rfl⟩
  ·exact .inr ⟨g,cap,cur,hv,by omega,hg,h1,h2,h3,h4⟩

theorem Own.nil (w : World) (t : TypeId) (s : Nat) (A : Option Addr) : Own w t s (.slice A 0 0) 0 [] := ⟨by simp,.inl ⟨A,rfl,rfl⟩⟩

theorem ownB_of {g n c : Nat} (h : 0 < c) : ownB (.slice (some ⟨g,0,none⟩) n c) = some g := by
 show (if c = 0 then none else some g) = some g
 rw [if_neg (by omega)]

theorem ownB_zero (A : Option Addr) (n : Nat) : ownB (.slice A n 0) = none := by cases A <;> rfl

theorem Own.row {w : World} {t : TypeId} {s : Nat} {v : Value} {n : Nat} {fl : List Value} (h : Own w t s v n fl) {g : Nat} (hg : ownB v = some g) : w.ownsRow 0 t s v n fl := by
 refine ⟨h.1,.inr ?_⟩
 rcases h.2 with ⟨A,rfl,_⟩ | ⟨g,cap,cur,hv,_,hg,r⟩
 ·rw [ownB_zero] at hg; cases hg
 ·exact ⟨g,cap,cur,hv,Nat.zero_le _,hg,r⟩

theorem ownB_block {v : Value} {g : Nat} (h : ownB v = some g) : v.ownBlock = some g := by
 unfold ownB at h
 split at h
 ·split at h
  ·cases h
  ·exact h
 ·cases h

theorem Own.lt {w : World} {t : TypeId} {s : Nat} {v : Value} {n : Nat} {fl : List Value} (h : Own w t s v n fl) : ∀ g,ownB v = some g → g < w.heap.size := fun g hg => ((h.row hg).lt g (ownB_block hg)).2

def Rp (w : World) (C : Col) (R : Nat → Prop) (i : Nat) : (k : Kd) → k.ty → List Nat → List Value → Prop
 | .int k,n,_,cs => cs = [.int k n]
 | .bool,b,_,cs => cs = [.bool b]
 | .str,s,_,cs => cs = [.string s]
 | .one a,x,p,cs => Rp w C R i a x p cs
 | .pair a b,x,p,cs => ∃ c1 c2,cs = c1 ++ c2 ∧ Rp w C R i a x.1 (0 :: p) c1 ∧ Rp w C R i b x.2 (1 :: p) c2
 | .sl none e,xs,p,cs => ∃ A n c fl,cs = [.slice A n c] ∧ n = xs.length ∧ n ≤ c ∧ Lst (fun j x c => Rp w C R i e x (j :: p) c) 0 xs fl ∧ (xs = [] ∨ ∃ a,A = some a ∧ At w R a fl)
 | .sl (some t) e,xs,p,cs => ∃ v fl,cs = [v] ∧ Own w t e.size v xs.length fl ∧ (∀ g,ownB v = some g → C g = some (i,p)) ∧ Lst (fun j x c => Rp w C R i e x (j :: p) c) 0 xs fl

def noC : Col := fun _ => none

theorem At.mono {w w' : World} {R R' : Nat → Prop} (hR : ∀ b,R b → R' b ∧ w'.heap[b]? = w.heap[b]?) {a : Addr} {fl : List Value} (h : At w R a fl) : At w' R' a fl := by
 obtain ⟨h1,h2,h3⟩ := h
 refine ⟨h1,(hR _ h2).1,fun j u hu => ?_⟩
 have hb : (a.add j).block = a.block := by unfold Addr.add; split <;> rfl
 rw [World.cell?_of_block (w := w) (by rw [hb]; exact (hR _ h2).2)]
 exact h3 j u hu

theorem Rp.move {w w' : World} {C C' : Col} {R R' : Nat → Prop} {i i' : Nat} (hR : ∀ b,R b → R' b ∧ w'.heap[b]? = w.heap[b]?) :
  ∀ (k : Kd) (x : k.ty) (p p' : List Nat) (cs : List Value),(∀ b r,C b = some (i,r ++ p) → C' b = some (i',r ++ p') ∧ w'.heap[b]? = w.heap[b]?) → Rp w C R i k x p cs → Rp w' C' R' i' k x p' cs := by
 intro k
 induction k with
 | int k => intro x p p' cs _ h; exact h
 | bool => intro x p p' cs _ h; exact h
 | str => intro x p p' cs _ h; exact h
 | one a ih => intro x p p' cs hC h; exact ih x p p' cs hC h
 | pair a b iha ihb =>
  intro x p p' cs hC h
  obtain ⟨c1,c2,he,h1,h2⟩ := h
  refine ⟨c1,c2,he,iha _ _ _ _ (fun b r hb => ?_) h1,ihb _ _ _ _ (fun b r hb => ?_) h2⟩
  ·have := hC b (r ++ [0]) (by rw [List.append_assoc]; exact hb)
   rw [List.append_assoc] at this; exact this
  ·have := hC b (r ++ [1]) (by rw [List.append_assoc]; exact hb)
   rw [List.append_assoc] at this; exact this
 | sl o e ih =>
  intro xs p p' cs hC h
  have hl' : ∀ (xs : List e.ty) (n : Nat) (fl : List Value),Lst (fun j x c => Rp w C R i e x (j :: p) c) n xs fl → Lst (fun j x c => Rp w' C' R' i' e x (j :: p') c) n xs fl := fun xs n fl hl =>
   Lst.imp (fun j x c hx => ih x (j :: p) (j :: p') c (fun b r hb => by
    have := hC b (r ++ [j]) (by rw [List.append_assoc]; exact hb)
    rw [List.append_assoc] at this; exact this) hx) _ _ _ hl
  cases o with
  | none =>
   obtain ⟨A,n,c,fl,he,hn,hc,hl,ha⟩ := h
   refine ⟨A,n,c,fl,he,hn,hc,hl' _ _ _ hl,?_⟩
   rcases ha with ha | ⟨a,ha,hat⟩
   ·exact .inl ha
   ·exact .inr ⟨a,ha,hat.mono hR⟩
  | some t =>
   obtain ⟨v,fl,he,ho,hc,hl⟩ := h
   refine ⟨v,fl,he,?_,fun g hg => (hC g [] (hc g hg)).1,hl' _ _ _ hl⟩
   refine ⟨ho.1,?_⟩
   rcases ho.2 with h0 | ⟨g,cap,cur,hv,hb,hg,r⟩
   ·exact .inl h0
   ·exact .inr ⟨g,cap,cur,hv,hb,by rw [(hC g [] (hc g (by rw [hv]; exact ownB_of hb))).2]; exact hg,r⟩

theorem Rp.mono {w w' : World} {C C' : Col} {R R' : Nat → Prop} {i i' : Nat} (q : List Nat) (hR : ∀ b,R b → R' b ∧ w'.heap[b]? = w.heap[b]?)
  (hC : ∀ b p,C b = some (i,p) → C' b = some (i',p ++ q) ∧ w'.heap[b]? = w.heap[b]?) :
  ∀ (k : Kd) (x : k.ty) (p : List Nat) (cs : List Value),Rp w C R i k x p cs → Rp w' C' R' i' k x (p ++ q) cs :=
 fun k x p cs h => Rp.move hR k x p (p ++ q) cs (fun b r hb => by rw [← List.append_assoc]; exact hC b _ hb) h

theorem Rp.ro {w w' : World} {C C' : Col} {R R' : Nat → Prop} {i i' : Nat} (hR : ∀ b,R b → R' b ∧ w'.heap[b]? = w.heap[b]?) :
  ∀ (k : Kd) (_ : k.ro = true) (x : k.ty) (p p' : List Nat) (cs : List Value),Rp w C R i k x p cs → Rp w' C' R' i' k x p' cs := by
 intro k
 induction k with
 | int k => intro _ x p p' cs h; exact h
 | bool => intro _ x p p' cs h; exact h
 | str => intro _ x p p' cs h; exact h
 | one a ih => intro hr x p p' cs h; exact ih hr x p p' cs h
 | pair a b iha ihb =>
  intro hr x p p' cs h
  obtain ⟨c1,c2,he,h1,h2⟩ := h
  have hr' : a.ro = true ∧ b.ro = true := by
   simp only [Kd.ro] at hr
   cases ha : a.ro <;> simp_all
  exact ⟨c1,c2,he,iha hr'.1 _ _ _ _ h1,ihb hr'.2 _ _ _ _ h2⟩
 | sl o e ih =>
  intro hr xs p p' cs h
  cases o with
  | none =>
   obtain ⟨A,n,c,fl,he,hn,hc,hl,ha⟩ := h
   refine ⟨A,n,c,fl,he,hn,hc,Lst.imp (fun j x c hx => ih hr x (j :: p) (j :: p') c hx) _ _ _ hl,?_⟩
   rcases ha with ha | ⟨a,ha,hat⟩
   ·exact .inl ha
   ·exact .inr ⟨a,ha,hat.mono hR⟩
  | some t => simp [Kd.ro] at hr

theorem Lst.length {α : Type} {f : Nat → α → List Value → Prop} {s : Nat} (h : ∀ j x c,f j x c → c.length = s) : ∀ (xs : List α) (j : Nat) (fl : List Value),Lst f j xs fl → fl.length = xs.length * s
 | [],_,_,hl => by simp [show _ = [] from hl]
 | x :: xs,j,_,⟨c,r,he,hf,hr⟩ => by
  rw [he,List.length_append,h _ _ _ hf,Lst.length h xs (j + 1) r hr,List.length_cons,Nat.add_mul,Nat.one_mul,Nat.add_comm]

theorem Rp.length {w : World} {C : Col} {R : Nat → Prop} {i : Nat} : ∀ (k : Kd) (x : k.ty) (p : List Nat) (cs : List Value),Rp w C R i k x p cs → cs.length = k.size := by
 intro k
 induction k with
 | int k => intro x p cs h; simp [show cs = _ from h,Kd.size]
 | bool => intro x p cs h; simp [show cs = _ from h,Kd.size]
 | str => intro x p cs h; simp [show cs = _ from h,Kd.size]
 | one a ih => intro x p cs h; exact ih x p cs h
 | pair a b iha ihb =>
  intro x p cs h
  obtain ⟨c1,c2,he,h1,h2⟩ := h
  simp [he,iha _ _ _ h1,ihb _ _ _ h2,Kd.size]
 | sl o e ih =>
  intro xs p cs h
  cases o with
  | none => obtain ⟨A,n,c,fl,he,_⟩ := h; simp [he,Kd.size]
  | some t => obtain ⟨v,fl,he,_⟩ := h; simp [he,Kd.size]

theorem Kd.size_pos : ∀ k : Kd,0 < k.size
 | .int _ => by simp [Kd.size]
 | .bool => by simp [Kd.size]
 | .str => by simp [Kd.size]
 | .sl _ _ => by simp [Kd.size]
 | .one a => by simpa [Kd.size] using a.size_pos
 | .pair a b => by have := a.size_pos; simp [Kd.size]; omega

theorem Lst.get {α : Type} {f : Nat → α → List Value → Prop} {s : Nat} (h : ∀ j x c,f j x c → c.length = s) : ∀ (xs : List α) (b : Nat) (fl : List Value),Lst f b xs fl → ∀ (j : Nat) (x : α),xs[j]? = some x → f (b + j) x ((fl.drop (j * s)).take s)
 | [],_,_,_,j,x,hx => by simp at hx
 | y :: ys,b,_,⟨c,r,he,hf,hr⟩,0,x,hx => by
  simp only [List.getElem?_cons_zero,Option.some.injEq] at hx
  subst hx
  have hl := h _ _ _ hf
  subst he
  simp only [Nat.zero_mul,List.drop_zero,Nat.add_zero]
  rw [List.take_append_of_le_length (by omega),List.take_of_length_le (by omega)]
  exact hf
 | y :: ys,b,_,⟨c,r,he,hf,hr⟩,j + 1,x,hx => by
  have hl := h _ _ _ hf
  have := Lst.get h ys (b + 1) r hr j x (by simpa using hx)
  rw [show b + 1 + j = b + (j + 1) from by omega] at this
  subst he
  have e : (c ++ r).drop ((j + 1) * s) = r.drop (j * s) := by
   rw [Nat.add_mul,Nat.one_mul,← hl,Nat.add_comm,← List.drop_drop,List.drop_left]
  rw [e]; exact this

theorem Lst.take {α : Type} {f : Nat → α → List Value → Prop} {s : Nat} (h : ∀ j x c,f j x c → c.length = s) : ∀ (xs : List α) (b : Nat) (fl : List Value),Lst f b xs fl → ∀ n : Nat,Lst f b (xs.take n) (fl.take (n * s))
 | [],b,fl,hl,n => by rw [show fl = [] from hl]; simp [Lst]
 | x :: xs,b,fl,hl,0 => by simp [Lst]
 | x :: xs,b,fl,⟨c,r,he,hf,hr⟩,n + 1 => by
  subst he
  refine ⟨c,r.take (n * s),?_,hf,Lst.take h xs (b + 1) r hr n⟩
  rw [List.take_append,h _ _ _ hf,Nat.add_mul,Nat.one_mul,Nat.add_sub_cancel,List.take_of_length_le (by rw [h _ _ _ hf]; omega)]

theorem Lst.set {α : Type} {f : Nat → α → List Value → Prop} {s : Nat} (h : ∀ j x c,f j x c → c.length = s) : ∀ (xs : List α) (b : Nat) (fl : List Value),Lst f b xs fl → ∀ (j : Nat) (y : α) (c : List Value),j < xs.length → f (b + j) y c →
  Lst f b (xs.set j y) (fl.take (j * s) ++ c ++ fl.drop (j * s + s))
 | [],_,_,_,j,_,_,hj,_ => by simp at hj
 | z :: zs,b,_,⟨c0,r,he,hf,hr⟩,0,y,c,_,hy => by
  have hl := h _ _ _ hf
  subst he
  refine ⟨c,r,?_,by simpa using hy,hr⟩
  simp only [Nat.zero_mul,List.take_zero,List.nil_append,Nat.zero_add]
  rw [← hl,List.drop_left]
 | z :: zs,b,_,⟨c0,r,he,hf,hr⟩,j + 1,y,c,hj,hy => by
  have hl := h _ _ _ hf
  have ih := Lst.set h zs (b + 1) r hr j y c (by simpa using hj) (by rw [show b + 1 + j = b + (j + 1) from by omega]; exact hy)
  subst he
  refine ⟨c0,_,?_,hf,ih⟩
  have e1 : (c0 ++ r).take ((j + 1) * s) = c0 ++ r.take (j * s) := by
   rw [List.take_append,Nat.add_mul,Nat.one_mul,List.take_of_length_le (by omega)]
   congr 2
   omega
  have e2 : (c0 ++ r).drop ((j + 1) * s + s) = r.drop (j * s + s) := by
   rw [show (j + 1) * s + s = c0.length + (j * s + s) from by rw [Nat.add_mul]; omega,← List.drop_drop,List.drop_left]
  rw [e1,e2]
  simp

theorem Lst.append {α : Type} {f : Nat → α → List Value → Prop} : ∀ (xs : List α) (b : Nat) (fl : List Value) (ys : List α) (gl : List Value),Lst f b xs fl → Lst f (b + xs.length) ys gl → Lst f b (xs ++ ys) (fl ++ gl)
 | [],b,fl,ys,gl,hl,hr => by
  rw [show fl = [] from hl]
  simpa using hr
 | x :: xs,b,_,ys,gl,⟨c,r,he,hf,hr⟩,h2 => by
  subst he
  refine ⟨c,r ++ gl,by simp,hf,Lst.append xs (b + 1) r ys gl hr ?_⟩
  rw [show b + 1 + xs.length = b + (x :: xs).length from by simp; omega]
  exact h2

theorem one_cells {v : Value} (h : v.oneCell' = true) : v.cells = #[v] := by cases v <;> first | rfl | (simp [Value.oneCell'] at h)

def hcell : Value → Nat → Value
 | .func _ hs _,q => hs.getD q undef
 | _,_ => undef

mutual
def AV (w : World) (R : Nat → Prop) (Al : Nat → Prop) (H : Nat → Value) : AVal → Value → Prop
 | .undef,_ => True
 | .int k n,v => v = .int k n
 | .bool b,v => v = .bool b
 | .str s,v => v = .string s
 | .nil,v => v = .slice none 0 0
 | .sl e xs,v => Rp w noC R 0 (.sl none e) xs [] [v]
 | .ref i,v => Al i ∧ v = H i
 | .ptr i o,v => Al i ∧ ∃ b,H i = .pointer (some ⟨b,0,none⟩) ∧ v = .pointer (some ⟨b,o,none⟩)
 | .eptr i s j o,v => Al i ∧ ∃ g n c,H i = .slice (some ⟨g,0,none⟩) n c ∧ v = .pointer (some ⟨g,j * s + o,none⟩)
 | .pel e x o,v => ∃ a fl,v = .pointer (some (a.add o)) ∧ At w R a fl ∧ Rp w noC R 0 e x [] fl
 | .vw i s lo n,v => Al i ∧ ((∃ A,H i = .slice A 0 0 ∧ lo = 0 ∧ n = 0 ∧ v = .slice A 0 0) ∨ ∃ g N c A,H i = .slice (some ⟨g,0,none⟩) N c ∧ 0 < c ∧ lo + n ≤ N ∧ N ≤ c ∧ v = .slice (some A) n (c - lo) ∧ (c - lo ≠ 0 → A = ⟨g,lo * s,none⟩) ∧ (lo = 0 → A = ⟨g,0,none⟩))
 | .emp,v => ∃ A,v = .slice A 0 0
 | .pnil,v => v = .pointer none
 | .sub _ ver s j off,v => Al ver ∧ v.oneCell' = true ∧ v = hcell (H ver) (j * s + off)
 | .agg cs,v => ∃ vs,v = .agg vs ∧ AVs w R Al H cs vs.toList
 | .tup cs,v => ∃ vs,v = .tuple vs ∧ AVs w R Al H cs vs.toList
 | .fn f ps cs,v => ∃ us vs,v = .func (.func f) us vs ∧ AVs w R Al H ps us.toList ∧ AVs w R Al H cs vs.toList
def AVs (w : World) (R : Nat → Prop) (Al : Nat → Prop) (H : Nat → Value) : List AVal → List Value → Prop
 | [],vs => vs = []
 | c :: cs,vs => ∃ v r,vs = v :: r ∧ AV w R Al H c v ∧ AVs w R Al H cs r
end

mutual
theorem AV.mono {w w' : World} {R R' Al Al' : Nat → Prop} {H H' : Nat → Value} (hR : ∀ b,R b → R' b ∧ w'.heap[b]? = w.heap[b]?) (hA : ∀ i,Al i → Al' i ∧ H' i = H i) :
  ∀ (x : AVal) (v : Value),AV w R Al H x v → AV w' R' Al' H' x v
 | .undef,_,_ => by simp [AV]
 | .int _ _,_,h => by simpa [AV] using h
 | .bool _,_,h => by simpa [AV] using h
 | .str _,_,h => by simpa [AV] using h
 | .nil,_,h => by simpa [AV] using h
 | .sl e xs,v,h => by
  simp only [AV] at h ⊢
  exact Rp.mono (C' := noC) (i' := 0) [] hR (fun b p hb => by simp [noC] at hb) _ _ [] _ h
 | .ref i,v,h => by
  simp only [AV] at h ⊢
  exact ⟨(hA i h.1).1,by rw [(hA i h.1).2]; exact h.2⟩
 | .ptr i o,v,h => by
  simp only [AV] at h ⊢
  exact ⟨(hA i h.1).1,by rw [(hA i h.1).2]; exact h.2⟩
 | .eptr i s j o,v,h => by
  simp only [AV] at h ⊢
  exact ⟨(hA i h.1).1,by rw [(hA i h.1).2]; exact h.2⟩
 | .pel e x o,v,h => by
  simp only [AV] at h ⊢
  obtain ⟨a,fl,h1,h2,h3⟩ := h
  exact ⟨a,fl,h1,h2.mono hR,Rp.mono (C' := noC) (i' := 0) [] hR (fun b p hb => by simp [noC] at hb) _ _ [] _ h3⟩
 | .vw i s lo n,v,h => by
  simp only [AV] at h ⊢
  exact ⟨(hA i h.1).1,by rw [(hA i h.1).2]; exact h.2⟩
 | .emp,v,h => by simpa [AV] using h
 | .pnil,v,h => by simpa [AV] using h
 | .sub i ver s j off,v,h => by
  simp only [AV] at h ⊢
  exact ⟨(hA ver h.1).1,h.2.1,by rw [(hA ver h.1).2]; exact h.2.2⟩
 | .agg cs,v,h => by
  simp only [AV] at h ⊢
  obtain ⟨vs,h1,h2⟩ := h
  exact ⟨vs,h1,AVs.mono hR hA cs _ h2⟩
 | .tup cs,v,h => by
  simp only [AV] at h ⊢
  obtain ⟨vs,h1,h2⟩ := h
  exact ⟨vs,h1,AVs.mono hR hA cs _ h2⟩
 | .fn f ps cs,v,h => by
  simp only [AV] at h ⊢
  obtain ⟨us,vs,h1,h2,h3⟩ := h
  exact ⟨us,vs,h1,AVs.mono hR hA ps _ h2,AVs.mono hR hA cs _ h3⟩
theorem AVs.mono {w w' : World} {R R' Al Al' : Nat → Prop} {H H' : Nat → Value} (hR : ∀ b,R b → R' b ∧ w'.heap[b]? = w.heap[b]?) (hA : ∀ i,Al i → Al' i ∧ H' i = H i) :
  ∀ (xs : List AVal) (vs : List Value),AVs w R Al H xs vs → AVs w' R' Al' H' xs vs
 | [],vs,h => by simpa [AVs] using h
 | c :: cs,vs,h => by
  simp only [AVs] at h ⊢
  obtain ⟨v,r,h1,h2,h3⟩ := h
  exact ⟨v,r,h1,AV.mono hR hA c v h2,AVs.mono hR hA cs r h3⟩
end

theorem AVs.length {w : World} {R Al : Nat → Prop} {H : Nat → Value} : ∀ (xs : List AVal) (vs : List Value),AVs w R Al H xs vs → vs.length = xs.length
 | [],vs,h => by simp only [AVs] at h; simp [h]
 | c :: cs,vs,h => by
  simp only [AVs] at h
  obtain ⟨v,r,h1,_,h3⟩ := h
  simp [h1,AVs.length cs r h3]

theorem AVs.append {w : World} {R Al : Nat → Prop} {H : Nat → Value} : ∀ (xs : List AVal) (vs : List Value) (ys : List AVal) (us : List Value),AVs w R Al H xs vs → AVs w R Al H ys us → AVs w R Al H (xs ++ ys) (vs ++ us)
 | [],vs,ys,us,h,h' => by simp only [AVs] at h; simpa [h] using h'
 | c :: cs,vs,ys,us,h,h' => by
  simp only [AVs] at h
  obtain ⟨v,r,h1,h2,h3⟩ := h
  subst h1
  simp only [List.cons_append,AVs]
  exact ⟨v,r ++ us,rfl,h2,AVs.append cs r ys us h3 h'⟩

theorem AVs.drop {w : World} {R Al : Nat → Prop} {H : Nat → Value} : ∀ (n : Nat) (xs : List AVal) (vs : List Value),AVs w R Al H xs vs → AVs w R Al H (xs.drop n) (vs.drop n)
 | 0,xs,vs,h => by simpa using h
 | n + 1,[],vs,h => by simp only [AVs] at h; simp [h,AVs]
 | n + 1,c :: cs,vs,h => by
  simp only [AVs] at h
  obtain ⟨v,r,h1,h2,h3⟩ := h
  subst h1
  simpa using AVs.drop n cs r h3

theorem AVs.take {w : World} {R Al : Nat → Prop} {H : Nat → Value} : ∀ (n : Nat) (xs : List AVal) (vs : List Value),AVs w R Al H xs vs → AVs w R Al H (xs.take n) (vs.take n)
 | 0,xs,vs,h => by simp [AVs]
 | n + 1,[],vs,h => by simp only [AVs] at h; simp [h,AVs]
 | n + 1,c :: cs,vs,h => by
  simp only [AVs] at h
  obtain ⟨v,r,h1,h2,h3⟩ := h
  subst h1
  simp only [List.take_succ_cons,AVs]
  exact ⟨v,_,rfl,h2,AVs.take n cs r h3⟩

theorem AVs.get {w : World} {R Al : Nat → Prop} {H : Nat → Value} : ∀ (xs : List AVal) (vs : List Value),AVs w R Al H xs vs → ∀ (j : Nat) (x : AVal),xs[j]? = some x → ∃ v,vs[j]? = some v ∧ AV w R Al H x v
 | [],vs,h,j,x,hx => by simp at hx
 | c :: cs,vs,h,0,x,hx => by
  simp only [AVs] at h
  obtain ⟨v,r,h1,h2,h3⟩ := h
  simp at hx
  subst hx h1
  exact ⟨v,by simp,h2⟩
 | c :: cs,vs,h,j + 1,x,hx => by
  simp only [AVs] at h
  obtain ⟨v,r,h1,h2,h3⟩ := h
  subst h1
  have := AVs.get cs r h3 j x (by simpa using hx)
  simpa using this

def Heads (w : World) (v : Value) (e : Kd) (n : Nat) (hv : Value) : Prop :=
 (∀ a,hv ≠ .pointer a) ∧ ∀ g c N cur T o,v = .slice (some ⟨g,0,none⟩) N c → 0 < c → w.heap[g]? = some (.cells cur T o) → ∀ j off,j < n → (ownAt e off).isSome = true → cur.toList[j * e.size + off]? = some (hcell hv (j * e.size + off))

def litC : (k : Kd) → k.ty → List Value
 | .int k,n => [.int k n]
 | .one a,x => litC a x
 | .pair a b,x => litC a x.1 ++ litC b x.2
 | _,_ => []
def litV (k : Kd) (x : k.ty) : Value :=
 match k.agg with
 | true => .agg (litC k x).toArray
 | false => (litC k x).headD undef

def cellsB (s : ByteArray) : List Value := s.data.toList.map fun b => Value.int .u8 b.toNat

def ents (k : Kd) (v : IntKind) : Nat → List (k.ty × Int) → List MapEntry
 | _,[] => []
 | b,p :: r => ⟨litV k p.1,.int v p.2,b⟩ :: ents k v (b + 1) r

def EntOK (w : World) (C : Col) (R Al : Nat → Prop) (H : Nat → Value) (i : Nat) : Ent → Prop
 | .dead => True
 | .box cs => ∃ b cells T,H i = .pointer (some ⟨b,0,none⟩) ∧ C b = some (i,[]) ∧ w.heap[b]? = some (.cells cells T (0,0)) ∧ AVs w R Al H cs cells.toList
 | .row t e xs => Rp w C R i (.sl (some t) e) xs [] [H i]
 | .fro e xs => Rp w noC R 0 (.sl none e) xs [] [H i]
 | .nrow t e ver xs => Rp w C R i (.sl (some t) e) xs [] [H i] ∧ Al ver ∧ Heads w (H i) e xs.length (H ver)
 | .ver => True
 | .mp k v kvs => ∃ g es,H i = .map (some g) ∧ C g = some (i,[]) ∧ w.heap[g]? = some (.map es es.size) ∧ k.ints = true ∧ es.toList = ents k v 0 kvs
 | .it m n seen => ∃ b g,H i = .pointer (some ⟨b,0,none⟩) ∧ C b = some (i,[]) ∧ Al m ∧ H m = .map (some g) ∧ 0 ≤ n ∧ (∀ j ∈ seen,0 ≤ j) ∧ w.heap[b]? = some (.mapIter (some g) n.toNat (seen.map Int.toNat).toArray n.toNat)
 | .bld t e s => ∃ b p v,H i = .pointer (some ⟨b,0,none⟩) ∧ C b = some (i,[]) ∧ w.heap[b]? = some (.cells #[p,v] t (0,0)) ∧ (p = .pointer none ∨ p = .pointer (some ⟨b,0,none⟩)) ∧ Own w e 1 v s.size (cellsB s) ∧ ∀ g,ownB v = some g → C g = some (i,[0])
 | .fbx k x => ∃ b fl,H i = .pointer (some ⟨b,0,none⟩) ∧ At w R ⟨b,0,none⟩ fl ∧ Rp w noC R 0 k x [] fl

structure Hnd where
 col : Col
 vals : List Value

instance : Membership Nat Hnd := ⟨fun L b => ∃ q p,L.col b = some (q,p)⟩

structure Inv (w0 : World) (L : Hnd) (R0 : Nat → Prop) (S : Upd) (w : World) (C : Col) (R Al : Nat → Prop) (H : Nat → Value) : Prop where
 os : w.os = w0.os
 tape : w.tape = w0.tape
 output : w.output = w0.output
 size : w0.heap.size ≤ w.heap.size
 frame : ∀ b,b < w0.heap.size → b ∉ L → w.heap[b]? = w0.heap[b]?
 col : ∀ b i p,C b = some (i,p) → Al i ∧ b < w.heap.size ∧ (w0.heap.size ≤ b ∨ b ∈ L)
 rd : ∀ b,R b → b < w.heap.size ∧ C b = none ∧ (w0.heap.size ≤ b ∨ R0 b ∨ b ∈ L)
 rd0 : ∀ b,R0 b → R b
 ent : ∀ i,EntOK w C R Al H i (getS S i)
 al : ∀ i,getS S i ≠ .dead → Al i
 one : ∀ i,Al i → (H i).oneCell' = true
 pin : ∀ (q : Nat) (u : Value),L.vals[q]? = some u → Al q ∧ H q = u

theorem ownsRow_same {w w' : World} {e : TypeId} {v : Value} {n : Nat} {fl : List Value} (h : ∀ g,ownB v = some g → w'.heap[g]? = w.heap[g]?) (ho : Own w e 1 v n fl) : Own w' e 1 v n fl := by
 refine ⟨ho.1,?_⟩
 rcases ho.2 with h0 | ⟨g,cap,cur,hv,h0,hg,r⟩
 ·exact .inl h0
 ·exact .inr ⟨g,cap,cur,hv,h0,by rw [h g (by rw [hv]; exact ownB_of h0)]; exact hg,r⟩

def Later (w w' : World) : Prop := w'.os = w.os ∧ w'.tape = w.tape ∧ w'.output = w.output ∧ w.heap.size ≤ w'.heap.size ∧ ∀ b,b < w.heap.size → w'.heap[b]? = w.heap[b]?

theorem Later.refl (w : World) : Later w w := ⟨rfl,rfl,rfl,Nat.le_refl _,fun _ _ => rfl⟩
theorem Later.trans {a b c : World} (h : Later a b) (k : Later b c) : Later a c :=
 ⟨k.1.trans h.1,k.2.1.trans h.2.1,k.2.2.1.trans h.2.2.1,Nat.le_trans h.2.2.2.1 k.2.2.2.1,fun i hi => (k.2.2.2.2 i (Nat.lt_of_lt_of_le hi h.2.2.2.1)).trans (h.2.2.2.2 i hi)⟩
end Go.Rv
namespace Go.Rv

def kdGo (rec : TypeId → Option Kd) : List Field → Option Kd
 | [] => none
 | [f] => rec f.type
 | f :: g :: r => match rec f.type,kdGo rec (g :: r) with
  | some a,some b => some (.pair a b)
  | _,_ => none

def kdOf (P : Program) : Nat → TypeId → Option Kd
 | 0,_ => none
 | n + 1,t => match P.underlying t with
  | some (.int k) => some (.int k)
  | some .bool => some .bool
  | some .string => some .str
  | some (.slice e) => (kdOf P n e).map (Kd.sl none)
  | some (.struct fs) => match fs.toList with
   | [f] => (kdOf P n f.type).map .one
   | fs => kdGo (kdOf P n) fs
  | _ => none

def absZ : Value → AVal
 | .int k n => .int k n
 | .bool b => .bool b
 | .string s => .str s
 | .slice none 0 0 => .nil
 | .pointer none => .pnil
 | _ => .undef

def aggD : TypeDesc → Bool
 | .struct _ => true
 | .array _ _ => true
 | _ => false
def elemD : TypeDesc → Nat
 | .slice e => e
 | _ => 0
def fldsD (P : Program) : TypeDesc → List (Nat × Nat × Nat)
 | .struct fs => fs.toList.map fun f => (f.offset,P.cellsOf f.type,f.type)
 | .map k e => [(k,0,e)]
 | _ => []

def eqGo (P : Program) (rec : TypeId → Option (List Nat)) : Nat → List Field → Option (List Nat)
 | _,[] => some []
 | off,f :: r => match rec f.type with
  | some ks => match f.name != "_" && Nat.beq f.offset off && Nat.beq (P.cellsOf f.type) ks.length && Nat.blt 0 ks.length with
   | true => match eqGo P rec (off + ks.length) r with
    | some l => some (ks ++ l)
    | none => none
   | false => none
  | none => none

def eqT (P : Program) : Nat → TypeId → Option (List Nat)
 | 0,_ => none
 | n + 1,t => match P.underlying t with
  | some (.int _) => some [0]
  | some .bool => some [1]
  | some .string => some [2]
  | some (.struct fs) => match P.stoodInHeld t with
   | true => none
   | false => eqGo P (eqT P n) 0 fs.toList
  | _ => none

def aggZ : Value → Bool
 | .agg _ => true
 | _ => false

def tiOf (P : Program) (t : TypeId) : Option TI :=
 match P.info? t with
 | some i => match P.underlying t with
  | some d => match i.zero with
   | some z => some ⟨aggD d,i.size,i.bytes,fldsD P d,elemD d,z.cells.toList.map absZ,match kdOf P 20 t with
    | some k => if k.size = i.size then (if aggZ z = k.agg then some k else none) else none
    | none => none,match P.eqGuardType P.depth t with | true => [] | false => (eqT P 20 t).getD []⟩
   | none => none
  | none => none
 | none => none

def TabOK (P : Program) (T : Tab) : Prop := ∀ t ti,T.get t = some ti → tiOf P t = some ti

theorem tabOK_of {P : Program} {T : Tab} (h : T.map (fun p => tiOf P p.1) = T.map (fun p => some p.2)) : TabOK P T := by
 intro t ti
 induction T with
 | nil => intro h; simp [Tab.get] at h
 | cons p T ih =>
  obtain ⟨d,v⟩ := p
  simp only [List.map_cons,List.cons.injEq] at h
  intro hg
  unfold Tab.get at hg
  cases hd : Nat.beq t d
  ·rw [hd] at hg; exact ih h.2 hg
  ·rw [hd] at hg
   have : t = d := Nat.eq_of_beq_eq_true hd
   subst this
   simp only [cond_true,Option.some.injEq] at hg
   rw [h.1,hg]

structure TIok (P : Program) (t : TypeId) (ti : TI) (i : TypeInfo) (d : TypeDesc) (z : Value) : Prop where
 info : P.info? t = some i
 und : P.underlying t = some d
 zero : i.zero = some z
 agg : ti.agg = aggD d
 size : ti.size = i.size
 bytes : ti.bytes = i.bytes
 flds : ti.flds = fldsD P d
 elem : ti.elem = elemD d
 zs : ti.zero = z.cells.toList.map absZ
 kd : ∀ k,ti.kd = some k → kdOf P 20 t = some k ∧ k.size = i.size
 zag : ∀ k,ti.kd = some k → aggZ z = k.agg
 eq : ti.eq = (match P.eqGuardType P.depth t with | true => [] | false => (eqT P 20 t).getD [])

theorem TabOK.row {P : Program} {T : Tab} (h : TabOK P T) {t : Nat} {ti : TI} (ht : T.get t = some ti) : ∃ i d z,TIok P t ti i d z := by
 have h := h t ti ht
 unfold tiOf at h
 split at h
 ·rename_i i hi
  split at h
  ·rename_i d hd
   split at h
   ·rename_i z hz
    simp only [Option.some.injEq] at h
    subst h
    have key : ∀ k,(match kdOf P 20 t with
     | some k => if k.size = i.size then (if aggZ z = k.agg then some k else none) else none
     | none => none) = some k → (kdOf P 20 t = some k ∧ k.size = i.size) ∧ aggZ z = k.agg := by
     intro k hk
     split at hk
     ·rename_i k' hk'
      split at hk
      ·split at hk
       ·simp only [Option.some.injEq] at hk; subst hk; exact ⟨⟨hk',by assumption⟩,by assumption⟩
       ·cases hk
      ·cases hk
     ·cases hk
    exact ⟨i,d,z,hi,hd,hz,rfl,rfl,rfl,rfl,rfl,rfl,fun k hk => (key k hk).1,fun k hk => (key k hk).2,rfl⟩
   ·cases h
  ·cases h
 ·cases h

theorem absZ_ok {w : World} {R Al : Nat → Prop} {H : Nat → Value} (v : Value) : AV w R Al H (absZ v) v := by
 unfold absZ
 split <;> simp [AV]

theorem absZs_ok {w : World} {R Al : Nat → Prop} {H : Nat → Value} : ∀ (vs : List Value),AVs w R Al H (vs.map absZ) vs
 | [] => by simp [AVs]
 | v :: vs => by simp only [List.map_cons,AVs]; exact ⟨v,vs,rfl,absZ_ok v,absZs_ok vs⟩

theorem constA_ok {w : World} {R Al : Nat → Prop} {H : Nat → Value} (v : Value) : AV w R Al H (constA v) v := by
 unfold constA
 split <;> simp [AV]

theorem oper_ok {w : World} {R Al : Nat → Prop} {H : Nat → Value} {st : St} {a : Act} (he : ∀ t,AV w R Al H (getE st.env t) (a.tmps.getD t undef)) (x : Operand) : AV w R Al H (oper st x) (a.eval x) := by
 cases x with
 | tmp t => exact he t
 | const v => exact constA_ok v
 | global g => simp [oper,AV]
 | func f => simp [oper,AV,AVs,Act.eval]

section
variable {P : Program} {t : TypeId} {ti : TI} {i : TypeInfo} {d : TypeDesc} {z : Value}

theorem TIok.run_info (h : TIok P t ti i d z) (w : World) : (typeInfo t).run P w = .ok i w := by simp [typeInfo,h.info]
theorem TIok.run_size (h : TIok P t ti i d z) (w : World) : (sizeOf t).run P w = .ok ti.size w := by simp [sizeOf,h.run_info,h.size]
theorem TIok.run_und (h : TIok P t ti i d z) (w : World) : (underlying t).run P w = .ok d w := run_underlying h.und w
theorem TIok.run_agg (h : TIok P t ti i d z) (w : World) : (Go.isAgg t).run P w = .ok ti.agg w := by
 have := h.run_und w
 rw [h.agg]
 cases d <;> simp [Go.isAgg,this,aggD]
theorem TIok.run_zero (h : TIok P t ti i d z) (w : World) : (zeroValue t).run P w = .ok z w := by simp [zeroValue,h.run_info,h.zero]

theorem run_loadVar (h : TIok P t ti i d z) (w : World) (a : Addr) (fl : List Value) (hl : fl.length = ti.size) (hc : ∀ (j : Nat) (u : Value),fl[j]? = some u → w.cell? (a.add j) = some u)
  (v : Value) (hv : match ti.agg with | true => v = .agg fl.toArray | false => fl = [v]) : (loadVar t a).run P w = .ok v w := by
 unfold loadVar
 cases hg : ti.agg
 ·rw [hg] at hv
  simp only at hv
  subst hv
  have h0 := hc 0 v (by simp)
  rw [Addr.add_zero'] at h0
  simp [h.run_agg,hg,h0]
 ·rw [hg] at hv
  simp only at hv
  subst hv
  have := run_loadCells_list (P := P) w a fl hc
  rw [hl] at this
  simp [h.run_agg,hg,h.run_size,this]

theorem run_fieldAt (h : TIok P t ti i d z) (w : World) (a : Addr) (f off sz tt : Nat) (hf : ti.flds[f]? = some (off,sz,tt)) (hs : 0 < sz) :
  (Instr.fieldAt t (.pointer (some a)) f).run P w = .ok (.pointer (some (a.add off))) w := by
 rw [h.flds] at hf
 have hu := h.run_und w
 cases d with
 | struct fs =>
  simp only [fldsD,List.getElem?_map,Option.map_eq_some_iff,Prod.mk.injEq] at hf
  obtain ⟨g,hg,h1,h2,h3⟩ := hf
  have hg' : fs[f]? = some g := by simpa using hg
  have hs' : (sizeOf g.type).run P w = .ok sz w := by
   unfold Program.cellsOf at h2
   cases hi : P.info? g.type with
   | none => rw [hi] at h2; simp at h2; omega
   | some j => rw [hi] at h2; simp at h2; simp [sizeOf,typeInfo,hi,h2]
  simp [Instr.fieldAt,hu,hg',Instr.sureAddr,fieldPlace,hs',h1]
  intro h0
  omega
 | map k e =>
  cases f with
  | zero => simp only [fldsD,List.getElem?_cons_zero,Option.some.injEq,Prod.mk.injEq] at hf; omega
  | succ f => simp [fldsD] at hf
 | _ => simp [fldsD] at hf
end

end Go.Rv
