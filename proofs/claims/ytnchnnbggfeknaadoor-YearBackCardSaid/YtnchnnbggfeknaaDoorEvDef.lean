/-
  An evaluator of Go code over plain values (no world): integers, strings as byte lists, slices as lists. Its answers are proved right in a text of their own.
-/
import Derived.WalkKit
import Derived.LoopN
import Derived.Orders
set_option linter.unusedVariables false
set_option linter.unusedSimpArgs false
namespace Nt.Ev
open Go

/-- The kind of a cell. -/
inductive Kd where
  | bool | int (k : IntKind) | str | sl (e : Nat) (sh : List Kd) | oth

mutual
def Kd.eq : Kd → Kd → Bool
  | .bool, .bool => true
  | .int k, .int k' => k == k'
  | .str, .str => true
  | .sl e sh, .sl e' sh' => e == e' && Kd.eqL sh sh'
  | _, _ => false
def Kd.eqL : List Kd → List Kd → Bool
  | [], [] => true
  | a :: l, b :: m => Kd.eq a b && Kd.eqL l m
  | _, _ => false
end

/-- A value, as far as it is known. -/
inductive V where
  | any
  | bool (b : Bool)
  | int (k : IntKind) (n : Int)
  | str (l : List UInt8)
  | agg (cs : List V)
  | tup (vs : List V)
  | nilsl
  | sl (e : Nat) (sh : List Kd) (o : Option Nat) (xs : List V)
  | rptr (sh : List Kd) (x : V) (off : Nat)
  | box (k off : Nat)
  | fn (f : Nat) (caps : List V)
  deriving Inhabited

/-- A choice. -/
def sel {α : Type} (c : Bool) (a b : α) : α := match c with | true => a | false => b

def iadd (k : IntKind) (a b : Int) : Int := k.wrap (a + b)
def isub (k : IntKind) (a b : Int) : Int := k.wrap (a - b)
def imul (k : IntKind) (a b : Int) : Int := k.wrap (a * b)
def iquo (k : IntKind) (a b : Int) : Int := k.wrap (a.tdiv b)
def irem (a b : Int) : Int := a.tmod b
def icnv (k : IntKind) (n : Int) : Int := k.wrap n
def ibits (op : BinOp) (k : IntKind) (x y : Int) : Int :=
  match op with
  | .and => k.wrap (BitVec.ofInt k.bits x &&& BitVec.ofInt k.bits y).toNat
  | .or => k.wrap (BitVec.ofInt k.bits x ||| BitVec.ofInt k.bits y).toNat
  | .xor => k.wrap (BitVec.ofInt k.bits x ^^^ BitVec.ofInt k.bits y).toNat
  | _ => k.wrap (BitVec.ofInt k.bits x &&& ~~~BitVec.ofInt k.bits y).toNat
def ishl (k : IntKind) (x y : Int) : Int := k.wrap (x * 2 ^ (min y.toNat k.bits))
def ishr (k : IntKind) (x y : Int) : Int := x.fdiv (2 ^ (min y.toNat k.bits))
def imin (a b : Int) : Int := min a b
def imax (a b : Int) : Int := max a b
def ilt (a b : Int) : Bool := decide (a < b)
def ile (a b : Int) : Bool := decide (a ≤ b)
def ieq (a b : Int) : Bool := a == b
def nle (a b : Nat) : Bool := decide (a ≤ b)
/-- Strings, rows that are not too long to be joined, or made. -/
def okCat (a b : List UInt8) : Bool := nle (a.length + b.length) 1152921504606846976
def okStr (a : List UInt8) : Bool := nle a.length 1152921504606846976
def bnot (a : Bool) : Bool := !a
def beq (a b : Bool) : Bool := a == b
def band (a b : Bool) : Bool := match a with | true => b | false => false
def slen (l : List UInt8) : Int := (l.length : Int)
def sat (l : List UInt8) (i : Int) : Int := ((l.getD i.toNat 0).toNat : Int)
def ssub (l : List UInt8) (a b : Int) : List UInt8 := (l.drop a.toNat).take (b.toNat - a.toNat)
def scat (a b : List UInt8) : List UInt8 := a ++ b
def seq (a b : List UInt8) : Bool := a == b
def slt (a b : List UInt8) : Bool := Op.bytesLess a b
def llen (xs : List V) : Int := (xs.length : Int)
def lget (xs : List V) (i : Int) : V := xs.getD i.toNat .any
def lsub (xs : List V) (a b : Int) : List V := (xs.drop a.toNat).take (b.toNat - a.toNat)
def lcat (xs ys : List V) : List V := xs ++ ys
def okApp (xs ys : List V) : Bool := nle (xs.length + ys.length) 16777216
def okNew (ys : List V) : Bool := nle ys.length 16777216
def lrep (n : Int) (x : V) : List V := List.replicate n.toNat x
def bytesV (l : List UInt8) : List V := l.map fun c => .int .u8 (c.toNat : Int)
def asStr : V → List UInt8 | .str l => l | _ => []
def asInt : V → Int | .int _ n => n | _ => 0
def asBool : V → Bool | .bool b => b | _ => false
def asL : V → List V | .sl _ _ _ xs => xs | _ => []
def acell (x : V) (j : Nat) : V := match x with | .agg cs => cs.getD j .any | x => x
def vbytes (xs : List V) : List UInt8 := xs.map fun v => UInt8.ofNat (asInt (acell v 0)).toNat
def eta : Kd → V → V
  | .bool, x => .bool (asBool x)
  | .int k, x => .int k (asInt x)
  | .str, x => .str (asStr x)
  | .sl e sh, x => .sl e sh none (asL x)
  | .oth, x => x

/-- The cells of a value. -/
def V.cells : V → List V
  | .agg cs => cs
  | v => [v]

/-- A value without a label, if it may lie among data. -/
def V.deep : V → Option V
  | .sl e sh _ xs => some (.sl e sh none xs)
  | .bool b => some (.bool b)
  | .int k n => some (.int k n)
  | .str l => some (.str l)
  | .agg cs => some (.agg cs)
  | .nilsl => some .nilsl
  | .rptr sh x off => some (.rptr sh x off)
  | _ => none

/-- Neither a tuple nor a function. -/
def V.single : V → Bool
  | .tup _ => false
  | .fn _ _ => false
  | _ => true
/-- A cell's value, without label or box. -/
def V.one : V → Bool
  | .bool _ => true
  | .int _ _ => true
  | .str _ => true
  | .nilsl => true
  | .sl _ _ none _ => true
  | .rptr _ _ _ => true
  | _ => false
/-- The cells of what is laid in a box. -/
def boxCells : V → Option (List V)
  | .agg cs => bif cs.all V.one then some cs else none
  | .any => none
  | .tup _ => none
  | v => some [v]

def V.deepL : List V → Option (List V)
  | [] => some []
  | v :: l => match v.deep, V.deepL l with
    | some v, some l => some (v :: l)
    | _, _ => none

def fits : Kd → V → Bool
  | .bool, .bool _ => true
  | .int k, .int k' _ => k == k'
  | .str, .str _ => true
  | .sl e sh, .sl e' sh' _ _ => e == e' && Kd.eqL sh sh'
  | .sl _ _, .nilsl => true
  | _, _ => false
def fitsL : List Kd → List V → Bool
  | [], [] => true
  | k :: l, v :: m => band (fits k v) (fitsL l m)
  | _, _ => false
def fitsE (sh : List Kd) (v : V) : Bool := fitsL sh v.cells
def fitsAll (sh : List Kd) : List V → Bool
  | [] => true
  | v :: l => band (fitsE sh v) (fitsAll sh l)

def absC : Value → V
  | .bool b => .bool b
  | .int k n => .int k n
  | .string s => .str s.data.toList
  | .slice none 0 0 => .nilsl
  | _ => .any
def absV : Value → V
  | .agg cs => .agg (cs.toList.map absC)
  | v => absC v

structure St where
  fr : List V
  bx : List (Nat × List V)

structure Env where
  P : Program
  glob : Nat → Option V

def slot (fr : List V) (t : Nat) : V := fr.getD t .any

def evalO (E : Env) (fr : List V) : Operand → V
  | .tmp t => slot fr t
  | .const v => absV v
  | .global g => match E.glob g with | some v => v | none => .any
  | .func f => .fn f []

def sizeT (P : Program) (t : TypeId) : Option Nat := match P.info? t with | some i => some i.size | none => none
def isAggT (P : Program) (t : TypeId) : Option Bool :=
  match P.underlying t with
  | some (.struct _) => some true
  | some (.array _ _) => some true
  | some _ => some false
  | none => none
def elemT (P : Program) (t : TypeId) : Option TypeId := match P.underlying t with | some (.slice e) => some e | _ => none
def shapeT (P : Program) : Nat → TypeId → List Kd
  | 0, _ => [.oth]
  | n + 1, t => match P.underlying t with
    | some .bool => [.bool]
    | some (.int k) => [.int k]
    | some .string => [.str]
    | some (.slice e) => [.sl e (shapeT P n e)]
    | some (.struct fs) => fs.toList.flatMap fun f => shapeT P n f.type
    | some (.array k e) => (List.replicate k (shapeT P n e)).flatten
    | _ => [.oth]
/-- The element type of a slice type, its shape, its zero value; only if all agree. -/
def elemOf (P : Program) (t : TypeId) : Option (TypeId × List Kd × V) :=
  match elemT P t with
  | none => none
  | some e =>
    match P.info? e with
    | none => none
    | some i =>
      match i.zero with
      | none => none
      | some z =>
        let sh := shapeT P 8 e
        bif i.size == sh.length && Nat.blt 0 i.size && z.cells.size == i.size && Nat.ble i.bytes 8388608 && fitsE sh (absV z) then some (e, sh, absV z) else none

inductive Eff where
  | val (v : V)
  | own (e : Nat) (sh : List Kd) (xs : List V)
  | newSl (e : Nat) (sh : List Kd) (xs : List V)
  | newBox (e : Nat) (cells : List V)
  | put (k off : Nat) (cells : List V)
  | app (L : Nat) (e : Nat) (sh : List Kd) (xs : List V)
  | call (f : Nat) (args : List V)
  | pick (b : Bool) (x y : V)
  | alts (i : Int) (vs : List V)

abbrev Res := Option (Bool × Eff)

def ok (v : V) : Res := some (true, .val v)

def intV (op : BinOp) (k : IntKind) (a b : Int) : Option (Bool × V) :=
  match op with
  | .add => some (true, .int k (iadd k a b))
  | .sub => some (true, .int k (isub k a b))
  | .mul => some (true, .int k (imul k a b))
  | .quo => some (bnot (ieq b 0), .int k (iquo k a b))
  | .rem => some (bnot (ieq b 0), .int k (irem a b))
  | .and => some (true, .int k (ibits .and k a b))
  | .or => some (true, .int k (ibits .or k a b))
  | .xor => some (true, .int k (ibits .xor k a b))
  | .andNot => some (true, .int k (ibits .andNot k a b))
  | .eql => some (true, .bool (ieq a b))
  | .neq => some (true, .bool (bnot (ieq a b)))
  | .lss => some (true, .bool (ilt a b))
  | .leq => some (true, .bool (ile a b))
  | .gtr => some (true, .bool (ilt b a))
  | .geq => some (true, .bool (ile b a))
  | _ => none
def strV (op : BinOp) (a b : List UInt8) : Option (Bool × V) :=
  match op with
  | .add => some (okCat a b, .str (scat a b))
  | .eql => some (true, .bool (seq a b))
  | .neq => some (true, .bool (bnot (seq a b)))
  | .lss => some (true, .bool (slt a b))
  | .geq => some (true, .bool (bnot (slt a b)))
  | .gtr => some (true, .bool (band (bnot (slt a b)) (bnot (seq a b))))
  | .leq => some (true, .bool (bnot (band (bnot (slt a b)) (bnot (seq a b)))))
  | _ => none
def binV (op : BinOp) (x y : V) : Option (Bool × V) :=
  match x, y with
  | .int k a, .int k' b =>
    match op with
    | .shl => some (ile 0 b, .int k (ishl k a b))
    | .shr => some (ile 0 b, .int k (ishr k a b))
    | _ => bif decide (k = k') then intV op k a b else none
  | .str a, .str b => strV op a b
  | .bool a, .bool b =>
    match op with
    | .eql => some (true, .bool (beq a b))
    | .neq => some (true, .bool (bnot (beq a b)))
    | _ => none
  | _, _ => none
def resV : Option (Bool × V) → Res
  | some (c, v) => some (c, .val v)
  | none => none

def boolOk (P : Program) (t : TypeId) : V → Bool
  | .bool _ => match P.underlying t with | some .bool => true | _ => false
  | _ => true

def allEq {α : Type} (f : α → Option Bool) : List α → Option Bool
  | [] => some true
  | [a] => f a
  | a :: l => match f a, allEq f l with
    | some p, some q => some (band p q)
    | _, _ => none
/-- Whether two values of a type are equal, by their cells. -/
def eqT (P : Program) : Nat → TypeId → List V → List V → Option Bool
  | 0, _, _, _ => none
  | m + 1, t, xs, ys => match P.underlying t with
    | some .bool => match xs, ys with
      | [.bool a], [.bool b] => some (beq a b)
      | _, _ => none
    | some (.int _) => match xs, ys with
      | [.int k a], [.int k' b] => bif decide (k = k') then some (ieq a b) else none
      | _, _ => none
    | some .string => match xs, ys with
      | [.str a], [.str b] => some (seq a b)
      | _, _ => none
    | some (.struct fs) => bif P.stoodInHeld t then none else
      allEq (fun f => bif f.name == "_" then none else match sizeT P f.type with
        | some n => eqT P m f.type ((xs.drop f.offset).take n) ((ys.drop f.offset).take n)
        | none => none) fs.toList
    | some (.array k e) => match sizeT P e with
      | some n => allEq (fun i => eqT P m e ((xs.drop (i * n)).take n) ((ys.drop (i * n)).take n)) (List.range k)
      | none => none
    | _ => none
def binT (P : Program) (op : BinOp) (t : TypeId) (x y : V) : Res :=
  match x, y with
  | .agg as, .agg bs => bif P.eqGuardType P.depth t then none else
    match isAggT P t, op, eqT P 8 t as bs with
    | some true, .eql, some c => ok (.bool c)
    | some true, .neq, some c => ok (.bool (bnot c))
    | _, _, _ => none
  | x, y => bif boolOk P t x then resV (binV op x y) else none

def fieldOf (P : Program) (t : TypeId) (f : Nat) : Option Field :=
  match P.underlying t with
  | some (.struct fs) => fs[f]?
  | _ => none

/-- Cells laid over others. -/
def over (cells : List V) (off : Nat) (new : List V) : List V := cells.take off ++ new ++ cells.drop (off + new.length)

def fillV (place : Nat → Option (Nat × Nat)) (cells : List V) : List (Nat × V) → Option (List V)
  | [] => some cells
  | (i, v) :: rest =>
    match place i, v.deep with
    | some (off, size), some v =>
      bif v.cells.length == size && Nat.ble (off + size) cells.length then fillV place (over cells off v.cells) rest else none
    | _, _ => none

def lookBx : List (Nat × List V) → Nat → Option (List V)
  | [], _ => none
  | (k, cs) :: l, j => bif k == j then some cs else lookBx l j
def setBx : List (Nat × List V) → Nat → List V → List (Nat × List V)
  | [], _, _ => []
  | (k, cs) :: l, j, ds => bif k == j then (k, ds) :: l else (k, cs) :: setBx l j ds

def cellOne : V → V
  | .agg _ => .any
  | .tup _ => .any
  | v => v
/-- The elements of an array's cells. -/
def chunks (agg : Bool) (sz : Nat) : Nat → List V → List V
  | 0, _ => []
  | n + 1, cs => (match agg with | true => V.agg (cs.take sz) | false => cellOne (cs.getD 0 .any)) :: chunks agg sz n (cs.drop sz)

def loadV (P : Program) (t : TypeId) (sh : List Kd) (x : V) (off : Nat) : Res :=
  match isAggT P t, sizeT P t with
  | some true, some n =>
    bif Nat.ble (off + n) sh.length then ok (.agg ((List.range n).map fun j => eta (sh.getD (off + j) .oth) (acell x (off + j)))) else none
  | some false, _ => bif Nat.blt off sh.length then ok (eta (sh.getD off .oth) (acell x off)) else none
  | _, _ => none

def partOf (P : Program) (t : TypeId) (cs : List V) (off : Nat) : Res :=
  match isAggT P t, sizeT P t with
  | some true, some n => bif Nat.ble (off + n) cs.length then ok (.agg ((cs.drop off).take n)) else none
  | some false, _ => bif Nat.blt off cs.length then (match (cs.getD off .any).deep with | some v => ok v | none => none) else none
  | _, _ => none

def indexV (P : Program) (t : TypeId) (x : V) (i : Int) : Res :=
  match x with
  | .str l => match P.underlying t with
    | some .string => some (band (ile 0 i) (ilt i (slen l)), .val (.int .u8 (sat l i)))
    | _ => none
  | _ => none

def indexAddrV (P : Program) (t : TypeId) (x : V) (i : Int) : Res :=
  match x with
  | .sl _ sh _ xs => match elemT P t with
    | some e => match sizeT P e with
      | some n => bif n == sh.length then some (band (ile 0 i) (ilt i (llen xs)), .val (.rptr sh (lget xs i) 0)) else none
      | none => none
    | none => none
  | .rptr sh (.agg cs) 0 => match P.underlying t with
    | some (.array n e) => match sizeT P e, isAggT P e with
      | some sz, some ag =>
        bif n * sz == cs.length && Nat.blt 0 sz && (ag || sz == 1) && fitsAll (sh.take sz) (chunks ag sz n cs) then
          some (band (ile 0 i) (ilt i n), .val (.rptr (sh.take sz) (lget (chunks ag sz n cs) i) 0)) else none
      | _, _ => none
    | _ => none
  | _ => none

/-- A place of an array in a box. -/
def boxAddrV (P : Program) (t : TypeId) (k off : Nat) (i : Int) : Res :=
  match P.underlying t with
  | some (.array n e) => match sizeT P e with
    | some sz => bif Nat.blt 0 sz then some (true, .alts i ((List.range n).map fun j => .box k (off + j * sz))) else none
    | none => none
  | _ => none
/-- An element of an array. -/
def aggIndexV (P : Program) (t : TypeId) (cs : List V) (i : Int) : Res :=
  match P.underlying t with
  | some (.array n e) => match sizeT P e, isAggT P e with
    | some sz, some ag => bif n * sz == cs.length && Nat.blt 0 sz && (ag || sz == 1) && cs.all V.one then some (true, .alts i (chunks ag sz n cs)) else none
    | _, _ => none
  | _ => none

def sliceV (P : Program) (t : TypeId) (x : V) (lo hi : Option V) : Res :=
  match x with
  | .str l =>
    match P.underlying t, lo, hi with
    | some .string, some (.int _ a), some (.int _ b) => some (band (band (ile 0 b) (ile b (slen l))) (band (ile 0 a) (ile a b)), .val (.str (ssub l a b)))
    | some .string, none, some (.int _ b) => some (band (ile 0 b) (ile b (slen l)), .val (.str (ssub l 0 b)))
    | some .string, some (.int _ a), none => some (band (ile 0 a) (ile a (slen l)), .val (.str (ssub l a (slen l))))
    | some .string, none, none => ok (.str l)
    | _, _, _ => none
  | .sl e sh _ xs =>
    match elemT P t with
    | none => none
    | some e' => match sizeT P e' with
      | none => none
      | some n => bif n == sh.length then
          match lo, hi with
          | some (.int _ a), some (.int _ b) => some (band (band (ile 0 b) (ile b (llen xs))) (band (ile 0 a) (ile a b)), .val (.sl e sh none (lsub xs a b)))
          | none, some (.int _ b) => some (band (ile 0 b) (ile b (llen xs)), .val (.sl e sh none (lsub xs 0 b)))
          | some (.int _ a), none => some (band (ile 0 a) (ile a (llen xs)), .val (.sl e sh none (lsub xs a (llen xs))))
          | none, none => ok (.sl e sh none xs)
          | _, _ => none
        else none
  | _ => none

def lenV (P : Program) (t : TypeId) (x : V) : Res :=
  match P.underlying t, x with
  | some .string, .str l => ok (.int .i64 (slen l))
  | some (.slice _), .sl _ _ _ xs => ok (.int .i64 (llen xs))
  | some (.slice _), .nilsl => ok (.int .i64 0)
  | some (.array n _), _ => ok (.int .i64 (n : Int))
  | _, _ => none

def minmaxV (great : Bool) (x y : V) : Res :=
  match x, y with
  | .int k a, .int k' b => bif decide (k = k') then ok (.int k (match great with | true => imax a b | false => imin a b)) else none
  | _, _ => none
/-- What is appended. -/
def tailV (sh : List Kd) : V → Option (List V)
  | .sl _ sh' _ ys => bif Kd.eqL sh sh' then some ys else none
  | .nilsl => some []
  | _ => none

def appendV (P : Program) (ts : List TypeId) (s x : V) : Res :=
  match ts with
  | [t, u] => bif t == u then
      match elemOf P t with
      | none => none
      | some (e, sh, _) =>
        match tailV sh x with
        | none => none
        | some ys =>
          match s with
          | .nilsl => some (okNew ys, .own e sh ys)
          | .sl e' sh' (some L) xs => bif e == e' && Kd.eqL sh sh' then some (okApp xs ys, .app L e sh (lcat xs ys)) else none
          | _ => none
    else none
  | _ => none

def makeV (P : Program) (t : TypeId) (l c : V) : Res :=
  match l, c, elemOf P t with
  | .int .i64 n, .int .i64 m, some (e, sh, z) => some (band (ile 0 n) (band (ile n m) (ile m 16777216)), .own e sh (lrep n z))
  | _, _, _ => none

def zerosV (z : V) (n sz : Nat) : List V := (List.range (n * sz)).map fun i => z.cells.getD (i % sz) .any
def buildSliceV (P : Program) (t : TypeId) (n : Nat) (parts : List (Nat × V)) : Res :=
  match elemOf P t with
  | some (e, sh, z) =>
    bif n == 0 then (match parts with | [] => some (true, .own e sh []) | _ => none) else
    match isAggT P e, fillV (fun i => some (i * sh.length, sh.length)) (zerosV z n sh.length) parts with
    | some ag, some cs =>
      bif (ag || sh.length == 1) && fitsAll sh (chunks ag sh.length n cs) && Nat.ble (n * sh.length) 16777216 then some (true, .own e sh (chunks ag sh.length n cs)) else none
    | _, _ => none
  | none => none

def placeV (P : Program) (fs : Array Field) (j : Nat) : Option (Nat × Nat) :=
  match fs[j]? with
  | some f => (match sizeT P f.type with | some n => some (f.offset, n) | none => none)
  | none => none
def buildV (P : Program) (t : TypeId) (parts : List (Nat × V)) : Res :=
  match P.info? t with
  | some i =>
    match i.zero, P.underlying t with
    | some (.agg z), some (.struct fs) =>
      match fillV (placeV P fs) (z.toList.map absC) parts with
      | some cs => bif fs.all (fun f => (sizeT P f.type).isSome) then ok (.agg cs) else none
      | none => none
    | _, _ => none
  | none => none

def convV (P : Program) (src dst : TypeId) (x : V) : Res :=
  match P.underlying src, P.underlying dst, x with
  | some (.int _), some (.int k), .int _ n => ok (.int k (icnv k n))
  | some .string, some .string, .str l => ok (.str l)
  | some .string, some (.slice e), .str l => match P.underlying e with
    | some (.int .u8) => some (okStr l, .newSl e [.int .u8] (bytesV l))
    | _ => none
  | some (.slice e), some .string, .sl _ [.int .u8] _ xs => match P.underlying e with
    | some (.int .u8) => ok (.str (vbytes xs))
    | _ => none
  | some (.slice e), some .string, .nilsl => match P.underlying e with
    | some (.int .u8) => ok (.str [])
    | _ => none
  | _, _, _ => none

/-- Old cells of a box for a struct read out of it: without labels. -/
def readBx (cells : List V) (off n : Nat) : Option (List V) := bif Nat.ble (off + n) cells.length then V.deepL ((cells.drop off).take n) else none

def hasBody (P : Program) (f : Nat) : Bool := match P.funcs[f]? with | some fn => fn.body.isSome | none => false

def opR (E : Env) (fr : List V) (bx : List (Nat × List V)) (o : Oper) : Res :=
  let P := E.P
  let r := evalO E fr
  match o.op with
  | .move x => ok (r x)
  | .assign x => match r x with
    | .nilsl => match elemOf P o.type with
      | some (e, sh, _) => some (true, .own e sh [])
      | none => ok .nilsl
    | v => ok v
  | .pick c x y => match r c with
    | .bool b => some (true, .pick b (r x) (r y))
    | _ => none
  | .alloc t => match P.info? t with
    | some i => match i.zero with
      | some z => match boxCells (absV z) with
        | some cs => some (true, .newBox t cs)
        | none => none
      | none => none
    | none => none
  | .box t x => match boxCells (r x) with
    | some cs => some (true, .newBox t cs)
    | none => none
  | .build t parts => buildV P t (parts.toList.map fun (i, x) => (i, r x))
  | .buildSlice t n parts => buildSliceV P t n (parts.toList.map fun (i, x) => (i, r x))
  | .load t a => match r a with
    | .rptr sh x off => loadV P t sh x off
    | .box k off => match lookBx bx k with
      | some cells => match isAggT P t, sizeT P t with
        | some true, some n => match readBx cells off n with
          | some cs => ok (.agg cs)
          | none => none
        | some false, _ => bif Nat.blt off cells.length then ok (cells.getD off .any) else none
        | _, _ => none
      | none => none
    | _ => none
  | .store t a x => match r a, boxCells (r x) with
    | .box k off, some vs => match lookBx bx k, sizeT P t with
      | some cells, some n => bif vs.length == n && Nat.ble (off + n) cells.length then some (true, .put k off vs) else none
      | _, _ => none
    | _, _ => none
  | .nilCheck x => match r x with
    | .rptr sh v off => ok (.rptr sh v off)
    | .box k off => ok (.box k off)
    | _ => none
  | .binOp op t x y _ => binT P op t (r x) (r y)
  | .unOp op _ x => match op, r x with
    | .not, .bool b => ok (.bool (bnot b))
    | .neg, .int k n => ok (.int k (isub k 0 n))
    | _, _ => none
  | .convert src dst x => convV P src dst (r x)
  | .makeFunc (.func f) first caps => bif first.size == 0 && (caps.toList.map r).all V.single then ok (.fn f (caps.toList.map r)) else none
  | .makeSlice t l c => makeV P t (r l) (r c)
  | .slice t x lo hi none => sliceV P t (r x) (lo.map r) (hi.map r)
  | .fieldAddr t x f => match fieldOf P t f with
    | some f => match sizeT P f.type with
      | some 0 => none
      | some _ => match r x with
        | .rptr sh v off => ok (.rptr sh v (off + f.offset))
        | .box k off => ok (.box k (off + f.offset))
        | _ => none
      | none => none
    | none => none
  | .field t x f => match fieldOf P t f, r x with
    | some f, .agg cs => partOf P f.type cs f.offset
    | _, _ => none
  | .indexAddr t x i => match r i with
    | .int _ n => match r x with
      | .box k off => boxAddrV P t k off n
      | x => indexAddrV P t x n
    | _ => none
  | .index t x i => match r i with
    | .int _ n => match r x with
      | .agg cs => aggIndexV P t cs n
      | x => indexV P t x n
    | _ => none
  | .extract x i => match r x with
    | .tup vs => bif Nat.blt i vs.length && (match vs.getD i .any with | .tup _ => false | .fn _ _ => false | _ => true) then ok (vs.getD i .any) else none
    | _ => none
  | .call c => match c.callee with
    | .value f => match r f with
      | .fn id caps => match V.deepL (c.args.toList.map r ++ caps) with
        | some args => bif hasBody P id then some (true, .call id args) else none
        | none => none
      | _ => none
    | .builtin .min => match c.args.toList with
      | [x, y] => minmaxV false (r x) (r y)
      | _ => none
    | .builtin .max => match c.args.toList with
      | [x, y] => minmaxV true (r x) (r y)
      | _ => none
    | .builtin .len => match c.argTypes.toList, c.args.toList with
      | [t], [x] => lenV P t (r x)
      | _, _ => none
    | .builtin .append => match c.args.toList with
      | [s, x] => appendV P c.argTypes.toList (r s) (r x)
      | _ => none
    | _ => none
  | _ => none

/-- The frame without a label. -/
def killV (L : Nat) : V → V
  | .sl e sh (some L') xs => bif L == L' then .sl e sh none xs else .sl e sh (some L') xs
  | v => v
def V.kill (L : Nat) : V → V
  | .tup vs => .tup (vs.map (killV L))
  | .fn f vs => .fn f (vs.map (killV L))
  | v => killV L v
def St.kill (s : St) (L : Nat) : St := ⟨s.fr.map (V.kill L), s.bx.map fun (k, cs) => (k, cs.map (V.kill L))⟩
def hasLabelV (L : Nat) : V → Bool
  | .sl _ _ (some L') _ => L == L'
  | _ => false
def V.hasLabel (L : Nat) : V → Bool
  | .tup vs => vs.any (hasLabelV L)
  | .fn _ vs => vs.any (hasLabelV L)
  | v => hasLabelV L v
def St.noLabel (s : St) (L : Nat) : Bool := s.fr.all (fun v => bnot (v.hasLabel L)) && s.bx.all fun (_, cs) => cs.all fun v => bnot (v.hasLabel L)
def hasBoxV (k : Nat) : V → Bool
  | .box j _ => k == j
  | _ => false
def V.hasBox (k : Nat) : V → Bool
  | .tup vs => vs.any (hasBoxV k)
  | .fn _ vs => vs.any (hasBoxV k)
  | v => hasBoxV k v
def St.noBox (s : St) (k : Nat) : Bool := s.fr.all (fun v => bnot (v.hasBox k)) && s.bx.all fun (j, cs) => bnot (j == k) && cs.all fun v => bnot (v.hasBox k)

def St.put (s : St) (d : Option Nat) (v : V) : St := match d with | some d => ⟨s.fr.set d v, s.bx⟩ | none => s

/-- The first label among several results is kept, the others go. -/
def relabL (d : Nat) : Bool → List V → List V
  | _, [] => []
  | true, .sl e sh (some _) xs :: l => .sl e sh (some d) xs :: relabL d false l
  | b, .sl e sh _ xs :: l => .sl e sh none xs :: relabL d b l
  | b, v :: l => v :: relabL d b l
def V.relab (d : Nat) : V → V
  | .sl e sh (some _) xs => .sl e sh (some d) xs
  | .tup vs => .tup (relabL d true vs)
  | v => v

section
variable {α : Type}

def altK (i : Int) (K : V → Option α) : Nat → List V → Option α
  | _, [] => none
  | j, v :: l => sel (ieq i (j : Int)) (K v) (altK i K (j + 1) l)

abbrev Caller (α : Type) := Nat → List V → (V → Option α) → Option α

def effK (call : Caller α) (s : St) (d : Option Nat) (eff : Eff) (K : St → Option α) : Option α :=
  match eff with
  | .val v => K (s.put d v)
  | .newSl e sh xs => K (s.put d (.sl e sh none xs))
  | .own e sh xs => match d with
    | some d => bif s.noLabel d then K (s.put (some d) (.sl e sh (some d) xs)) else none
    | none => none
  | .app L e sh xs => match d with
    | some d => bif (s.kill L).noLabel d then K ((s.kill L).put (some d) (.sl e sh (some d) xs)) else none
    | none => none
  | .newBox _ cs => match d with
    | some d => bif s.noBox d && cs.all (fun v => bnot (v.hasBox d)) then K ⟨s.fr.set d (.box d 0), (d, cs) :: s.bx⟩ else none
    | none => none
  | .put k off cs => match lookBx s.bx k with
    | some old => K (St.put ⟨s.fr, setBx s.bx k (over old off cs)⟩ d (.tup []))
    | none => none
  | .call f args => match d with
    | some d => bif s.noLabel d then call f args (fun r => K (s.put (some d) (r.relab d))) else none
    | none => call f args fun _ => K s
  | .pick b x y => sel b (K (s.put d x)) (K (s.put d y))
  | .alts i vs => altK i (fun v => K (s.put d v)) 0 vs

/-- Effects that a region which draws its order may not have. -/
def effBad : Eff → Bool
  | .put _ _ _ => true
  | .app _ _ _ _ => true
  | _ => false

/-- dr: the boxes that stood before, in a region that draws its order. -/
def evOp (E : Env) (call : Caller α) (dr : Option (List (Nat × List V))) (o : Oper) (s : St) (K : St → Option α) : Option α :=
  match opR E s.fr (match dr with | some b => b | none => s.bx) o with
  | none => none
  | some (c, eff) => bif dr.isSome && effBad eff then none else sel c (effK call s o.dst eff K) none

def guardV (ops : List Oper) (s : St) (o : Oper) (j : Nat) (want : Bool) (yes no : St → Option α) : Option α :=
  match ops[j]? with
  | none => none
  | some oj => match oj.dst with
    | none => none
    | some d => match slot s.fr d with
      | .bool b => sel b ((match want with | true => yes | false => no) ⟨s.fr.set d (.bool true), s.bx⟩) ((match want with | true => no | false => yes) ⟨s.fr.set d (.bool false), s.bx⟩)
      | .tup [] => no s
      | _ => none

/-- A list's spine, made plain before it is used: nothing but speed. -/
def forceL {β : Type} : List V → (List V → β) → β
  | [], k => k []
  | v :: l, k => forceL l fun l => k (v :: l)
def pf (K : St → Option α) (s : St) : Option α := forceL s.fr fun fr => K ⟨fr, s.bx⟩

/-- The operations in the text's order; drawn: loads see the boxes that stood before. -/
def evOps (E : Env) (call : Caller α) (ops : List Oper) (bx : Option (List (Nat × List V))) : List Oper → St → (St → Option α) → Option α
  | [], s, K => K s
  | o :: l, s, K =>
    match o.guard with
    | none => evOp E call bx o s (pf fun s => evOps E call ops bx l s K)
    | some (j, want) => guardV ops s o j want (pf fun s => evOp E call bx o s (pf fun s => evOps E call ops bx l s K))
        (pf fun s => pf (fun s => evOps E call ops bx l s K) (s.put o.dst (.tup [])))

/-- Which tmps are read. -/
def tmpsOf (l : List Operand) : List Nat := l.filterMap fun | .tmp t => some t | _ => none
def readsO (o : Oper) : List Nat := tmpsOf o.op.operands.toList
def rdC : Code → List Nat
  | .region _ ops _ => ops.toList.flatMap readsO
  | .seq a b => rdC a ++ rdC b
  | .cond c a b => tmpsOf [c] ++ rdC a ++ rdC b
  | .block _ b => rdC b
  | .loop b => rdC b
  | .scope b => rdC b
  | .rangeFunc f _ a b => tmpsOf [f] ++ rdC a ++ rdC b
  | _ => []
def wrC : Code → List Nat
  | .region _ ops _ => ops.toList.filterMap (·.dst)
  | .seq a b => wrC a ++ wrC b
  | .cond _ a b => wrC a ++ wrC b
  | .block _ b => wrC b
  | .loop b => wrC b
  | .scope b => wrC b
  | .rangeFunc _ ps a b => ps.toList ++ wrC a ++ wrC b
  | _ => []
def exOps : List Oper → List Nat → List Nat × List Nat
  | [], W => ([], W)
  | o :: l, W => let r := exOps l (o.dst.toList ++ W); ((readsO o).filter (fun t => !W.contains t) ++ r.1, r.2)
def exC : Code → List Nat → List Nat × List Nat
  | .region _ ops _, W => exOps ops.toList W
  | .seq a b, W => let x := exC a W; let y := exC b x.2; (x.1 ++ y.1, y.2)
  | .cond c a b, W => let x := exC a W; let y := exC b W; ((tmpsOf [c]).filter (fun t => !W.contains t) ++ x.1 ++ y.1, x.2.filter y.2.contains)
  | .block _ b, W => ((exC b W).1, W)
  | .loop b, W => ((exC b W).1, W)
  | .scope b, W => ((exC b W).1, W)
  | .rangeFunc f _ a b, W => ((tmpsOf [f]) ++ (exC a W).1 ++ (exC b W).1, W)
  | _, W => ([], W)
/-- Slots that an operation takes from another region. -/
def uncOps : List Oper → List Nat → List Nat
  | [], _ => []
  | o :: l, W => (readsO o).filter (fun t => !W.contains t) ++ uncOps l (o.dst.toList ++ W)
def uncC : Code → List Nat
  | .region _ ops _ => uncOps ops.toList []
  | .seq a b => uncC a ++ uncC b
  | .cond _ a b => uncC a ++ uncC b
  | .block _ b => uncC b
  | .loop b => uncC b
  | .scope b => uncC b
  | .rangeFunc f _ a b => tmpsOf [f] ++ uncC a ++ uncC b
  | _ => []
/-- The slots that a loop's head forgets: those that live in one region; those that are written in the body, not taken from an earlier round, and not read elsewhere. tot: all reads of the function, unc: those from another region. -/
def maskOf (tot unc : List Nat) (n : Nat) (body : Code) : List Nat :=
  let rd := rdC body
  let ex := (exC body []).1
  let wr := wrC body
  (List.range n).filter fun t => !unc.contains t || (wr.contains t && !ex.contains t && tot.count t == rd.count t)

def canonV (L i : Nat) : V → V
  | .sl e sh (some L') xs => bif L == L' then .sl e sh (some i) xs else .sl e sh (some L') xs
  | v => v
def V.canon (L i : Nat) : V → V
  | .tup vs => .tup (vs.map (canonV L i))
  | .fn f vs => .fn f (vs.map (canonV L i))
  | v => canonV L i v
def St.canon (s : St) (L i : Nat) : St := ⟨s.fr.map (V.canon L i), s.bx.map fun (k, cs) => (k, cs.map (V.canon L i))⟩
/-- Labels get the number of the first slot that bears them. -/
def canonFrom : List V → Nat → List Nat → St → St
  | [], _, _, s => s
  | .sl _ _ (some L) _ :: l, i, done, s => bif done.contains L || L == i then canonFrom l (i + 1) (L :: done) s else
      bif s.noLabel i then canonFrom l (i + 1) (L :: done) (s.canon L i) else canonFrom l (i + 1) (L :: done) s
  | _ :: l, i, done, s => canonFrom l (i + 1) done s
def maskFr (mask : List Nat) : List V → Nat → List V
  | [], _ => []
  | v :: l, i => (bif mask.contains i then .any else v) :: maskFr mask l (i + 1)
def headSt (mask : List Nat) (s : St) : St :=
  let fr := maskFr mask s.fr 0
  canonFrom fr 0 [] ⟨fr, s.bx.filter fun (k, _) => !mask.contains k⟩

inductive Ex where
  | norm | exit (id : Nat) | ret

def seqK (b : Code) (K : Ex → St → Option α) (next : St → Option α) : Ex → St → Option α
  | .norm, s => next s
  | e, s => K e s
def blockK (id : Nat) (K : Ex → St → Option α) : Ex → St → Option α
  | .exit i, s => bif i == id then K .norm s else K (.exit i) s
  | e, s => K e s

/-- A region that draws its order may be taken in the text's order. -/
def drawOk (n : Nat) (ops : List Oper) : Bool :=
  let idx := ops.zipIdx
  idx.all fun (o, i) =>
    (match o.dst with | some d => Nat.blt d n | none => false) &&
    idx.all (fun (o', j) => i == j || o.dst != o'.dst) &&
    o.after.toList.all (fun e => !Region.binds .any e || Nat.blt e.on i) &&
    (readsO o).all (fun t => idx.all fun (o', j) => o'.dst != some t || (Nat.blt j i && o.after.toList.any fun e => Region.binds .any e && e.on == j)) &&
    (match o.guard with | none => true | some (j, _) => Nat.blt j i && o.after.toList.any fun e => Region.binds .any e && e.on == j)

/-- Operation j waits for operation i. -/
def waits (ops : List Oper) : Nat → Nat → Nat → Bool
  | 0, _, _ => false
  | n + 1, j, i => match ops[j]? with
    | some o => o.after.toList.any fun e => Region.binds .any e && (e.on == i || waits ops n e.on i)
    | none => false

def drawStart (ops : List Oper) (s : St) : Bool := ops.all fun o => match o.dst with | some d => s.noLabel d && s.noBox d | none => false
def drawEnd (ops : List Oper) (s : St) : Bool :=
  let idx := ops.zipIdx
  idx.all (fun (oi, i) => match oi.dst with
    | none => false
    | some di => idx.all (fun (oj, j) => match oj.dst with
        | none => false
        | some dj => i == j || (bnot ((slot s.fr dj).hasLabel di) && bnot ((slot s.fr dj).hasBox di)) || waits ops ops.length j i) &&
      s.bx.all fun (k, cs) => (cs.all fun v => bnot (v.hasLabel di) && bnot (v.hasBox di)) || idx.any fun (oj, j) => oj.dst == some k && waits ops ops.length j i)

/-- What a region that draws may not do: labels that stood before, boxes that stood before. -/
def loopK (b : Code) (body : St → (Ex → St → Option α) → Option α) (mask : List Nat) (K : Ex → St → Option α) : Nat → St → Option α
  | 0, _ => none
  | n + 1, s => body s fun e s' => match e with
    | .norm => pf (loopK b body mask K n) (headSt mask s')
    | e => K e s'

/-- The function's reads. -/
structure Rd where
  tot : List Nat
  unc : List Nat

def ev (E : Env) (call : Caller α) (rd : Rd) (fuel : Nat) : Code → St → (Ex → St → Option α) → Option α
  | .skip, s, K => K .norm s
  | .region _ ops false, s, K => evOps E call ops.toList none ops.toList s fun s => K .norm s
  | .region _ ops true, s, K => bif drawOk s.fr.length ops.toList && drawStart ops.toList s then evOps E call ops.toList (some s.bx) ops.toList s fun s' => bif drawEnd ops.toList s' then K .norm s' else none else none
  | .seq a b, s, K => ev E call rd fuel a s (seqK b K fun s => ev E call rd fuel b s K)
  | .cond c a b, s, K => match evalO E s.fr c with
    | .bool t => sel t (ev E call rd fuel a s K) (ev E call rd fuel b s K)
    | _ => none
  | .block id b, s, K => ev E call rd fuel b s (blockK id K)
  | .loop b, s, K => loopK b (fun s K => ev E call rd fuel b s K) (maskOf rd.tot rd.unc s.fr.length b) K fuel (headSt (maskOf rd.tot rd.unc s.fr.length b) s)
  | .exit id, s, K => K (.exit id) s
  | .label _, s, K => K .norm s
  | .ret, s, K => K .ret s
  | _, _, _ => none

/-- A loop's continuation within its body. -/
def loopC (b : Code) (body : St → (Ex → St → Option α) → Option α) (mask : List Nat) (K : Ex → St → Option α) (n : Nat) : Ex → St → Option α
  | .norm, s => pf (loopK b body mask K n) (headSt mask s)
  | e, s => K e s

/-- The code at a place. -/
def cAt : List Nat → Code → Code
  | [], c => c
  | i :: p, c => match c with
    | .seq a b => cAt p (match i with | 0 => a | _ => b)
    | .cond _ a b => cAt p (match i with | 0 => a | _ => b)
    | .block _ b => cAt p b
    | .loop b => cAt p b
    | .scope b => cAt p b
    | c => c

/-- What follows a place; ns: how many rounds each loop around it has left. -/
def ctxK (E : Env) (call : Caller α) (rd : Rd) (fuel nt : Nat) : List Nat → Code → List Nat → (Ex → St → Option α) → (Ex → St → Option α)
  | [], _, _, K => K
  | i :: p, c, ns, K => match c with
    | .seq a b => match i with
      | 0 => ctxK E call rd fuel nt p a ns (seqK b K fun s => ev E call rd fuel b s K)
      | _ => ctxK E call rd fuel nt p b ns K
    | .cond _ a b => ctxK E call rd fuel nt p (match i with | 0 => a | _ => b) ns K
    | .block id b => ctxK E call rd fuel nt p b ns (blockK id K)
    | .loop b => match ns with
      | n :: ns => ctxK E call rd fuel nt p b ns (loopC b (fun s K => ev E call rd fuel b s K) (maskOf rd.tot rd.unc nt b) K n)
      | [] => K
    | _ => K

def resSlots (fn : Func) : List Nat := fn.results.toList.map fun | .tmp t => t | .cell a _ => a

/-- Results. -/
def resAt (P : Program) (s : St) : ResultVar → Option V
  | .tmp t => match slot s.fr t with
    | .sl e sh o xs => some (.sl e sh o xs)
    | v => v.deep
  | .cell a t => match slot s.fr a with
    | .box k off => match lookBx s.bx k with
      | some cells => match isAggT P t with
        | some true => match sizeT P t with
          | some n => match readBx cells off n with
            | some cs => some (.agg cs)
            | none => none
          | none => none
        | some false => bif Nat.blt off cells.length then (cells.getD off .any).deep else none
        | none => none
      | none => none
    | _ => none
def resOf (P : Program) (s : St) : List ResultVar → Option (List V)
  | [] => some []
  | x :: l => match resAt P s x with
    | none => none
    | some v => match resOf P s l with
      | none => none
      | some r => some (v :: r)
def retOf : List V → V
  | [v] => v
  | vs => .tup (relabL 0 true vs)

def finK (P : Program) (fn : Func) (K : V → Option α) : Ex → St → Option α
  | .norm, s => match resOf P s fn.results.toList with | some vs => K (retOf vs) | none => none
  | .ret, s => match resOf P s fn.results.toList with | some vs => K (retOf vs) | none => none
  | _, _ => none

abbrev FSpec := List V → Option (Bool × V)
/-- The reads of a function. -/
def rdOf (fn : Func) (c : Code) : Rd := ⟨resSlots fn ++ rdC c, resSlots fn ++ uncC c⟩
def findSpec : List (Nat × FSpec) → Nat → Option FSpec
  | [], _ => none
  | (f, s) :: l, g => bif f == g then some s else findSpec l g

/-- The body of a function: its code, the frame at its start. -/
def startFr (fn : Func) (args : List V) : List V := args ++ List.replicate (fn.ntmps - args.length) (.tup [])

/-- A function by its body. -/
def evBd (E : Env) (call : Caller α) (fuel : Nat) : Caller α := fun f args K =>
  match E.P.funcs[f]? with
  | none => none
  | some fn => match fn.body, V.deepL args with
    | some c, some args => ev E call (rdOf fn c) fuel c ⟨startFr fn args, []⟩ (finK E.P fn K)
    | _, _ => none

def evFn (E : Env) (specs : List (Nat × FSpec)) (fuel : Nat) : Nat → Caller α
  | 0, f, args, K => match findSpec specs f with
    | some sp => match sp args with | some (c, r) => sel c (K r) none | none => none
    | none => none
  | d + 1, f, args, K => match findSpec specs f with
    | some sp => match sp args with | some (c, r) => sel c (K r) none | none => none
    | none => evBd E (evFn E specs fuel d) fuel f args K

/-- A loop of a function: its place p, the rounds left in the loops around it, and in itself. -/
def loopAt (E : Env) (specs : List (Nat × FSpec)) (fuel d f : Nat) (p : List Nat) (ns : List Nat) (K : V → Option α) (n : Nat) (s : St) : Option α :=
  match E.P.funcs[f]? with
  | none => none
  | some fn => match fn.body with
    | none => none
    | some c => match cAt p c with
      | .loop b => loopK b (fun s K => ev E (evFn E specs fuel d) (rdOf fn c) fuel b s K) (maskOf (rdOf fn c).tot (rdOf fn c).unc fn.ntmps b) (ctxK E (evFn E specs fuel d) (rdOf fn c) fuel fn.ntmps p c ns (finK E.P fn K)) n s
      | _ => none

def atSlot : List (Nat × V) → Nat → V
  | [], _ => .any
  | (i, v) :: l, j => bif i == j then v else atSlot l j
def mkSt (n : Nat) (l : List (Nat × V)) (bx : List (Nat × List V)) : St := ⟨(List.range n).map (atSlot l), bx⟩
end
end Nt.Ev
