/-
  An evaluator of Go code over plain values (no world): integers, strings as byte lists, slices as lists. Its answers are proved right in a text of their own. What the evaluator's values stand for in a world: the known rows of memory, the labelled slices that the call owns, its boxes. Each operation that the evaluator takes does in the model what the evaluator says. The evaluator's operations, continued: cells, rows, fields. The evaluator's operations, continued: rows of elements, strings, new blocks. The evaluator's operations, continued: indexes, slices, lengths, boxes. More operations: structs held against each other, places of arrays that are told by a number, min and max. The evaluator's operations, the last: what makes or writes memory; all of them together. The evaluator's operations, all of them. append, conversions, calls; and all operations together. All operations together.
-/
import Derived.WalkKit
import Derived.LoopN
import Derived.Orders
import Derived.Laws.AppendOwn
import Derived.Deep.MidRow
import Derived.Great.BuildSlice
import Derived.Laws.MakeOwn
import Derived.Laws.BytesString
import Derived.Laws.StructEq
import Derived.ChangeKeysEq
import Derived.Lib.AppendStr
set_option linter.unusedVariables false
set_option linter.unusedSimpArgs false
set_option linter.unusedSectionVars false
namespace Nt.Ev
open Go
inductive Kd where
  | bool | int (k : IntKind) | str | sl (e : Nat) (sh : List Kd) | oth
mutual
def Kd.eq : Kd → Kd → Bool
  | .bool, .bool => true
  | .int k, .int k' => k == k'
  | .str, .str => true
  | .sl e sh, .sl e' sh' => e == e' && Kd.eqL sh sh'
  | _, _ => false
def Kd.eqL : List Kd → List Kd → Bool
  | [], [] => true
  | a :: l, b :: m => Kd.eq a b && Kd.eqL l m
  | _, _ => false
end
inductive V where
  | any
  | bool (b : Bool)
  | int (k : IntKind) (n : Int)
  | str (l : List UInt8)
  | agg (cs : List V)
  | tup (vs : List V)
  | nilsl
  | sl (e : Nat) (sh : List Kd) (o : Option Nat) (xs : List V)
  | rptr (sh : List Kd) (x : V) (off : Nat)
  | box (k off : Nat)
  | eptr (L e : Nat) (sh : List Kd) (xs : List V) (i : Int) (off : Nat)
  | fn (f : Nat) (caps : List V)
  | nilif
  | nilp
  | iface (t : Nat) (x : V)
  | bxa (off : Nat) (cs : List V)
  | out (pan : Bool) (x : V) (bs : List (List V))
  | cho (b : Bool) (x y : V)
  | old (x : V)
  deriving Inhabited
def HL : Nat := 1000000000
def sel {α : Type} (c : Bool) (a b : α) : α := match c with | true => a | false => b
def iadd (k : IntKind) (a b : Int) : Int := k.wrap (a + b)
def isub (k : IntKind) (a b : Int) : Int := k.wrap (a - b)
def imul (k : IntKind) (a b : Int) : Int := k.wrap (a * b)
def iquo (k : IntKind) (a b : Int) : Int := k.wrap (a.tdiv b)
def irem (a b : Int) : Int := a.tmod b
def icnv (k : IntKind) (n : Int) : Int := k.wrap n
def ibits (op : BinOp) (k : IntKind) (x y : Int) : Int :=
  match op with
  | .and => k.wrap (BitVec.ofInt k.bits x &&& BitVec.ofInt k.bits y).toNat
  | .or => k.wrap (BitVec.ofInt k.bits x ||| BitVec.ofInt k.bits y).toNat
  | .xor => k.wrap (BitVec.ofInt k.bits x ^^^ BitVec.ofInt k.bits y).toNat
  | _ => k.wrap (BitVec.ofInt k.bits x &&& ~~~BitVec.ofInt k.bits y).toNat
def ishl (k : IntKind) (x y : Int) : Int := k.wrap (x * 2 ^ (min y.toNat k.bits))
def ishr (k : IntKind) (x y : Int) : Int := x.fdiv (2 ^ (min y.toNat k.bits))
def imin (a b : Int) : Int := min a b
def imax (a b : Int) : Int := max a b
def ilt (a b : Int) : Bool := decide (a < b)
def ile (a b : Int) : Bool := decide (a ≤ b)
def ieq (a b : Int) : Bool := a == b
def nle (a b : Nat) : Bool := decide (a ≤ b)
def okCat (a b : List UInt8) : Bool := nle (a.length + b.length) 1152921504606846976
def okStr (a : List UInt8) : Bool := nle a.length 1152921504606846976
def bnot (a : Bool) : Bool := !a
def beq (a b : Bool) : Bool := a == b
def band (a b : Bool) : Bool := match a with | true => b | false => false
def slen (l : List UInt8) : Int := (l.length : Int)
def sat (l : List UInt8) (i : Int) : Int := ((l.getD i.toNat 0).toNat : Int)
def ssub (l : List UInt8) (a b : Int) : List UInt8 := (l.drop a.toNat).take (b.toNat - a.toNat)
def scat (a b : List UInt8) : List UInt8 := a ++ b
def seq (a b : List UInt8) : Bool := a == b
def slt (a b : List UInt8) : Bool := Op.bytesLess a b
def llen (xs : List V) : Int := (xs.length : Int)
def lget (xs : List V) (i : Int) : V := xs.getD i.toNat .any
def lsub (xs : List V) (a b : Int) : List V := (xs.drop a.toNat).take (b.toNat - a.toNat)
def lset (xs : List V) (i : Int) (v : V) : List V := xs.set i.toNat v
def lcat (xs ys : List V) : List V := xs ++ ys
def okApp (xs ys : List V) : Bool := nle (xs.length + ys.length) 16777216
def okNew (ys : List V) : Bool := nle ys.length 16777216
def lrep (n : Int) (x : V) : List V := List.replicate n.toNat x
def bytesV (l : List UInt8) : List V := l.map fun c => .int .u8 (c.toNat : Int)
def asStr : V → List UInt8 | .str l => l | _ => []
def asInt : V → Int | .int _ n => n | _ => 0
def asBool : V → Bool | .bool b => b | _ => false
def asL : V → List V | .sl _ _ _ xs => xs | _ => []
def acell (x : V) (j : Nat) : V := match x with | .agg cs => cs.getD j .any | x => x
def vbytes (xs : List V) : List UInt8 := xs.map fun v => UInt8.ofNat (asInt (acell v 0)).toNat
def eta : Kd → V → V
  | .bool, x => .bool (asBool x)
  | .int k, x => .int k (asInt x)
  | .str, x => .str (asStr x)
  | .sl e sh, x => .sl e sh none (asL x)
  | .oth, x => x
def V.cells : V → List V
  | .agg cs => cs
  | v => [v]
def V.deep : V → Option V
  | .sl e sh _ xs => some (.sl e sh none xs)
  | .bool b => some (.bool b)
  | .int k n => some (.int k n)
  | .str l => some (.str l)
  | .agg cs => some (.agg cs)
  | .nilsl => some .nilsl
  | .rptr sh x off => some (.rptr sh x off)
  | .nilif => some .nilif
  | .nilp => some .nilp
  | .iface t x => some (.iface t x)
  | .fn f [] => some (.fn f [])
  | _ => none
def V.isOld : V → Bool
  | .old _ => true
  | _ => false
def V.unOld : V → V
  | .old x => x
  | v => v
def V.oldable : V → Bool
  | .sl _ _ none _ => true
  | .agg _ => true
  | .rptr _ _ _ => true
  | .iface _ _ => true
  | _ => false
def V.single : V → Bool
  | .tup _ => false
  | .fn _ _ => false
  | _ => true
def V.one : V → Bool
  | .bool _ => true
  | .int _ _ => true
  | .str _ => true
  | .nilsl => true
  | .sl _ _ none _ => true
  | .rptr _ _ _ => true
  | .nilif => true
  | .nilp => true
  | .iface _ _ => true
  | _ => false
def ARR : Nat := 1000000
def boxCells : V → Option (List V)
  | .eptr _ _ _ _ _ _ => none
  | .agg cs => bif cs.all V.one then some cs else none
  | .fn f c => bif Nat.blt f ARR then some [.fn f c] else none
  | .any => none
  | .tup _ => none
  | .bxa _ _ => none
  | .out _ _ _ => none
  | .cho _ _ _ => none
  | .old _ => none
  | v => some [v]
def V.deepL : List V → Option (List V)
  | [] => some []
  | v :: l => match v.deep, V.deepL l with
    | some v, some l => some (v :: l)
    | _, _ => none
def fits : Kd → V → Bool
  | .bool, .bool _ => true
  | .int k, .int k' _ => k == k'
  | .str, .str _ => true
  | .sl e sh, .sl e' sh' _ _ => e == e' && Kd.eqL sh sh'
  | .sl _ _, .nilsl => true
  | _, _ => false
def flatK : Kd → Bool
  | .bool => true
  | .int _ => true
  | .str => true
  | _ => false
def fitsL : List Kd → List V → Bool
  | [], [] => true
  | k :: l, v :: m => band (fits k v) (fitsL l m)
  | _, _ => false
def fitsE (sh : List Kd) (v : V) : Bool := fitsL sh v.cells
def aset (x : V) (off : Nat) (v : V) : V := .agg (x.cells.set off v)
def fset (sh : List Kd) (x : V) (off : Nat) (v : V) : V := match sh with
  | [_] => v
  | _ => aset x off v
def fitAt (sh : List Kd) (off : Nat) (v : V) : Bool := match sh[off]? with
  | some k => fits k v
  | none => false
def okSet (sh : List Kd) (off : Nat) (v : V) : Bool := sh.all flatK && fitAt sh off v
def fitsAll (sh : List Kd) : List V → Bool
  | [] => true
  | v :: l => band (fitsE sh v) (fitsAll sh l)
def absC : Value → V
  | .bool b => .bool b
  | .int k n => .int k n
  | .string s => .str s.data.toList
  | .slice none 0 0 => .nilsl
  | .nilIface => .nilif
  | .pointer none => .nilp
  | _ => .any
def absV : Value → V
  | .agg cs => .agg (cs.toList.map absC)
  | v => absC v
structure St where
  fr : List V
  bx : List (Nat × List V)
structure Env where
  P : Program
  glob : Nat → Option V
def slot (fr : List V) (t : Nat) : V := fr.getD t .any
def evalO (E : Env) (fr : List V) : Operand → V
  | .tmp t => slot fr t
  | .const v => absV v
  | .global g => match E.glob g with | some v => v | none => .any
  | .func f => .fn f []
def sizeT (P : Program) (t : TypeId) : Option Nat := match P.info? t with | some i => some i.size | none => none
def isAggT (P : Program) (t : TypeId) : Option Bool :=
  match P.underlying t with
  | some (.struct _) => some true
  | some (.array _ _) => some true
  | some _ => some false
  | none => none
def elemT (P : Program) (t : TypeId) : Option TypeId := match P.underlying t with | some (.slice e) => some e | _ => none
def shapeT (P : Program) : Nat → TypeId → List Kd
  | 0, _ => [.oth]
  | n + 1, t => match P.underlying t with
    | some .bool => [.bool]
    | some (.int k) => [.int k]
    | some .string => [.str]
    | some (.slice e) => [.sl e (shapeT P n e)]
    | some (.struct fs) => fs.toList.flatMap fun f => shapeT P n f.type
    | some (.array k e) => (List.replicate k (shapeT P n e)).flatten
    | _ => [.oth]
def zeroT (P : Program) (t : TypeId) : Option V := match P.info? t with | some i => (match i.zero with | some z => (absV z).deep | none => none) | none => none
def elemOf (P : Program) (t : TypeId) : Option (TypeId × List Kd × V) :=
  match elemT P t with
  | none => none
  | some e =>
    match P.info? e with
    | none => none
    | some i =>
      match i.zero with
      | none => none
      | some z =>
        let sh := shapeT P 8 e
        bif i.size == sh.length && Nat.blt 0 i.size && z.cells.size == i.size && Nat.ble i.bytes 8388608 && fitsE sh (absV z) then some (e, sh, absV z) else none
inductive Eff where
  | val (v : V)
  | own (e : Nat) (sh : List Kd) (xs : List V)
  | newSl (e : Nat) (sh : List Kd) (xs : List V)
  | newBox (e : Nat) (cells : List V)
  | put (k off : Nat) (cells : List V)
  | app (L : Nat) (e : Nat) (sh : List Kd) (xs : List V)
  | call (f : Nat) (args : List V) (mb ml : List (Nat × Nat))
  | pan (v : V)
  | pick (b : Bool) (x y : V)
  | alts (i : Int) (vs : List V)
  | lput (L e : Nat) (sh : List Kd) (ys : List V)
abbrev Res := Option (Bool × Eff)
def ok (v : V) : Res := some (true, .val v)
def intV (op : BinOp) (k : IntKind) (a b : Int) : Option (Bool × V) :=
  match op with
  | .add => some (true, .int k (iadd k a b))
  | .sub => some (true, .int k (isub k a b))
  | .mul => some (true, .int k (imul k a b))
  | .quo => some (bnot (ieq b 0), .int k (iquo k a b))
  | .rem => some (bnot (ieq b 0), .int k (irem a b))
  | .and => some (true, .int k (ibits .and k a b))
  | .or => some (true, .int k (ibits .or k a b))
  | .xor => some (true, .int k (ibits .xor k a b))
  | .andNot => some (true, .int k (ibits .andNot k a b))
  | .eql => some (true, .bool (ieq a b))
  | .neq => some (true, .bool (bnot (ieq a b)))
  | .lss => some (true, .bool (ilt a b))
  | .leq => some (true, .bool (ile a b))
  | .gtr => some (true, .bool (ilt b a))
  | .geq => some (true, .bool (ile b a))
  | _ => none
def strV (op : BinOp) (a b : List UInt8) : Option (Bool × V) :=
  match op with
  | .add => some (okCat a b, .str (scat a b))
  | .eql => some (true, .bool (seq a b))
  | .neq => some (true, .bool (bnot (seq a b)))
  | .lss => some (true, .bool (slt a b))
  | .geq => some (true, .bool (bnot (slt a b)))
  | .gtr => some (true, .bool (band (bnot (slt a b)) (bnot (seq a b))))
  | .leq => some (true, .bool (bnot (band (bnot (slt a b)) (bnot (seq a b)))))
  | _ => none
def binV (op : BinOp) (x y : V) : Option (Bool × V) :=
  match x, y with
  | .int k a, .int k' b =>
    match op with
    | .shl => some (ile 0 b, .int k (ishl k a b))
    | .shr => some (ile 0 b, .int k (ishr k a b))
    | _ => bif decide (k = k') then intV op k a b else none
  | .str a, .str b => strV op a b
  | .bool a, .bool b =>
    match op with
    | .eql => some (true, .bool (beq a b))
    | .neq => some (true, .bool (bnot (beq a b)))
    | _ => none
  | _, _ => none
def resV : Option (Bool × V) → Res
  | some (c, v) => some (c, .val v)
  | none => none
def boolOk (P : Program) (t : TypeId) : V → Bool
  | .bool _ => match P.underlying t with | some .bool => true | _ => false
  | _ => true
def allEq {α : Type} (f : α → Option Bool) : List α → Option Bool
  | [] => some true
  | [a] => f a
  | a :: l => match f a, allEq f l with
    | some p, some q => some (band p q)
    | _, _ => none
def eqT (P : Program) : Nat → TypeId → List V → List V → Option Bool
  | 0, _, _, _ => none
  | m + 1, t, xs, ys => match P.underlying t with
    | some .bool => match xs, ys with
      | [.bool a], [.bool b] => some (beq a b)
      | _, _ => none
    | some (.int _) => match xs, ys with
      | [.int k a], [.int k' b] => bif decide (k = k') then some (ieq a b) else none
      | _, _ => none
    | some .string => match xs, ys with
      | [.str a], [.str b] => some (seq a b)
      | _, _ => none
    | some (.struct fs) => bif P.stoodInHeld t then none else
      allEq (fun f => bif f.name == "_" then none else match sizeT P f.type with
        | some n => eqT P m f.type ((xs.drop f.offset).take n) ((ys.drop f.offset).take n)
        | none => none) fs.toList
    | some (.array k e) => match sizeT P e with
      | some n => allEq (fun i => eqT P m e ((xs.drop (i * n)).take n) ((ys.drop (i * n)).take n)) (List.range k)
      | none => none
    | _ => none
def binT (P : Program) (op : BinOp) (t : TypeId) (x y : V) : Res :=
  match x, y with
  | .agg as, .agg bs => bif P.eqGuardType P.depth t then none else
    match isAggT P t, op, eqT P 8 t as bs with
    | some true, .eql, some c => ok (.bool c)
    | some true, .neq, some c => ok (.bool (bnot c))
    | _, _, _ => none
  | x, y => bif boolOk P t x then resV (binV op x y) else none
def nilT (P : Program) (op : BinOp) (t : TypeId) (yc : Bool) (x y : V) : Res :=
  match op, yc, P.underlying t, x, y with
  | .eql, true, some (.interface _), .nilif, .nilif => ok (.bool true)
  | .eql, true, some (.interface _), .iface _ _, .nilif => ok (.bool false)
  | .neq, true, some (.interface _), .nilif, .nilif => ok (.bool false)
  | .neq, true, some (.interface _), .iface _ _, .nilif => ok (.bool true)
  | _, _, _, _, _ => none
def okTA : V → Bool
  | .bool _ => true
  | .int _ _ => true
  | .str _ => true
  | .agg _ => true
  | _ => false
def isNilC : Operand → Bool
  | .const .nilIface => true
  | _ => false
def fieldOf (P : Program) (t : TypeId) (f : Nat) : Option Field :=
  match P.underlying t with
  | some (.struct fs) => fs[f]?
  | _ => none
def over (cells : List V) (off : Nat) (new : List V) : List V := cells.take off ++ new ++ cells.drop (off + new.length)
def fillV (place : Nat → Option (Nat × Nat)) (cells : List V) : List (Nat × V) → Option (List V)
  | [] => some cells
  | (i, v) :: rest =>
    match place i, v.deep with
    | some (off, size), some v =>
      bif v.cells.length == size && Nat.ble (off + size) cells.length then fillV place (over cells off v.cells) rest else none
    | _, _ => none
def lookBx : List (Nat × List V) → Nat → Option (List V)
  | [], _ => none
  | (k, cs) :: l, j => bif k == j then some cs else lookBx l j
def setBx : List (Nat × List V) → Nat → List V → List (Nat × List V)
  | [], _, _ => []
  | (k, cs) :: l, j, ds => bif k == j then (k, ds) :: l else (k, cs) :: setBx l j ds
def cellOne : V → V
  | .agg _ => .any
  | .tup _ => .any
  | v => v
def chunks (agg : Bool) (sz : Nat) : Nat → List V → List V
  | 0, _ => []
  | n + 1, cs => (match agg with | true => V.agg (cs.take sz) | false => cellOne (cs.getD 0 .any)) :: chunks agg sz n (cs.drop sz)
def loadV (P : Program) (t : TypeId) (sh : List Kd) (x : V) (off : Nat) : Res :=
  match isAggT P t, sizeT P t with
  | some true, some n =>
    bif Nat.ble (off + n) sh.length then ok (.agg ((List.range n).map fun j => eta (sh.getD (off + j) .oth) (acell x (off + j)))) else none
  | some false, _ => bif Nat.blt off sh.length then ok (eta (sh.getD off .oth) (acell x off)) else none
  | _, _ => none
def partOf (P : Program) (t : TypeId) (cs : List V) (off : Nat) : Res :=
  match isAggT P t, sizeT P t with
  | some true, some n => bif Nat.ble (off + n) cs.length then ok (.agg ((cs.drop off).take n)) else none
  | some false, _ => bif Nat.blt off cs.length then (match (cs.getD off .any).deep with | some v => ok v | none => none) else none
  | _, _ => none
def indexV (P : Program) (t : TypeId) (x : V) (i : Int) : Res :=
  match x with
  | .str l => match P.underlying t with
    | some .string => some (band (ile 0 i) (ilt i (slen l)), .val (.int .u8 (sat l i)))
    | _ => none
  | _ => none
def indexAddrV (P : Program) (t : TypeId) (x : V) (i : Int) : Res :=
  match x with
  | .sl e' sh o xs => match elemT P t with
    | some e => match sizeT P e with
      | some n => bif n == sh.length then some (band (ile 0 i) (ilt i (llen xs)), .val (match o with | some L => .eptr L e' sh xs i 0 | none => .rptr sh (lget xs i) 0)) else none
      | none => none
    | none => none
  | .rptr sh (.agg cs) 0 => match P.underlying t with
    | some (.array n e) => match sizeT P e, isAggT P e with
      | some sz, some ag =>
        bif n * sz == cs.length && Nat.blt 0 sz && (ag || sz == 1) && fitsAll (sh.take sz) (chunks ag sz n cs) then
          some (band (ile 0 i) (ilt i n), .val (.rptr (sh.take sz) (lget (chunks ag sz n cs) i) 0)) else none
      | _, _ => none
    | _ => none
  | _ => none
def boxAddrV (P : Program) (t : TypeId) (k off : Nat) (i : Int) : Res :=
  match P.underlying t with
  | some (.array n e) => match sizeT P e with
    | some sz => bif Nat.blt 0 sz then some (true, .alts i ((List.range n).map fun j => .box k (off + j * sz))) else none
    | none => none
  | _ => none
def aggIndexV (P : Program) (t : TypeId) (cs : List V) (i : Int) : Res :=
  match P.underlying t with
  | some (.array n e) => match sizeT P e, isAggT P e with
    | some sz, some ag => bif n * sz == cs.length && Nat.blt 0 sz && (ag || sz == 1) && cs.all V.one then some (true, .alts i (chunks ag sz n cs)) else none
    | _, _ => none
  | _ => none
def sliceV (P : Program) (t : TypeId) (x : V) (lo hi : Option V) : Res :=
  match x with
  | .str l =>
    match P.underlying t, lo, hi with
    | some .string, some (.int _ a), some (.int _ b) => some (band (band (ile 0 b) (ile b (slen l))) (band (ile 0 a) (ile a b)), .val (.str (ssub l a b)))
    | some .string, none, some (.int _ b) => some (band (ile 0 b) (ile b (slen l)), .val (.str (ssub l 0 b)))
    | some .string, some (.int _ a), none => some (band (ile 0 a) (ile a (slen l)), .val (.str (ssub l a (slen l))))
    | some .string, none, none => ok (.str l)
    | _, _, _ => none
  | .sl e sh _ xs =>
    match elemT P t with
    | none => none
    | some e' => match sizeT P e' with
      | none => none
      | some n => bif n == sh.length then
          match lo, hi with
          | some (.int _ a), some (.int _ b) => some (band (band (ile 0 b) (ile b (llen xs))) (band (ile 0 a) (ile a b)), .val (.sl e sh none (lsub xs a b)))
          | none, some (.int _ b) => some (band (ile 0 b) (ile b (llen xs)), .val (.sl e sh none (lsub xs 0 b)))
          | some (.int _ a), none => some (band (ile 0 a) (ile a (llen xs)), .val (.sl e sh none (lsub xs a (llen xs))))
          | none, none => ok (.sl e sh none xs)
          | _, _ => none
        else none
  | .rptr sh (.agg cs) 0 =>
    match P.underlying t, lo, hi with
    | some (.array n e), none, none => match sizeT P e, isAggT P e with
      | some sz, some ag => bif n * sz == cs.length && Nat.blt 0 sz && Nat.blt 0 n && (ag || sz == 1) && fitsAll (sh.take sz) (chunks ag sz n cs) then ok (.sl e (sh.take sz) none (chunks ag sz n cs)) else none
      | _, _ => none
    | _, _, _ => none
  | _ => none
def lenV (P : Program) (t : TypeId) (x : V) : Res :=
  match P.underlying t, x with
  | some .string, .str l => ok (.int .i64 (slen l))
  | some (.slice _), .sl _ _ _ xs => ok (.int .i64 (llen xs))
  | some (.slice _), .nilsl => ok (.int .i64 0)
  | some (.array n _), _ => ok (.int .i64 (n : Int))
  | _, _ => none
def minmaxV (great : Bool) (x y : V) : Res :=
  match x, y with
  | .int k a, .int k' b => bif decide (k = k') then ok (.int k (match great with | true => imax a b | false => imin a b)) else none
  | _, _ => none
def tailV (sh : List Kd) : V → Option (List V)
  | .sl _ sh' _ ys => bif Kd.eqL sh sh' then some ys else none
  | .nilsl => some []
  | _ => none
def appendV (P : Program) (ts : List TypeId) (s x : V) : Res :=
  match ts with
  | [t, u] => match elemOf P t with
      | none => none
      | some (e, sh, _) =>
        bif t == u then
          match tailV sh x with
          | none => none
          | some ys =>
            match s with
            | .nilsl => some (okNew ys, .own e sh ys)
            | .sl e' sh' (some L) xs => bif e == e' && Kd.eqL sh sh' then some (okApp xs ys, .app L e sh (lcat xs ys)) else none
            | _ => none
        else match P.underlying u, sh, x with
          | some .string, [.int .u8], .str l =>
            match s with
            | .nilsl => some (okNew (bytesV l), .own e [.int .u8] (bytesV l))
            | .sl e' sh' (some L) xs => bif e == e' && Kd.eqL [.int .u8] sh' then some (okApp xs (bytesV l), .app L e [.int .u8] (lcat xs (bytesV l))) else none
            | _ => none
          | _, _, _ => none
  | _ => none
def makeV (P : Program) (t : TypeId) (l c : V) : Res :=
  match l, c, elemOf P t with
  | .int .i64 n, .int .i64 m, some (e, sh, z) => some (band (ile 0 n) (band (ile n m) (ile m 16777216)), .own e sh (lrep n z))
  | _, _, _ => none
def zerosV (z : V) (n sz : Nat) : List V := (List.range (n * sz)).map fun i => z.cells.getD (i % sz) .any
def buildSliceV (P : Program) (t : TypeId) (n : Nat) (parts : List (Nat × V)) : Res :=
  match elemOf P t with
  | some (e, sh, z) =>
    bif n == 0 then (match parts with | [] => some (true, .own e sh []) | _ => none) else
    match isAggT P e, fillV (fun i => some (i * sh.length, sh.length)) (zerosV z n sh.length) parts with
    | some ag, some cs =>
      bif (ag || sh.length == 1) && fitsAll sh (chunks ag sh.length n cs) && Nat.ble (n * sh.length) 16777216 then some (true, .own e sh (chunks ag sh.length n cs)) else none
    | _, _ => none
  | none => none
def placeV (P : Program) (fs : Array Field) (j : Nat) : Option (Nat × Nat) :=
  match fs[j]? with
  | some f => (match sizeT P f.type with | some n => some (f.offset, n) | none => none)
  | none => none
def buildV (P : Program) (t : TypeId) (parts : List (Nat × V)) : Res :=
  match P.info? t with
  | some i =>
    match i.zero, P.underlying t with
    | some (.agg z), some (.struct fs) =>
      match fillV (placeV P fs) (z.toList.map absC) parts with
      | some cs => bif fs.all (fun f => (sizeT P f.type).isSome) then ok (.agg cs) else none
      | none => none
    | some (.agg z), some (.array _ e) =>
      match sizeT P e with
      | some n => match fillV (fun i => some (i * n, n)) (z.toList.map absC) parts with
        | some cs => ok (.agg cs)
        | none => none
      | none => none
    | _, _ => none
  | none => none
def convV (P : Program) (src dst : TypeId) (x : V) : Res :=
  match P.underlying src, P.underlying dst, x with
  | some (.int _), some (.int k), .int _ n => ok (.int k (icnv k n))
  | some .string, some .string, .str l => ok (.str l)
  | some .string, some (.slice e), .str l => match P.underlying e with
    | some (.int .u8) => some (okStr l, .newSl e [.int .u8] (bytesV l))
    | _ => none
  | some (.slice e), some .string, .sl _ [.int .u8] _ xs => match P.underlying e with
    | some (.int .u8) => ok (.str (vbytes xs))
    | _ => none
  | some (.slice e), some .string, .nilsl => match P.underlying e with
    | some (.int .u8) => ok (.str [])
    | _ => none
  | _, _, _ => none
def readBx (cells : List V) (off n : Nat) : Option (List V) := bif Nat.ble (off + n) cells.length then V.deepL ((cells.drop off).take n) else none
def lk : List (Nat × Nat) → Nat → Option Nat
  | [], _ => none
  | (k, v) :: l, j => bif k == j then some v else lk l j
def nodupN : List Nat → Bool
  | [] => true
  | a :: l => bif l.contains a then false else nodupN l
def okHand (mb ml : List (Nat × Nat)) : Bool := nodupN (mb.map (·.1)) && nodupN (mb.map (·.2)) && nodupN (ml.map (·.1)) && nodupN (ml.map (·.2))
def renV (mb ml : List (Nat × Nat)) : V → V
  | .sl e sh (some L) xs => .sl e sh (lk ml L) xs
  | .eptr _ _ _ _ _ _ => .any
  | .box k off => match lk mb k with | some k' => .box k' off | none => .any
  | .fn f caps => match caps with | [] => .fn f [] | _ => .any
  | .old x => bif x.oldable then x else .any
  | v => v
def V.ren (mb ml : List (Nat × Nat)) : V → V
  | .tup vs => .tup (vs.map (renV mb ml))
  | v => renV mb ml v
def scanL (nm : Nat → Nat → Nat) : Nat → List V → List (Nat × Nat)
  | _, [] => []
  | i, .sl _ _ (some L) _ :: l => (L, nm L i) :: scanL nm (i + 1) l
  | i, _ :: l => scanL nm (i + 1) l
def HID : Nat := 1000000000000
def hidOf : List V → List V
  | [] => []
  | v :: l => (match v with
    | .fn _ caps => caps.filterMap fun c => match c with
      | .box k 0 => some (.box k HID)
      | _ => none
    | _ => []) ++ hidOf l
def isHid : V → Bool
  | .bxa off _ => off == HID
  | _ => false
def allBox (caps : List V) : Bool := caps.all fun c => match c with
  | .box _ 0 => true
  | _ => false
def handN (bx : List (Nat × List V)) (j : Nat) : V → List (Nat × Nat) × List (Nat × Nat)
  | .box k _ => match lookBx bx k with
    | some cs => ([(k, HL + j)], scanL (fun _ i => HL + 1000 * (j + 1) + 1 + i) 0 cs)
    | none => ([], [])
  | .sl _ _ (some L) _ => ([], [(L, HL + 1000 * (j + 1))])
  | _ => ([], [])
def handNs (bx : List (Nat × List V)) : Nat → List V → List (Nat × Nat) × List (Nat × Nat)
  | _, [] => ([], [])
  | j, v :: l => ((handN bx j v).1 ++ (handNs bx (j + 1) l).1, (handN bx j v).2 ++ (handNs bx (j + 1) l).2)
def handV (bx : List (Nat × List V)) (mb ml : List (Nat × Nat)) : V → Option V
  | .box k off => match lookBx bx k with
    | some cs => some (.bxa off (cs.map (V.ren mb ml)))
    | none => none
  | .sl e sh (some L) xs => some (renV mb ml (.sl e sh (some L) xs))
  | .fn f (c :: cs) => bif Nat.blt f ARR && allBox (c :: cs) then some (.fn f ((c :: cs).map (renV mb ml))) else none
  | v => v.deep
def handVs (bx : List (Nat × List V)) (mb ml : List (Nat × Nat)) : List V → Option (List V)
  | [] => some []
  | v :: l => match handV bx mb ml v, handVs bx mb ml l with
    | some v, some l => some (v :: l)
    | _, _ => none
def handOf1 (bx : List (Nat × List V)) (j : Nat) (vs : List V) : Option (List V × List (Nat × Nat) × List (Nat × Nat)) :=
  match handVs bx (handNs bx j vs).1 (handNs bx j vs).2 vs with
  | some args => some (args, (handNs bx j vs).1, (handNs bx j vs).2)
  | none => none
def isHidB : V → Bool
  | .box _ off => off == HID
  | _ => false
def handOf (bx : List (Nat × List V)) (j : Nat) (vs : List V) : Option (List V × List (Nat × Nat) × List (Nat × Nat)) := bif vs.any isHidB then none else handOf1 bx j (vs ++ hidOf vs)
def V.isBxa : V → Bool
  | .bxa _ _ => true
  | _ => false
def V.unl : V → V
  | .sl e sh _ xs => .sl e sh none xs
  | .old x => bif x.oldable then x else .any
  | v => v
def hasBxa (args : List V) : Bool := args.any V.isBxa
def V.handed : V → Bool
  | .bxa _ _ => true
  | .sl _ _ (some _) _ => true
  | _ => false
def handed (args : List V) : Bool := args.any V.handed
def frArg (j : Nat) : V → V
  | .bxa off _ => .box (HL + j) off
  | v => v
def frArgs : Nat → List V → List V
  | _, [] => []
  | j, v :: l => bif isHid v then frArgs (j + 1) l else frArg j v :: frArgs (j + 1) l
def bxArgs : Nat → List V → List (Nat × List V)
  | _, [] => []
  | j, .bxa _ cs :: l => (HL + j, cs) :: bxArgs (j + 1) l
  | j, _ :: l => bxArgs (j + 1) l
def bxOut : Nat → List V → List (List V) → List (Nat × List V)
  | _, [], _ => []
  | j, .bxa _ _ :: l, cs :: bs => (HL + j, cs) :: bxOut (j + 1) l bs
  | j, .bxa _ _ :: l, [] => bxOut (j + 1) l []
  | j, _ :: l, bs => bxOut (j + 1) l bs
def argV : V → Option V
  | .bxa off cs => some (.bxa off cs)
  | .sl e sh o xs => some (.sl e sh o xs)
  | .old x => bif x.oldable then some (.old x) else none
  | .fn f (c :: cs) => some (.fn f (c :: cs))
  | v => v.deep
def argVs : List V → Option (List V)
  | [] => some []
  | v :: l => match argV v, argVs l with
    | some v, some l => some (v :: l)
    | _, _ => none
def cells1 : V → List V
  | .tup vs => vs
  | v => [v]
def isBld : List V → Bool
  | .nilp :: _ :: _ => true
  | _ => false
def bldN (P : Program) : Nat → TypeId → Bool
  | 0, _ => false
  | k + 1, t => match P.info? t with
    | some i => (match P.underlying t with
      | some (.struct fs) => (match fs.toList with
        | a :: l => (a.name == "addr" && (match l with | [b] => b.name == "buf" | _ => false) && (match i.desc with | .named _ _ => true | _ => false)) || (a.offset == 0 && bldN P k a.type)
        | _ => false)
      | _ => false)
    | none => false
def isBldT (P : Program) (t : TypeId) (n : Nat) : Bool := match P.info? t with
  | some i => (match i.desc with | .named _ _ => true | _ => false) && (i.size == n && bldN P 4 t)
  | none => false
def hasBody (P : Program) (f : Nat) : Bool := match P.funcs[f]? with | some fn => fn.body.isSome | none => false
def flatD : V → Bool
  | .any => true
  | .bool _ => true
  | .int _ _ => true
  | .str _ => true
  | .nilsl => true
  | .nilif => true
  | .nilp => true
  | _ => false
def flatC : V → Bool
  | .sl _ sh (some _) _ => sh.all flatK
  | .eptr _ _ sh _ _ _ => sh.all flatK
  | .box _ _ => true
  | .old _ => true
  | v => flatD v
def V.flat : V → Bool
  | .tup vs => vs.all flatC
  | .fn _ vs => vs.all flatC
  | .agg cs => cs.all flatD
  | v => flatC v
def V.forget (v : V) : V := bif v.flat then v else .any
def St.noRef (s : St) : Bool := s.fr.all V.flat && s.bx.all fun (_, cs) => cs.all V.flat
def St.forget (s : St) : St := ⟨s.fr.map V.forget, s.bx.map fun (j, cs) => (j, cs.map V.forget)⟩
def seqI : Nat → List (Nat × V) → Bool
  | _, [] => true
  | k, p :: l => p.1 == k && seqI (k + 1) l
def isBoxV : V → Bool
  | .box _ _ => true
  | _ => false
def arrB (P : Program) (t : TypeId) (ps : List (Nat × V)) : Option (List V) := match P.info? t, P.underlying t with
  | some i, some (.array n e) => match i.zero, sizeT P e with
    | some (.agg z), some m => bif m == 1 && z.size == n && n == ps.length && Nat.blt 0 n && seqI 0 ps && ps.all (fun p => isBoxV p.2) then some (ps.map fun p => p.2) else none
    | _, _ => none
  | _, _ => none
def arrIndexV (P : Program) (t : TypeId) (vs : List V) (n : Int) : Res := match P.underlying t with
  | some (.array m e) => match sizeT P e, isAggT P e with
    | some k, some false => bif k == 1 && m == vs.length && Nat.blt 0 m then some (true, .alts n vs) else none
    | _, _ => none
  | _ => none
def opX (P : Program) (r : Operand → V) (bx : List (Nat × List V)) (o : Oper) : Res :=
  match o.op with
  | .move x => ok (r x)
  | .assign x => match r x with
    | .nilsl => match elemOf P o.type with
      | some (e, sh, _) => some (true, .own e sh [])
      | none => ok .nilsl
    | v => ok v
  | .pick c x y => match r c with
    | .bool b => some (true, .pick b (r x) (r y))
    | _ => none
  | .alloc t => match P.info? t with
    | some i => match i.zero with
      | some z => match boxCells (absV z) with
        | some cs => bif isBld cs && bnot (isBldT P t cs.length) then none else some (true, .newBox t cs)
        | none => none
      | none => none
    | none => none
  | .box t x => match boxCells (r x) with
    | some cs => bif isBld cs && bnot (isBldT P t cs.length) then none else some (true, .newBox t cs)
    | none => none
  | .build t parts => match arrB P t (parts.toList.map fun (i, x) => (i, r x)) with
    | some vs => ok (.fn ARR vs)
    | none => buildV P t (parts.toList.map fun (i, x) => (i, r x))
  | .buildSlice t n parts => buildSliceV P t n (parts.toList.map fun (i, x) => (i, r x))
  | .load t a => match r a with
    | .rptr sh x off => loadV P t sh x off
    | .eptr _ _ sh xs i off => loadV P t sh (lget xs i) off
    | .box k off => match lookBx bx k with
      | some cells => match isAggT P t, sizeT P t with
        | some true, some n => match readBx cells off n with
          | some cs => ok (.agg cs)
          | none => none
        | some false, _ => bif Nat.blt off cells.length then ok (cells.getD off .any) else none
        | _, _ => none
      | none => none
    | _ => none
  | .store t a x => match r a, boxCells (r x) with
    | .box k off, some vs => match lookBx bx k, sizeT P t with
      | some cells, some n => bif vs.length == n && Nat.ble (off + n) cells.length then some (true, .put k off vs) else none
      | _, _ => none
    | .eptr L e sh xs i off, some [v] => match isAggT P t, sizeT P t with
      | some false, some 1 => bif okSet sh off v then some (true, .lput L e sh (lset xs i (fset sh (lget xs i) off v))) else none
      | _, _ => none
    | _, _ => none
  | .nilCheck x => match r x with
    | .eptr L e sh xs i off => ok (.eptr L e sh xs i off)
    | .rptr sh v off => ok (.rptr sh v off)
    | .box k off => ok (.box k off)
    | _ => none
  | .binOp op t x y _ => match r x, r y with
    | .nilif, .nilif => nilT P op t (isNilC y) .nilif .nilif
    | .iface u v, .nilif => nilT P op t (isNilC y) (.iface u v) .nilif
    | x, y => binT P op t x y
  | .makeInterface t x => match P.underlying t, (r x).deep with
    | some (.interface _), _ => none
    | some _, some v => ok (.iface t v)
    | _, _ => none
  | .typeAssert x _ t true => match P.underlying t, zeroT P t with
    | some (.interface _), _ => none
    | some _, some z => match r x with
      | .nilif => ok (.tup [z, .bool false])
      | .iface u v => bif u == t then (bif okTA v then ok (.tup [v, .bool true]) else none) else ok (.tup [z, .bool false])
      | _ => none
    | _, _ => none
  | .panic x => match r x with
    | .iface t v => some (true, .pan (.iface t v))
    | _ => none
  | .unOp op _ x => match op, r x with
    | .not, .bool b => ok (.bool (bnot b))
    | .neg, .int k n => ok (.int k (isub k 0 n))
    | _, _ => none
  | .convert src dst x => convV P src dst (r x)
  | .makeFunc (.func f) first caps => bif (first.size == 0 && Nat.blt f ARR) && (caps.toList.map r).all V.single then ok (.fn f (caps.toList.map r)) else none
  | .makeSlice t l c => makeV P t (r l) (r c)
  | .slice t x lo hi none => sliceV P t (r x) (lo.map r) (hi.map r)
  | .fieldAddr t x f => match fieldOf P t f with
    | some f => match sizeT P f.type with
      | some 0 => none
      | some _ => match r x with
        | .rptr sh v off => ok (.rptr sh v (off + f.offset))
        | .eptr L e sh xs i off => ok (.eptr L e sh xs i (off + f.offset))
        | .box k off => ok (.box k (off + f.offset))
        | _ => none
      | none => none
    | none => none
  | .field t x f => match fieldOf P t f, r x with
    | some f, .agg cs => partOf P f.type cs f.offset
    | _, _ => none
  | .indexAddr t x i => match r i with
    | .int _ n => match r x with
      | .box k off => boxAddrV P t k off n
      | x => indexAddrV P t x n
    | _ => none
  | .index t x i => match r i with
    | .int _ n => match r x with
      | .agg cs => aggIndexV P t cs n
      | .fn f vs => bif f == ARR && vs.all isBoxV then arrIndexV P t vs n else none
      | x => indexV P t x n
    | _ => none
  | .extract x i => match r x with
    | .tup vs => bif Nat.blt i vs.length && (match vs.getD i .any with | .tup _ => false | .fn _ _ => false | _ => true) then ok (vs.getD i .any) else none
    | _ => none
  | .call c => match c.callee with
    | .value f => match r f with
      | .fn id caps => match handOf bx 0 (c.args.toList.map r ++ caps) with
        | some (args, mb, ml) => bif (hasBody P id && Nat.blt id ARR) && okHand mb ml then some (true, .call id args mb ml) else none
        | none => none
      | _ => none
    | .builtin .min => match c.args.toList with
      | [x, y] => minmaxV false (r x) (r y)
      | _ => none
    | .builtin .max => match c.args.toList with
      | [x, y] => minmaxV true (r x) (r y)
      | _ => none
    | .builtin .len => match c.argTypes.toList, c.args.toList with
      | [t], [x] => lenV P t (r x)
      | _, _ => none
    | .builtin .cap => match c.argTypes.toList, c.args.toList with
      | [t], [x] => (match P.underlying t, r x with
        | some (.slice _), .nilsl => ok (.int .i64 0)
        | _, _ => none)
      | _, _ => none
    | .builtin .append => match c.args.toList with
      | [s, x] => appendV P c.argTypes.toList (r s) (r x)
      | _ => none
    | _ => none
  | _ => none
def V.old0 : V → V
  | .old x => x
  | v => bif flatD v then v else .any
def opR (E : Env) (fr : List V) (bx : List (Nat × List V)) (o : Oper) : Res :=
  let r := evalO E fr
  bif o.op.operands.toList.any fun x => (r x).isOld then
    (match opX E.P (fun x => (r x).old0) [] o with
      | some (c, .val v) => bif v.oldable then some (c, .val (.old v)) else opX E.P (fun x => (r x).unOld) bx o
      | _ => opX E.P (fun x => (r x).unOld) bx o)
  else opX E.P r bx o
def killV (L : Nat) : V → V
  | .sl e sh (some L') xs => bif L == L' then .sl e sh none xs else .sl e sh (some L') xs
  | .eptr L' e sh xs i off => bif L == L' then .any else .eptr L' e sh xs i off
  | v => v
def V.kill (L : Nat) : V → V
  | .tup vs => .tup (vs.map (killV L))
  | .fn f vs => .fn f (vs.map (killV L))
  | v => killV L v
def St.kill (s : St) (L : Nat) : St := ⟨s.fr.map (V.kill L), s.bx.map fun (k, cs) => (k, cs.map (V.kill L))⟩
def hasLabelV (L : Nat) : V → Bool
  | .sl _ _ (some L') _ => L == L'
  | .eptr L' _ _ _ _ _ => L == L'
  | _ => false
def V.hasLabel (L : Nat) : V → Bool
  | .tup vs => vs.any (hasLabelV L)
  | .fn _ vs => vs.any (hasLabelV L)
  | v => hasLabelV L v
def St.noLabel (s : St) (L : Nat) : Bool := s.fr.all (fun v => bnot (v.hasLabel L)) && s.bx.all fun (_, cs) => cs.all fun v => bnot (v.hasLabel L)
def hasBoxV (k : Nat) : V → Bool
  | .box j _ => k == j
  | _ => false
def V.hasBox (k : Nat) : V → Bool
  | .tup vs => vs.any (hasBoxV k)
  | .fn _ vs => vs.any (hasBoxV k)
  | v => hasBoxV k v
def St.noBox (s : St) (k : Nat) : Bool := s.fr.all (fun v => bnot (v.hasBox k)) && s.bx.all fun (j, cs) => bnot (j == k) && cs.all fun v => bnot (v.hasBox k)
def updV (L e : Nat) (k : List Kd) (ys : List V) : V → V
  | .sl e' sh (some L') xs => bif L == L' then .sl e k (some L) ys else .sl e' sh (some L') xs
  | .eptr L' e' sh xs i off => bif L == L' then .eptr L e k ys i off else .eptr L' e' sh xs i off
  | v => v
def V.upd (L e : Nat) (k : List Kd) (ys : List V) : V → V
  | .tup vs => .tup (vs.map (updV L e k ys))
  | .fn f vs => .fn f (vs.map (updV L e k ys))
  | v => updV L e k ys v
def St.upd (s : St) (L e : Nat) (k : List Kd) (ys : List V) : St := ⟨s.fr.map (V.upd L e k ys), s.bx.map fun (j, cs) => (j, cs.map (V.upd L e k ys))⟩
def St.put (s : St) (d : Option Nat) (v : V) : St := match d with | some d => ⟨s.fr.set d v, s.bx⟩ | none => s
def relabL (d : Nat) : Bool → List V → List V
  | _, [] => []
  | true, .sl e sh (some _) xs :: l => .sl e sh (some d) xs :: relabL d false l
  | b, .sl e sh _ xs :: l => .sl e sh none xs :: relabL d b l
  | b, v :: l => v :: relabL d b l
def V.relab (d : Nat) : V → V
  | .sl e sh (some _) xs => .sl e sh (some d) xs
  | .tup vs => .tup (relabL d true vs)
  | v => v
section
variable {α : Type}
def altK (i : Int) (K : V → Option α) : Nat → List V → Option α
  | _, [] => none
  | j, v :: l => sel (ieq i (j : Int)) (K v) (altK i K (j + 1) l)
abbrev Caller (α : Type) := Nat → List V → (V → Option α) → Option α
def clsN (any : Bool) (L n : Nat) : Nat := bif any && Nat.ble HL L then HL + n else n
def killL (s : St) : List Nat → St
  | [] => s
  | L :: l => killL (s.kill L) l
def putBx (mb ml : List (Nat × Nat)) : List (Nat × Nat) → List (List V) → List (Nat × List V) → List (Nat × List V)
  | (k, _) :: l, cs :: bs, bx => putBx mb ml l bs (setBx bx k (cs.map (V.ren mb ml)))
  | _, _, bx => bx
def backN (any : Bool) (d : Nat) (x : V) : List (Nat × Nat) → List (List V) → List (Nat × Nat)
  | (k, _) :: l, cs :: bs => scanL (fun L i => clsN any L (10000 * (k % HL + 1) + i)) 0 cs ++ backN any d x l bs
  | _, _ => scanL (fun L i => clsN any L (match i with | 0 => d | _ => d + 1000 * i)) 0 (cells1 x)
def firsts : List Nat → List (Nat × Nat) → List (Nat × Nat)
  | _, [] => []
  | done, (L, n) :: l => bif done.contains L then firsts done l else (L, n) :: firsts (L :: done) l
def swapL (l : List (Nat × Nat)) : List (Nat × Nat) := l.map fun (a, b) => (b, a)
def anyHL : List (Nat × Nat) → Bool
  | [] => false
  | (L, _) :: l => Nat.ble HL L || anyHL l
def dOr : Option Nat → Nat
  | some d => d
  | none => 0
def backSt1 (s : St) (d : Option Nat) (mb ml : List (Nat × Nat)) (x : V) (bs : List (List V)) (ml2 : List (Nat × Nat)) : Option St :=
  bif nodupN (ml2.map (·.2)) && bs.length == mb.length then
    let s1 := killL (killL s (ml.map (·.1))) (ml2.map (·.2))
    some (St.put ⟨s1.fr, putBx (swapL mb) ml2 mb bs s1.bx⟩ d (x.ren (swapL mb) ml2))
  else none
def backSt (s : St) (d : Option Nat) (mb ml : List (Nat × Nat)) (x : V) (bs : List (List V)) : Option St :=
  backSt1 s d mb ml x bs (firsts [] (backN (anyHL ml) (dOr d) x mb bs))
def flatVal1 : V → Option Value
  | .bool b => some (.bool b)
  | .int k n => some (.int k n)
  | _ => none
def flatVals : List V → Option (List Value)
  | [] => some []
  | v :: l => match flatVal1 v, flatVals l with
    | some v, some l => some (v :: l)
    | _, _ => none
def flatVal : V → Option Value
  | .iface t (.agg cs) => match flatVals cs with | some l => some (.iface t (.agg l.toArray)) | none => none
  | .iface t v => match flatVal1 v with | some v => some (.iface t v) | none => none
  | _ => none
def effK (dr : Bool) (call : Caller α) (s : St) (d : Option Nat) (eff : Eff) (K : St → Option α) (KP : V → St → Option α) : Option α :=
  match eff with
  | .val v => K (s.put d v)
  | .newSl e sh xs => K (s.put d (.sl e sh none xs))
  | .own e sh xs => match d with
    | some d => bif (s.put (some d) .any).noLabel d && Nat.blt d HL then K (s.put (some d) (.sl e sh (some d) xs)) else none
    | none => none
  | .app L e sh xs => match d with
    | some d => bif (s.kill L).noLabel (clsN true L d) && Nat.blt d HL then K ((s.kill L).put (some d) (.sl e sh (some (clsN true L d)) xs)) else none
    | none => none
  | .newBox _ cs => match d with
    | some d => bif s.noBox d && cs.all (fun v => bnot (v.hasBox d)) && Nat.blt d HL then K ⟨s.fr.set d (.box d 0), (d, cs) :: s.bx⟩ else none
    | none => none
  | .put k off cs => match lookBx s.bx k with
    | some old => bif isBld (over old off cs) && bnot (isBld old) then none else K (St.put ⟨s.fr, setBx s.bx k (over old off cs)⟩ d (.tup []))
    | none => none
  | .call f args mb ml => call f args fun r => match r with
    | .out p x bs => bif dr then none else (match p with
      | true => match backSt s none mb ml x bs with
        | some s' => (match flatVal x with | some _ => KP x s' | none => none)
        | none => none
      | false => match backSt s d mb ml x bs with
        | some s' => K s'
        | none => none)
    | r => bif hasBxa args then none else (match d with
      | some d => bif s.noLabel d && Nat.blt d HL then K (s.put (some d) (r.relab d)) else none
      | none => K s)
  | .pan v => bif dr then none else (match flatVal v with | some _ => KP v s | none => none)
  | .pick b x y => sel b (K (s.put d x)) (K (s.put d y))
  | .alts i vs => altK i (fun v => K (s.put d v)) 0 vs
  | .lput L e k ys => bif Nat.blt L HL then K ((s.forget.upd L e k ys).put d (.tup [])) else none
def effBad : Eff → Bool
  | .put _ _ _ => true
  | .app _ _ _ _ => true
  | .lput _ _ _ _ => true
  | .pan _ => true
  | _ => false
def evOp (E : Env) (call : Caller α) (dr : Option (List (Nat × List V))) (o : Oper) (s : St) (K : St → Option α) (KP : V → St → Option α) : Option α :=
  match opR E s.fr (match dr with | some b => b | none => s.bx) o with
  | none => none
  | some (c, eff) => bif dr.isSome && effBad eff then none else sel c (effK dr.isSome call s o.dst eff K KP) none
def guardV (ops : List Oper) (s : St) (o : Oper) (j : Nat) (want : Bool) (yes no : St → Option α) : Option α :=
  match ops[j]? with
  | none => none
  | some oj => match oj.dst with
    | none => none
    | some d => match slot s.fr d with
      | .bool b => sel b ((match want with | true => yes | false => no) ⟨s.fr.set d (.bool true), s.bx⟩) ((match want with | true => no | false => yes) ⟨s.fr.set d (.bool false), s.bx⟩)
      | .tup [] => no s
      | _ => none
def forceL {β : Type} : List V → (List V → β) → β
  | [], k => k []
  | v :: l, k => forceL l fun l => k (v :: l)
def pf (K : St → Option α) (s : St) : Option α := forceL s.fr fun fr => K ⟨fr, s.bx⟩
def evOps (E : Env) (call : Caller α) (ops : List Oper) (bx : Option (List (Nat × List V))) (KP : V → St → Option α) : List Oper → St → (St → Option α) → Option α
  | [], s, K => K s
  | o :: l, s, K =>
    match o.guard with
    | none => evOp E call bx o s (pf fun s => evOps E call ops bx KP l s K) KP
    | some (j, want) => guardV ops s o j want (pf fun s => evOp E call bx o s (pf fun s => evOps E call ops bx KP l s K) KP)
        (pf fun s => pf (fun s => evOps E call ops bx KP l s K) (s.put o.dst (.tup [])))
def tmpsOf (l : List Operand) : List Nat := l.filterMap fun | .tmp t => some t | _ => none
def readsO (o : Oper) : List Nat := tmpsOf o.op.operands.toList
def rdC : Code → List Nat
  | .region _ ops _ => ops.toList.flatMap readsO
  | .seq a b => rdC a ++ rdC b
  | .cond c a b => tmpsOf [c] ++ rdC a ++ rdC b
  | .block _ b => rdC b
  | .loop b => rdC b
  | .scope b => rdC b
  | .rangeFunc f _ a b => tmpsOf [f] ++ rdC a ++ rdC b
  | _ => []
def wrC : Code → List Nat
  | .region _ ops _ => ops.toList.filterMap (·.dst)
  | .seq a b => wrC a ++ wrC b
  | .cond _ a b => wrC a ++ wrC b
  | .block _ b => wrC b
  | .loop b => wrC b
  | .scope b => wrC b
  | .rangeFunc _ ps a b => ps.toList ++ wrC a ++ wrC b
  | _ => []
def exOps : List Oper → List Nat → List Nat × List Nat
  | [], W => ([], W)
  | o :: l, W => let r := exOps l (o.dst.toList ++ W); ((readsO o).filter (fun t => !W.contains t) ++ r.1, r.2)
def exC : Code → List Nat → List Nat × List Nat
  | .region _ ops _, W => exOps ops.toList W
  | .seq a b, W => let x := exC a W; let y := exC b x.2; (x.1 ++ y.1, y.2)
  | .cond c a b, W => let x := exC a W; let y := exC b W; ((tmpsOf [c]).filter (fun t => !W.contains t) ++ x.1 ++ y.1, x.2.filter y.2.contains)
  | .block _ b, W => ((exC b W).1, W)
  | .loop b, W => ((exC b W).1, W)
  | .scope b, W => ((exC b W).1, W)
  | .rangeFunc f _ a b, W => ((tmpsOf [f]) ++ (exC a W).1 ++ (exC b W).1, W)
  | _, W => ([], W)
def uncOps : List Oper → List Nat → List Nat
  | [], _ => []
  | o :: l, W => (readsO o).filter (fun t => !W.contains t) ++ uncOps l (o.dst.toList ++ W)
def uncC : Code → List Nat
  | .region _ ops _ => uncOps ops.toList []
  | .seq a b => uncC a ++ uncC b
  | .cond _ a b => uncC a ++ uncC b
  | .block _ b => uncC b
  | .loop b => uncC b
  | .scope b => uncC b
  | .rangeFunc f _ a b => tmpsOf [f] ++ uncC a ++ uncC b
  | _ => []
def maskOf (tot unc : List Nat) (n : Nat) (body : Code) : List Nat :=
  let rd := rdC body
  let ex := (exC body []).1
  let wr := wrC body
  (List.range n).filter fun t => !unc.contains t || (wr.contains t && !ex.contains t && tot.count t == rd.count t)
def canonV (L i : Nat) : V → V
  | .sl e sh (some L') xs => bif L == L' then .sl e sh (some i) xs else .sl e sh (some L') xs
  | .eptr L' e sh xs j off => bif L == L' then .eptr i e sh xs j off else .eptr L' e sh xs j off
  | v => v
def V.canon (L i : Nat) : V → V
  | .tup vs => .tup (vs.map (canonV L i))
  | .fn f vs => .fn f (vs.map (canonV L i))
  | v => canonV L i v
def St.canon (s : St) (L i : Nat) : St := ⟨s.fr.map (V.canon L i), s.bx.map fun (k, cs) => (k, cs.map (V.canon L i))⟩
def canonFrom : List V → Nat → List Nat → St → St
  | [], _, _, s => s
  | .sl _ _ (some L) _ :: l, i, done, s => bif done.contains L || L == clsN true L i then canonFrom l (i + 1) (L :: done) s else
      bif s.noLabel (clsN true L i) && Nat.blt i HL then canonFrom l (i + 1) (L :: done) (s.canon L (clsN true L i)) else canonFrom l (i + 1) (L :: done) s
  | _ :: l, i, done, s => canonFrom l (i + 1) done s
def canonB (b : Nat) : List V → Nat → St → St
  | [], _, s => s
  | .sl _ _ (some L) _ :: l, i, s => bif L == clsN true L (b + i) || s.fr.any (fun v => v.hasLabel L) then canonB b l (i + 1) s else
      bif s.noLabel (clsN true L (b + i)) && Nat.blt (b + i) HL then canonB b l (i + 1) (s.canon L (clsN true L (b + i))) else canonB b l (i + 1) s
  | _ :: l, i, s => canonB b l (i + 1) s
def canonBs : List (Nat × List V) → St → St
  | [], s => s
  | (k, cs) :: l, s => canonBs l (canonB (10000 * (k % HL + 1)) cs 0 s)
def maskFr (mask : List Nat) : List V → Nat → List V
  | [], _ => []
  | v :: l, i => (bif mask.contains i then .any else v) :: maskFr mask l (i + 1)
def forceM {β : Type} : List Nat → (List Nat → β) → β
  | [], k => k []
  | a :: l, k => forceM l fun l => k (a :: l)
theorem forceM_eq {β : Type} : ∀ (l : List Nat) (k : List Nat → β), forceM l k = k l
  | [], _ => rfl
  | a :: l, k => by unfold forceM; exact forceM_eq l _
def headSt (mask : List Nat) (s : St) : St := forceM mask fun mask =>
  let fr := maskFr mask s.fr 0
  let s1 := canonFrom fr 0 [] ⟨fr, s.bx.filter fun (k, _) => !mask.contains k || fr.any (V.hasBox k)⟩
  canonBs s1.bx s1
inductive Ex where
  | norm | exit (id : Nat) | ret | pan (v : V)
def seqK (b : Code) (K : Ex → St → Option α) (next : St → Option α) : Ex → St → Option α
  | .norm, s => next s
  | e, s => K e s
def blockK (id : Nat) (K : Ex → St → Option α) : Ex → St → Option α
  | .exit i, s => bif i == id then K .norm s else K (.exit i) s
  | e, s => K e s
def drawOk (n : Nat) (ops : List Oper) : Bool :=
  let idx := ops.zipIdx
  idx.all fun (o, i) =>
    (match o.dst with | some d => Nat.blt d n | none => false) &&
    idx.all (fun (o', j) => i == j || o.dst != o'.dst) &&
    o.after.toList.all (fun e => !Region.binds .any e || Nat.blt e.on i) &&
    (readsO o).all (fun t => idx.all fun (o', j) => o'.dst != some t || (Nat.blt j i && o.after.toList.any fun e => Region.binds .any e && e.on == j)) &&
    (match o.guard with | none => true | some (j, _) => Nat.blt j i && o.after.toList.any fun e => Region.binds .any e && e.on == j)
def waits (ops : List Oper) : Nat → Nat → Nat → Bool
  | 0, _, _ => false
  | n + 1, j, i => match ops[j]? with
    | some o => o.after.toList.any fun e => Region.binds .any e && (e.on == i || waits ops n e.on i)
    | none => false
def addN (l : List Nat) : List Nat → List Nat
  | [] => l
  | a :: m => bif l.contains a then addN l m else addN (a :: l) m
def bindsOf (o : Oper) : List Nat := (o.after.toList.filter fun e => Region.binds .any e).map (·.on)
def forceN : List Nat → (List Nat → Bool) → Bool
  | [], k => k []
  | a :: l, k => forceN l fun l => k (a :: l)
def chainS (ops : List Oper) : Nat → List Nat → Bool
  | 0, _ => true
  | i + 1, S => bif S.contains i then forceN (addN S (match ops[i]? with | some o => bindsOf o | none => [])) (fun S => chainS ops i S) else false
def chainAt (ops : List Oper) (j : Nat) : Bool := match ops[j]? with
  | some o => (bindsOf o).all (fun e => Nat.blt e j) && forceN (bindsOf o) fun S => chainS ops j S
  | none => false
def tail0 : List Oper → Nat
  | [] => 0
  | o :: l => match o.dst with | some _ => tail0 l + 1 | none => 0
def tailDn (ops : List Oper) : Nat → Nat
  | 0 => 0
  | k + 1 => bif chainAt ops k then tailDn ops k else k + 1
def tailAt (ops : List Oper) : Nat := tailDn ops (tail0 ops)
def chainG (ops : List Oper) : Nat → Nat → Bool
  | _, 0 => true
  | m, n + 1 => chainAt ops m && chainG ops (m + 1) n
def chainFrom (ops : List Oper) (m : Nat) : Bool := chainG ops m (ops.length - m)
def lateB (ops : Array Oper) (l : Nat) : Bool := match ops[l]? with
  | some o => (match o.op with | .extract _ _ => true | _ => false) && (match o.guard with | none => true | some _ => false) &&
      (List.range ops.size).all fun j => j == l || (match ops[j]? with | some oj => (bindsOf o).contains j || (bindsOf oj).contains l || o.apart ops oj | none => true)
  | none => false
def chainLS (ops : List Oper) (late : Nat → Bool) : Nat → List Nat → Bool
  | 0, _ => true
  | i + 1, S => bif S.contains i then forceN (addN S (match ops[i]? with | some o => bindsOf o | none => [])) (fun S => chainLS ops late i S) else late i && chainLS ops late i S
def chainLAt (ops : List Oper) (late : Nat → Bool) (j : Nat) : Bool := match ops[j]? with
  | some o => (bindsOf o).all (fun e => Nat.blt e j) && forceN (bindsOf o) fun S => chainLS ops late j S
  | none => false
def chainLG (ops : List Oper) (late : Nat → Bool) : Nat → Nat → Bool
  | _, 0 => true
  | m, n + 1 => chainLAt ops late m && chainLG ops late (m + 1) n
def lateM (ops : Array Oper) (m : Nat) (i : Nat) : Bool := Nat.blt i m && lateB ops i
def chainLFrom (ops : Array Oper) (m : Nat) : Bool := Region.noSelect ops && chainLG ops.toList (lateM ops m) m (ops.toList.length - m)
def drawStart (ops : List Oper) (s : St) : Bool := ops.all fun o => match o.dst with | some d => s.noLabel d && s.noBox d | none => false
def drawEnd (ops : List Oper) (s : St) : Bool :=
  let idx := ops.zipIdx
  idx.all (fun (oi, i) => match oi.dst with
    | none => false
    | some di => idx.all (fun (oj, j) => match oj.dst with
        | none => false
        | some dj => i == j || (bnot ((slot s.fr dj).hasLabel di) && bnot ((slot s.fr dj).hasBox di)) || waits ops ops.length j i) &&
      s.bx.all fun (k, cs) => (cs.all fun v => bnot (v.hasLabel di) && bnot (v.hasBox di)) || idx.any fun (oj, j) => oj.dst == some k && waits ops ops.length j i)
def earlyB (ops : List Oper) (m : Nat) : Bool := match ops[m]? with
  | some p => (match p.dst with | none => true | some _ => false) && (match p.guard with | none => true | some _ => false) && p.after.toList.all (fun e => !Region.binds .any e) &&
      (readsO p).all (fun t => (ops.take m).all fun o => o.dst != some t)
  | none => false
def dropBx : List (Nat × List V) → Nat → List (Nat × List V)
  | [], _ => []
  | (k, cs) :: l, j => bif k == j then dropBx l j else (k, cs) :: dropBx l j
def loopK (b : Code) (body : St → (Ex → St → Option α) → Option α) (mask : List Nat) (K : Ex → St → Option α) : Nat → St → Option α
  | 0, _ => none
  | n + 1, s => body s fun e s' => match e with
    | .norm => pf (loopK b body mask K n) (headSt mask s')
    | e => K e s'
def isSlT (P : Program) (t : TypeId) : Bool := match P.underlying t with | some (.slice _) => true | _ => false
def fldNZ (P : Program) (t : TypeId) (f : Nat) : Bool := match P.underlying t with
  | some (.struct fs) => match fs[f]? with
    | some fd => match P.info? fd.type with
      | some i => i.size != 0
      | none => false
    | none => false
  | _ => false
def hoistOp (P : Program) (o : Oper) : Bool :=
  (match o.op with | .move _ => true | .slice t _ _ _ none => isSlT P t | .makeFunc _ _ _ => true | .fieldAddr t _ f => fldNZ P t f | _ => false) && (match o.guard with | none => true | some _ => false) && (match o.dst with | some _ => true | none => false)
def hoistAt (P : Program) (ops : Array Oper) (L : List Nat) (l : Nat) : Bool := match ops[l]? with
  | some o => hoistOp P o && (bindsOf o).all (fun e => L.contains e) &&
      (List.range ops.size).all fun j => j == l || (match ops[j]? with | some oj => (bindsOf o).contains j || (bindsOf oj).contains l || o.apart ops oj | none => true)
  | none => false
def hoistG (P : Program) (ops : Array Oper) : List Nat → List Nat → List Nat
  | [], L => L
  | l :: r, L => bif hoistAt P ops L l then hoistG P ops r (L ++ [l]) else hoistG P ops r L
def hoistL (P : Program) (ops : Array Oper) : List Nat := hoistG P ops (List.range ops.size) []
def keepL (ops : Array Oper) (L : List Nat) : List Nat := (List.range ops.size).filter fun i => !L.contains i
def subO (p : List Nat) (o : Oper) : Oper :=
  { o with after := ((o.after.toList.filter fun e => p.contains e.on).map fun e => { e with on := p.idxOf e.on }).toArray, guard := o.guard.map fun g => (p.idxOf g.1, g.2) }
def subOps (ops : Array Oper) (p : List Nat) : Array Oper := (p.map fun i => subO p (ops.getD i default)).toArray
def subOk (ops : Array Oper) (p : List Nat) : Bool :=
  ops.toList.all fun o => (match o.guard with | some (j, _) => p.contains j | none => true) && o.after.toList.all fun e => Nat.blt e.on ops.size
def evH {α : Type} (E : Env) : List Oper → St → (St → Option α) → Option α
  | [], s, K => K s
  | o :: l, s, K => match opR E s.fr s.bx o with
    | some (c, .val v) => sel c (evH E l (s.put o.dst v) K) none
    | _ => none
def plainO (o : Oper) : Bool := match o.op with
  | .call c => (match c.callee with | .builtin .append => false | _ => true)
  | .store _ _ _ => false
  | _ => true
def callsF (o : Oper) : Bool := match o.op with
  | .call c => (match c.callee with | .value _ => true | _ => false)
  | _ => false
def isClo : V → Bool
  | .fn f (_ :: _) => Nat.blt f ARR
  | _ => false
def mkClo (o : Oper) : Bool := match o.op with
  | .makeFunc _ _ caps => caps.size != 0
  | _ => false
def noClo (s : St) (l : List Oper) : Bool := !(l.any callsF && l.any fun o => mkClo o || (readsO o).any fun t => isClo (slot s.fr t))
def plainS (s : St) (l : List Oper) : Bool := l.all plainO && noClo s l
def chainD (n : Nat) (ops : List Oper) (s : St) : Bool := plainS s (ops.take (tailAt ops)) && drawOk n (ops.take (tailAt ops)) && chainFrom ops (tailAt ops) && drawStart (ops.take (tailAt ops)) s
structure Rd where
  tot : List Nat
  unc : List Nat
  ord : Bool
def evReg (E : Env) (call : Caller α) (ops : Array Oper) (s : St) (K : Ex → St → Option α) (FB : St → Option α) : Option α :=
  bif plainS s (ops.toList.take (tailAt ops.toList)) && (drawOk s.fr.length (ops.toList.take (tailAt ops.toList)) && chainFrom ops.toList (tailAt ops.toList) && drawStart (ops.toList.take (tailAt ops.toList)) s) then
      evOps E call ops.toList (some s.bx) (fun _ _ => none) (ops.toList.take (tailAt ops.toList)) s fun s' => bif drawEnd (ops.toList.take (tailAt ops.toList)) s' then evOps E call ops.toList none (fun v s => K (.pan v) s) (ops.toList.drop (tailAt ops.toList)) s' fun s => K .norm s else none
    else bif plainS s (ops.toList.take (tailAt ops.toList)) && (drawOk s.fr.length (ops.toList.take (tailAt ops.toList)) && chainLFrom ops (tailAt ops.toList) && drawStart (ops.toList.take (tailAt ops.toList)) s) then
      evOps E call ops.toList (some s.bx) (fun _ _ => none) (ops.toList.take (tailAt ops.toList)) s fun s' => bif drawEnd (ops.toList.take (tailAt ops.toList)) s' then evOps E call ops.toList none (fun _ _ => none) (ops.toList.drop (tailAt ops.toList)) s' fun s => K .norm s else none
    else bif earlyB ops.toList (tail0 ops.toList) && drawOk s.fr.length (ops.toList.take (tail0 ops.toList)) && chainFrom ops.toList (tail0 ops.toList + 1) then
      (match ops.toList[tail0 ops.toList]? with
      | some p => match opR E s.fr s.bx p with
        | some (c, .put k off cs) => sel c (match lookBx s.bx k with
          | some old => bif (bif isBld (over old off cs) then isBld old else true) && drawStart (ops.toList.take (tail0 ops.toList)) s && drawStart (ops.toList.take (tail0 ops.toList)) ⟨s.fr, setBx s.bx k (over old off cs)⟩ then
              evOps E call ops.toList (some (dropBx s.bx k)) (fun _ _ => none) (ops.toList.take (tail0 ops.toList)) ⟨s.fr, setBx s.bx k (over old off cs)⟩ fun s' =>
                bif drawEnd (ops.toList.take (tail0 ops.toList)) s' && drawEnd (ops.toList.take (tail0 ops.toList)) ⟨s'.fr, setBx s'.bx k old⟩ then evOps E call ops.toList none (fun v s => K (.pan v) s) (ops.toList.drop (tail0 ops.toList + 1)) s' fun s => K .norm s else none
            else none
          | none => none) none
        | _ => none
      | none => none)
    else bif Region.noSelect ops && subOk ops (keepL ops (hoistL E.P ops)) then
      evH E ((hoistL E.P ops).map fun i => ops.getD i default) s fun s => bif chainD s.fr.length (subOps ops (keepL ops (hoistL E.P ops))).toList s then
        evOps E call (subOps ops (keepL ops (hoistL E.P ops))).toList (some s.bx) (fun _ _ => none) ((subOps ops (keepL ops (hoistL E.P ops))).toList.take (tailAt (subOps ops (keepL ops (hoistL E.P ops))).toList)) s fun s' =>
          bif drawEnd ((subOps ops (keepL ops (hoistL E.P ops))).toList.take (tailAt (subOps ops (keepL ops (hoistL E.P ops))).toList)) s' then
            evOps E call (subOps ops (keepL ops (hoistL E.P ops))).toList none (fun _ _ => none) ((subOps ops (keepL ops (hoistL E.P ops))).toList.drop (tailAt (subOps ops (keepL ops (hoistL E.P ops))).toList)) s' fun s => K .norm s else none
        else FB s
    else none
noncomputable def both {α : Type} (a b : Option α) : Option α := @ite _ (a = b) (Classical.propDecidable _) a none
noncomputable def allK {α : Type} (f : Nat → Option α) : List Nat → Option α
  | [] => none
  | [i] => f i
  | i :: j :: l => both (f i) (allK f (j :: l))
def readyL (ops : List Oper) (L : List Nat) : List Nat := (List.range ops.length).filter fun i => !L.contains i && (match ops[i]? with | some o => (bindsOf o).all (fun e => L.contains e) | none => false)
noncomputable def evOrd (E : Env) (call : Caller α) (ops : List Oper) (K : St → Option α) : Nat → List Nat → St → Option α
  | 0, _, _ => none
  | n + 1, L, s => match readyL ops L with
    | [] => K s
    | i :: l => allK (fun i => match ops[i]? with | some o => evOps E call ops none (fun _ _ => none) [o] s fun s => evOrd E call ops K n (i :: L) s | none => none) (i :: l)
noncomputable def ev (E : Env) (call : Caller α) (rd : Rd) (fuel : Nat) : Code → St → (Ex → St → Option α) → Option α
  | .skip, s, K => K .norm s
  | .region _ ops false, s, K => evOps E call ops.toList none (fun v s => K (.pan v) s) ops.toList s fun s => K .norm s
  | .region _ ops true, s, K => evReg E call ops s K fun s => bif rd.ord then evOrd E call (subOps ops (keepL ops (hoistL E.P ops))).toList (K .norm) ((subOps ops (keepL ops (hoistL E.P ops))).size + 1) [] s else none
  | .seq a b, s, K => ev E call rd fuel a s (seqK b K fun s => ev E call rd fuel b s K)
  | .cond c a b, s, K => match evalO E s.fr c with
    | .bool t => sel t (ev E call rd fuel a s K) (ev E call rd fuel b s K)
    | _ => none
  | .block id b, s, K => ev E call rd fuel b s (blockK id K)
  | .loop b, s, K => loopK b (fun s K => ev E call rd fuel b s K) (maskOf rd.tot rd.unc s.fr.length b) K fuel (headSt (maskOf rd.tot rd.unc s.fr.length b) s)
  | .exit id, s, K => K (.exit id) s
  | .label _, s, K => K .norm s
  | .ret, s, K => K .ret s
  | _, _, _ => none
def loopC (b : Code) (body : St → (Ex → St → Option α) → Option α) (mask : List Nat) (K : Ex → St → Option α) (n : Nat) : Ex → St → Option α
  | .norm, s => pf (loopK b body mask K n) (headSt mask s)
  | e, s => K e s
def cAt : List Nat → Code → Code
  | [], c => c
  | i :: p, c => match c with
    | .seq a b => cAt p (match i with | 0 => a | _ => b)
    | .cond _ a b => cAt p (match i with | 0 => a | _ => b)
    | .block _ b => cAt p b
    | .loop b => cAt p b
    | .scope b => cAt p b
    | c => c
noncomputable def ctxK (E : Env) (call : Caller α) (rd : Rd) (fuel nt : Nat) : List Nat → Code → List Nat → (Ex → St → Option α) → (Ex → St → Option α)
  | [], _, _, K => K
  | i :: p, c, ns, K => match c with
    | .seq a b => match i with
      | 0 => ctxK E call rd fuel nt p a ns (seqK b K fun s => ev E call rd fuel b s K)
      | _ => ctxK E call rd fuel nt p b ns K
    | .cond _ a b => ctxK E call rd fuel nt p (match i with | 0 => a | _ => b) ns K
    | .block id b => ctxK E call rd fuel nt p b ns (blockK id K)
    | .loop b => match ns with
      | n :: ns => ctxK E call rd fuel nt p b ns (loopC b (fun s K => ev E call rd fuel b s K) (maskOf rd.tot rd.unc nt b) K n)
      | [] => K
    | _ => K
def resSlots (fn : Func) : List Nat := fn.results.toList.map fun | .tmp t => t | .cell a _ => a
def V.deepR : V → Option V
  | .fn _ _ => none
  | v => v.deep
def resAt (P : Program) (s : St) : ResultVar → Option V
  | .tmp t => match (slot s.fr t).unOld with
    | .sl e sh o xs => some (.sl e sh o xs)
    | v => v.deepR
  | .cell a t => match slot s.fr a with
    | .box k off => match lookBx s.bx k with
      | some cells => match isAggT P t with
        | some true => match sizeT P t with
          | some n => match readBx cells off n with
            | some cs => some (.agg cs)
            | none => none
          | none => none
        | some false => bif Nat.blt off cells.length then (cells.getD off .any).deepR else none
        | none => none
      | none => none
    | _ => none
def resOf (P : Program) (s : St) : List ResultVar → Option (List V)
  | [] => some []
  | x :: l => match resAt P s x with
    | none => none
    | some v => match resOf P s l with
      | none => none
      | some r => some (v :: r)
def retOf : List V → V
  | [v] => v
  | vs => .tup (relabL 0 true vs)
def bxEnd (s : St) : Nat → List V → Option (List (List V))
  | _, [] => some []
  | j, .bxa _ _ :: l => match lookBx s.bx (HL + j), bxEnd s (j + 1) l with
    | some cs, some bs => some (cs :: bs)
    | _, _ => none
  | j, _ :: l => bxEnd s (j + 1) l
def endN : Nat → List (List V) → List (Nat × Nat)
  | _, [] => []
  | j, cs :: bs => scanL (fun L i => clsN true L (1000 * (j + 1) + 1 + i)) 0 cs ++ endN (j + 1) bs
def idBx : Nat → List V → List (Nat × Nat)
  | _, [] => []
  | j, .bxa _ _ :: l => (HL + j, HL + j) :: idBx (j + 1) l
  | j, _ :: l => idBx (j + 1) l
def outOf (p : Bool) (x : V) (s : St) (args : List V) (K : V → Option α) : Option α :=
  match bxEnd s 0 args with
  | some bs =>
    let ml := firsts [] (scanL (fun L i => clsN true L i) 0 (cells1 x) ++ endN 0 bs)
    let mb := idBx 0 args
    bif nodupN (ml.map (·.2)) then K (.out p (x.ren mb ml) (bs.map fun cs => cs.map (V.ren mb ml))) else none
  | none => none
def tupOf : List V → V
  | [v] => v
  | vs => .tup vs
def kdOf : V → Option Kd
  | .bool _ => some .bool
  | .int k _ => some (.int k)
  | .str _ => some .str
  | .sl e sh _ _ => bif Kd.eqL sh sh then some (.sl e sh) else none
  | _ => none
def kdsOf : List V → Option (List Kd)
  | [] => some []
  | v :: l => match kdOf v, kdsOf l with
    | some k, some ks => some (k :: ks)
    | _, _ => none
def frzOf (s : St) : List ResultVar → Option V
  | [.tmp t] => match slot s.fr t with
    | .box k off => bif off == 0 then (match lookBx s.bx k with
      | some cells => match kdsOf cells with
        | some sh => match V.deepL cells with
          | some cs => some (.rptr sh (.agg cs) 0)
          | none => none
        | none => none
      | none => none) else none
    | _ => none
  | _ => none
def finK (P : Program) (fn : Func) (args : List V) (K : V → Option α) : Ex → St → Option α
  | .norm, s => match resOf P s fn.results.toList with | some vs => (bif handed args then outOf false (tupOf vs) s args K else K (retOf vs)) | none => bif handed args then none else (match frzOf s fn.results.toList with | some r => K r | none => none)
  | .ret, s => match resOf P s fn.results.toList with | some vs => (bif handed args then outOf false (tupOf vs) s args K else K (retOf vs)) | none => bif handed args then none else (match frzOf s fn.results.toList with | some r => K r | none => none)
  | .pan v, s => match flatVal v with | some _ => outOf true v s args K | none => none
  | _, _ => none
abbrev FSpec := List V → Option (Bool × V)
def rdOf (fn : Func) (c : Code) : Rd := ⟨resSlots fn ++ rdC c, resSlots fn ++ uncC c, false⟩
def rdOo (o : Bool) (fn : Func) (c : Code) : Rd := ⟨resSlots fn ++ rdC c, resSlots fn ++ uncC c, o⟩
def findSpec : List (Nat × FSpec) → Nat → Option FSpec
  | [], _ => none
  | (f, s) :: l, g => bif f == g then some s else findSpec l g
def startFr (fn : Func) (args : List V) : List V := args ++ List.replicate (fn.ntmps - args.length) (.tup [])
def splitDf : Code → Option (Code × Oper × Oper × Code)
  | .seq a (.seq (.region _ ops false) b) => match ops.toList with
    | [o1, o2] => match o2.op with
      | .defer _ => some (a, o1, o2, b)
      | _ => none
    | _ => none
  | _ => none
noncomputable def evClo (E : Env) (call : Caller α) (fuel f : Nat) (args : List V) (rec : V) (K : V → Option α) : Option α :=
  match E.P.funcs[f]? with
  | none => none
  | some fn => match fn.body with
    | some c => match c with
      | .seq (.region _ ops false) b => match ops.toList with
        | [o] => match o.op, o.guard, o.dst, fn.results.toList with
          | .call cl, none, some d, [] => match cl.callee, cl.args.toList with
            | .builtin .recover, [] => ev E call (rdOf fn c) fuel b (St.put ⟨startFr fn (frArgs 0 args), bxArgs 0 args⟩ (some d) rec) fun e s => match e with
              | .norm => outOf false (.tup []) s args K
              | .ret => outOf false (.tup []) s args K
              | _ => none
            | _, _ => none
          | _, _, _, _ => none
        | _ => none
      | _ => none
    | none => none
noncomputable def dfK (E : Env) (call : Caller α) (fuel : Nat) (fn : Func) (g : Nat) (caps args : List V) (K : V → Option α) (rec : V) (s : St) : Option α :=
  match handOf s.bx 0 caps with
  | some (as, mb, ml) => bif okHand mb ml then
      evClo E call fuel g as rec fun r => match r with
        | .out false x bs => match backSt s none mb ml x bs with
          | some s' => finK E.P fn args K .ret s'
          | none => none
        | _ => none
    else none
  | none => none
noncomputable def dfEx (E : Env) (call : Caller α) (fuel : Nat) (fn : Func) (g : Nat) (caps args : List V) (K : V → Option α) : Ex → St → Option α
  | .norm, s => dfK E call fuel fn g caps args K .nilif s
  | .ret, s => dfK E call fuel fn g caps args K .nilif s
  | .pan v, s => match flatVal v with | some _ => dfK E call fuel fn g caps args K v s | none => none
  | _, _ => none
def rbV (k k' : Nat) : V → V
  | .box j off => bif j == k then .box k' off else .box j off
  | v => v
def V.rb (k k' : Nat) : V → V
  | .tup vs => .tup (vs.map (rbV k k'))
  | .fn f vs => .fn f (vs.map (rbV k k'))
  | v => rbV k k' v
def rbBx (k k' : Nat) : List (Nat × List V) → List (Nat × List V)
  | [] => []
  | (j, cs) :: l => (bif j == k then k' else j, cs.map (V.rb k k')) :: rbBx k k' l
def St.rb (s : St) (k k' : Nat) : St := ⟨s.fr.map (V.rb k k'), rbBx k k' s.bx⟩
def renCaps : Nat → List V → St → Option St
  | _, [], s => some s
  | j, .box k 0 :: l, s => bif s.noBox (HL + 5000 + j) && Nat.blt k HL then renCaps (j + 1) l (s.rb k (HL + 5000 + j)) else none
  | _, _, _ => none
def newCaps : Nat → List V → List V
  | _, [] => []
  | j, _ :: l => .box (HL + 5000 + j) 0 :: newCaps (j + 1) l
def argSh (args : List V) : List V := bif handed args then args.map (fun v => match v with | .bxa _ _ => .bxa 0 [] | .sl e sh (some L) _ => .sl e sh (some L) [] | _ => .nilsl) else []
noncomputable def evBdG (o : Bool) (E : Env) (call : Caller α) (fuel : Nat) : Caller α := fun f args K =>
  match E.P.funcs[f]? with
  | none => none
  | some fn => match fn.body, argVs args with
    | some c, some args => match splitDf c with
      | none => ev E call (rdOo (o && !handed args) fn c) fuel c ⟨startFr fn (frArgs 0 args), bxArgs 0 args⟩ (finK E.P fn (argSh args) K)
      | some (a, o1, o2, b) => match o1.op, o1.guard, o1.dst, o2.op, o2.guard, o2.dst with
        | .makeFunc (.func g) _ _, none, some t, .defer cl, none, none => match cl.callee, cl.args.toList with
          | .value (.tmp t'), [] => bif t == t' then
              ev E call (rdOf fn c) fuel a ⟨startFr fn (frArgs 0 args), bxArgs 0 args⟩ fun e s => match e with
                | .norm => match opR E s.fr s.bx o1 with
                  | some (true, .val (.fn g' caps)) => bif g' == g && Nat.blt t s.fr.length && (Nat.blt args.length 5000 && Nat.blt g ARR) then
                      match renCaps 0 caps (s.put (some t) (.fn g caps)) with
                      | some s2 => ev E call (rdOo (o && !handed args) fn c) fuel b s2 (dfEx E call fuel fn g (newCaps 0 caps) (argSh args) K)
                      | none => none
                    else none
                  | _ => none
                | _ => none
            else none
          | _, _ => none
        | _, _, _, _, _, _ => none
    | _, _ => none
noncomputable def evBd (E : Env) (call : Caller α) (fuel : Nat) : Caller α := fun f args K => evBdG true E call fuel f args K
def GX : Nat := 1000000
def choK (K : V → Option α) : V → Option α
  | .cho b x y => sel b (choK K x) (choK K y)
  | v => K v
noncomputable def evFn (E : Env) (specs : List (Nat × FSpec)) (fuel : Nat) : Nat → Caller α
  | 0, f, args, K => match findSpec specs (GX + f) with
    | some sp => match sp args with | some (c, r) => sel c (choK (fun v => match v with | .out p x bs => K (.out p x bs) | _ => none) r) none | none => none
    | none => bif Nat.blt f GX then (match findSpec specs f with
      | some sp => match sp (args.map V.unl) with | some (c, r) => sel c (match r with | .out _ _ _ => none | r => K r) none | none => none
      | none => none) else none
  | d + 1, f, args, K => match findSpec specs (GX + f) with
    | some sp => match sp args with | some (c, r) => sel c (choK (fun v => match v with | .out p x bs => K (.out p x bs) | _ => none) r) none | none => none
    | none => bif Nat.blt f GX then (match findSpec specs f with
      | some sp => match sp (args.map V.unl) with | some (c, r) => sel c (match r with | .out _ _ _ => none | r => K r) none | none => none
      | none => evBdG false E (evFn E specs fuel d) fuel f (bif hasBxa args then args else args.map V.unl) K) else none
noncomputable def loopAtX (o : Bool) (E : Env) (specs : List (Nat × FSpec)) (fuel d f : Nat) (p : List Nat) (ns : List Nat) (KE : Func → Ex → St → Option α) (n : Nat) (s : St) : Option α :=
  match E.P.funcs[f]? with
  | none => none
  | some fn => match fn.body with
    | none => none
    | some c => match cAt p c with
      | .loop b => loopK b (fun s K => ev E (evFn E specs fuel d) (rdOo o fn c) fuel b s K) (maskOf (rdOo o fn c).tot (rdOo o fn c).unc fn.ntmps b) (ctxK E (evFn E specs fuel d) (rdOo o fn c) fuel fn.ntmps p c ns (KE fn)) n s
      | _ => none
noncomputable def loopAt (E : Env) (specs : List (Nat × FSpec)) (fuel d f : Nat) (p : List Nat) (ns : List Nat) (K : V → Option α) (n : Nat) (s : St) : Option α :=
  loopAtX true E specs fuel d f p ns (fun fn => finK E.P fn [] K) n s
noncomputable def loopAtA (E : Env) (specs : List (Nat × FSpec)) (fuel d f : Nat) (args : List V) (p : List Nat) (ns : List Nat) (K : V → Option α) (n : Nat) (s : St) : Option α :=
  loopAtX (!handed args) E specs fuel d f p ns (fun fn => finK E.P fn args K) n s
def atSlot : List (Nat × V) → Nat → V
  | [], _ => .any
  | (i, v) :: l, j => bif i == j then v else atSlot l j
def mkSt (n : Nat) (l : List (Nat × V)) (bx : List (Nat × List V)) : St := ⟨(List.range n).map (atSlot l), bx⟩
end
end Nt.Ev

namespace Nt.Ev
open Go Go.RowKit
abbrev Known := Nat → Option (List Value)
mutual
def rep (G : Known) : V → Value → Prop
  | .any, _ => True
  | .bool b, v => v = .bool b
  | .int k n, v => v = .int k n
  | .str l, v => v = .string ⟨l.toArray⟩
  | .agg cs, v => ∃ a : List Value, v = .agg a.toArray ∧ repL G cs a
  | .tup vs, v => ∃ a : List Value, v = .tuple a.toArray ∧ repL G vs a
  | .nilsl, v => v = .slice none 0 0
  | .sl _ sh _ xs, v => ∃ p cap, v = .slice p xs.length cap ∧ xs.length ≤ cap ∧ (xs = [] ∨ ∃ b off l, p = some ⟨b, off, none⟩ ∧ G b = some l ∧ repE G sh xs (l.drop off))
  | .rptr sh x off, v => ∃ b o l, v = .pointer (some ⟨b, o + off, none⟩) ∧ G b = some l ∧ fitsE sh x = true ∧ ∃ u, rep G x u ∧ (l.drop o).take sh.length = u.cells.toList
  | .box _ _, _ => False
  | .eptr _ _ _ _ _ _, _ => False
  | .fn f caps, v => v = .func (.func f) #[] #[] ∧ caps = []
  | .nilif, v => v = .nilIface
  | .nilp, v => v = .pointer none
  | .iface t x, v => ∃ u, v = .iface t u ∧ rep G x u
  | .bxa _ _, _ => False
  | .out _ _ _, _ => False
  | .cho _ _ _, _ => False
  | .old _, _ => False
def repL (G : Known) : List V → List Value → Prop
  | [], vs => vs = []
  | x :: xs, vs => ∃ v t, vs = v :: t ∧ rep G x v ∧ repL G xs t
def repE (G : Known) (sh : List Kd) : List V → List Value → Prop
  | [], _ => True
  | x :: xs, cells => fitsE sh x = true ∧ (∃ u, rep G x u ∧ cells.take sh.length = u.cells.toList) ∧ repE G sh xs (cells.drop sh.length)
end
def PW (R : V → Value → Prop) (xs : List V) (vs : List Value) : Prop := xs.length = vs.length ∧ ∀ (i : Nat) x v, xs[i]? = some x → vs[i]? = some v → R x v
theorem PW.nil {R : V → Value → Prop} : PW R [] [] := ⟨rfl, by simp⟩
theorem PW.cons {R : V → Value → Prop} {x : V} {v : Value} {xs : List V} {vs : List Value} (h : R x v) (t : PW R xs vs) : PW R (x :: xs) (v :: vs) := by
  refine ⟨by simp [t.1], fun i y u hy hu => ?_⟩
  cases i with
  | zero => simp at hy hu; subst hy; subst hu; exact h
  | succ i => exact t.2 i y u (by simpa using hy) (by simpa using hu)
theorem PW.head {R : V → Value → Prop} {x : V} {v : Value} {xs : List V} {vs : List Value} (h : PW R (x :: xs) (v :: vs)) : R x v := h.2 0 x v rfl rfl
theorem PW.tail {R : V → Value → Prop} {x : V} {v : Value} {xs : List V} {vs : List Value} (h : PW R (x :: xs) (v :: vs)) : PW R xs vs :=
  ⟨by simpa using h.1, fun i y u hy hu => h.2 (i + 1) y u (by simpa using hy) (by simpa using hu)⟩
theorem PW.nil_iff {R : V → Value → Prop} {vs : List Value} (h : PW R [] vs) : vs = [] := List.eq_nil_of_length_eq_zero h.1.symm
theorem PW.cons_inv {R : V → Value → Prop} {x : V} {xs : List V} {vs : List Value} (h : PW R (x :: xs) vs) : ∃ v t, vs = v :: t ∧ R x v ∧ PW R xs t := by
  cases vs with
  | nil => exact absurd h.1 (by simp)
  | cons v t => exact ⟨v, t, rfl, h.head, h.tail⟩
theorem PW.mono {R S : V → Value → Prop} {xs : List V} {vs : List Value} (h : PW R xs vs) (hm : ∀ x ∈ xs, ∀ v, R x v → S x v) : PW S xs vs :=
  ⟨h.1, fun i x v hx hv => hm x (List.mem_of_getElem? hx) v (h.2 i x v hx hv)⟩
theorem PW.get {R : V → Value → Prop} {xs : List V} {vs : List Value} (h : PW R xs vs) {i : Nat} {x : V} (hx : xs[i]? = some x) : ∃ v, vs[i]? = some v ∧ R x v := by
  have hi : i < vs.length := by rw [← h.1]; exact (List.getElem?_eq_some_iff.1 hx).1
  exact ⟨vs[i], List.getElem?_eq_getElem hi, h.2 i x _ hx (List.getElem?_eq_getElem hi)⟩
theorem PW.set {R : V → Value → Prop} {xs : List V} {vs : List Value} (h : PW R xs vs) (i : Nat) {x : V} {v : Value} (hx : R x v) : PW R (xs.set i x) (vs.set i v) := by
  refine ⟨by simp [h.1], fun j y u hy hu => ?_⟩
  rw [List.getElem?_set] at hy hu
  by_cases e : i = j
  · subst e
    simp only [if_true] at hy hu
    split at hy <;> split at hu <;> simp_all
  · rw [if_neg e] at hy hu
    exact h.2 j y u hy hu
theorem PW.append {R : V → Value → Prop} {xs ys : List V} {vs us : List Value} (h : PW R xs vs) (k : PW R ys us) : PW R (xs ++ ys) (vs ++ us) := by
  refine ⟨by simp [h.1, k.1], fun i x v hx hv => ?_⟩
  by_cases hi : i < xs.length
  · rw [List.getElem?_append_left hi] at hx
    rw [List.getElem?_append_left (by rw [← h.1]; exact hi)] at hv
    exact h.2 i x v hx hv
  · rw [List.getElem?_append_right (by omega)] at hx
    rw [List.getElem?_append_right (by rw [← h.1]; omega), ← h.1] at hv
    exact k.2 _ x v hx hv
theorem PW.drop {R : V → Value → Prop} {xs : List V} {vs : List Value} (h : PW R xs vs) (n : Nat) : PW R (xs.drop n) (vs.drop n) :=
  ⟨by simp [h.1], fun i x v hx hv => h.2 (n + i) x v (by simpa using hx) (by simpa using hv)⟩
theorem PW.take {R : V → Value → Prop} {xs : List V} {vs : List Value} (h : PW R xs vs) (n : Nat) : PW R (xs.take n) (vs.take n) := by
  refine ⟨by simp [h.1], fun i x v hx hv => ?_⟩
  rw [List.getElem?_take] at hx hv
  split at hx
  · rename_i hi; rw [if_pos hi] at hv; exact h.2 i x v hx hv
  · cases hx
theorem repL_iff {G : Known} : ∀ (xs : List V) (vs : List Value), repL G xs vs ↔ PW (rep G) xs vs
  | [], vs => by
    unfold repL
    exact ⟨fun h => by rw [h]; exact .nil, fun h => h.nil_iff⟩
  | x :: xs, vs => by
    unfold repL
    constructor
    · rintro ⟨v, t, rfl, h, ht⟩
      exact .cons h ((repL_iff xs t).1 ht)
    · intro h
      obtain ⟨v, t, rfl, h1, h2⟩ := h.cons_inv
      exact ⟨v, t, rfl, h1, (repL_iff xs t).2 h2⟩
def More (G G' : Known) : Prop := ∀ b l, G b = some l → ∃ l', G' b = some l' ∧ l <+: l'
theorem More.refl (G : Known) : More G G := fun b l h => ⟨l, h, List.prefix_refl l⟩
theorem take_prefix {l l' : List Value} {n : Nat} {u : List Value} (h : l.take n = u) (hn : u.length = n) (hp : l <+: l') : l'.take n = u := by
  obtain ⟨t, rfl⟩ := hp
  have : n ≤ l.length := by rw [← h] at hn; simp at hn; omega
  rw [List.take_append_of_le_length this, h]
theorem drop_prefix {l l' : List Value} (n : Nat) (hp : l <+: l') (hn : n ≤ l.length) : l.drop n <+: l'.drop n := by
  obtain ⟨t, rfl⟩ := hp
  rw [List.drop_append_of_le_length hn]
  exact List.prefix_append _ _
theorem fitsL_len : ∀ (sh : List Kd) (vs : List V), fitsL sh vs = true → sh.length = vs.length
  | [], [], _ => rfl
  | [], _ :: _, h => by simp [fitsL] at h
  | _ :: _, [], h => by simp [fitsL] at h
  | k :: sh, v :: vs, h => by
    simp only [fitsL, band] at h
    split at h
    · simp [fitsL_len sh vs h]
    · cases h
theorem rep_cells {G : Known} {x : V} {u : Value} (h : rep G x u) (hx : x ≠ .any) : x.cells.length = u.cells.size ∧ PW (rep G) x.cells u.cells.toList := by
  cases x with
  | agg cs =>
    unfold rep at h
    obtain ⟨a, rfl, h⟩ := h
    rw [repL_iff] at h
    exact ⟨by simp [V.cells, Value.cells, h.1], by simpa [V.cells, Value.cells] using h⟩
  | any => exact absurd rfl hx
  | bool b => unfold rep at h; subst h; exact ⟨rfl, .cons (by unfold rep; rfl) .nil⟩
  | int k n => unfold rep at h; subst h; exact ⟨rfl, .cons (by unfold rep; rfl) .nil⟩
  | str l => unfold rep at h; subst h; exact ⟨rfl, .cons (by unfold rep; rfl) .nil⟩
  | nilsl => unfold rep at h; subst h; exact ⟨rfl, .cons (by unfold rep; rfl) .nil⟩
  | tup vs => have h' := h; unfold rep at h'; obtain ⟨a, rfl, _⟩ := h'; exact ⟨rfl, .cons h .nil⟩
  | sl e sh o xs => have h' := h; unfold rep at h'; obtain ⟨p, cap, rfl, _⟩ := h'; exact ⟨rfl, .cons h .nil⟩
  | rptr sh x off => have h' := h; unfold rep at h'; obtain ⟨b, o, l, rfl, _⟩ := h'; exact ⟨rfl, .cons h .nil⟩
  | box k o => unfold rep at h; exact h.elim
  | eptr _ _ _ _ _ _ => unfold rep at h; exact h.elim
  | fn f c => have h' := h; unfold rep at h'; obtain ⟨rfl, _⟩ := h'; exact ⟨rfl, .cons h .nil⟩
  | nilif => have h' := h; unfold rep at h'; subst h'; exact ⟨rfl, .cons h .nil⟩
  | nilp => have h' := h; unfold rep at h'; subst h'; exact ⟨rfl, .cons h .nil⟩
  | iface t x => have h' := h; unfold rep at h'; obtain ⟨u, rfl, _⟩ := h'; exact ⟨rfl, .cons h .nil⟩
  | bxa _ _ => unfold rep at h; exact h.elim
  | out _ _ _ => unfold rep at h; exact h.elim
  | cho _ _ _ => unfold rep at h; exact h.elim
  | old _ => unfold rep at h; exact h.elim
theorem fitsE_any {sh : List Kd} : fitsE sh .any = false := by
  unfold fitsE V.cells
  cases sh with
  | nil => rfl
  | cons k l => cases k <;> rfl
theorem fit_cells {G : Known} {sh : List Kd} {x : V} {u : Value} (hf : fitsE sh x = true) (h : rep G x u) : u.cells.toList.length = sh.length := by
  have hx : x ≠ .any := fun e => by rw [e, fitsE_any] at hf; cases hf
  have h1 := (rep_cells h hx).1
  have h2 := fitsL_len _ _ hf
  rw [Array.length_toList, ← h1, h2]
theorem repE_nil {G : Known} {sh : List Kd} {cells : List Value} : repE G sh [] cells := by unfold repE; trivial
mutual
theorem rep_more {G G' : Known} (hm : More G G') : ∀ (x : V) (v : Value), rep G x v → rep G' x v
  | .any, _, _ => by unfold rep; trivial
  | .bool b, v, h => by unfold rep at h ⊢; exact h
  | .int k n, v, h => by unfold rep at h ⊢; exact h
  | .str l, v, h => by unfold rep at h ⊢; exact h
  | .agg cs, v, h => by
    unfold rep at h ⊢
    obtain ⟨a, rfl, h⟩ := h
    exact ⟨a, rfl, repL_more hm cs a h⟩
  | .tup vs, v, h => by
    unfold rep at h ⊢
    obtain ⟨a, rfl, h⟩ := h
    exact ⟨a, rfl, repL_more hm vs a h⟩
  | .nilsl, v, h => by unfold rep at h ⊢; exact h
  | .sl e sh o xs, v, h => by
    unfold rep at h ⊢
    obtain ⟨p, cap, rfl, hcap, h⟩ := h
    refine ⟨p, cap, rfl, hcap, ?_⟩
    rcases h with h | ⟨b, off, l, rfl, hG, h⟩
    · exact .inl h
    · obtain ⟨l', hl', hp⟩ := hm b l hG
      by_cases hx : xs = []
      · exact .inl hx
      · refine .inr ⟨b, off, l', rfl, hl', ?_⟩
        by_cases hoff : off ≤ l.length
        · exact repE_more hm sh xs _ _ h (drop_prefix off hp hoff)
        · have : l.drop off = [] := List.drop_of_length_le (by omega)
          rw [this] at h
          exact repE_more hm sh xs _ _ h (List.nil_prefix)
  | .rptr sh x off, v, h => by
    unfold rep at h ⊢
    obtain ⟨b, o, l, rfl, hG, hf, u, hu, hc⟩ := h
    obtain ⟨l', hl', hp⟩ := hm b l hG
    refine ⟨b, o, l', rfl, hl', hf, u, rep_more hm x u hu, ?_⟩
    have hlen := fit_cells hf hu
    by_cases ho : o ≤ l.length
    · exact take_prefix hc hlen (drop_prefix o hp ho)
    · have h0 : l.drop o = [] := List.drop_of_length_le (by omega)
      rw [h0] at hc
      exact take_prefix hc hlen List.nil_prefix
  | .box _ _, _, h => by unfold rep at h; exact h.elim
  | .eptr _ _ _ _ _ _, _, h => by unfold rep at h; exact h.elim
  | .fn _ _, _, h => by unfold rep at h ⊢; exact h
  | .nilif, v, h => by unfold rep at h ⊢; exact h
  | .nilp, v, h => by unfold rep at h ⊢; exact h
  | .iface t x, v, h => by
    unfold rep at h ⊢
    obtain ⟨u, rfl, h⟩ := h
    exact ⟨u, rfl, rep_more hm x u h⟩
  | .bxa _ _, _, h => by unfold rep at h; exact h.elim
  | .out _ _ _, _, h => by unfold rep at h; exact h.elim
  | .cho _ _ _, _, h => by unfold rep at h; exact h.elim
  | .old _, _, h => by unfold rep at h; exact h.elim
theorem repL_more {G G' : Known} (hm : More G G') : ∀ (xs : List V) (vs : List Value), repL G xs vs → repL G' xs vs
  | [], _, h => by unfold repL at h ⊢; exact h
  | x :: xs, vs, h => by
    unfold repL at h ⊢
    obtain ⟨v, t, rfl, h1, h2⟩ := h
    exact ⟨v, t, rfl, rep_more hm x v h1, repL_more hm xs t h2⟩
theorem repE_more {G G' : Known} (hm : More G G') (sh : List Kd) : ∀ (xs : List V) (c c' : List Value), repE G sh xs c → c <+: c' → repE G' sh xs c'
  | [], _, _, _, _ => by unfold repE; trivial
  | x :: xs, c, c', h, hp => by
    unfold repE at h ⊢
    obtain ⟨hf, ⟨u, hu, hc⟩, ht⟩ := h
    have hlen := fit_cells hf hu
    refine ⟨hf, ⟨u, rep_more hm x u hu, take_prefix hc hlen hp⟩, repE_more hm sh xs _ _ ht (drop_prefix _ hp ?_)⟩
    rw [← hc] at hlen
    simp at hlen
    omega
end
def V.plain : V → Bool
  | .eptr _ _ _ _ _ _ => false
  | .box .. => false
  | .fn _ caps => caps.isEmpty
  | .sl _ _ (some _) _ => false
  | .tup _ => false
  | .bxa _ _ => false
  | .out _ _ _ => false
  | .cho _ _ _ => false
  | .old _ => false
  | _ => true
structure Gh where
  G : Known
  O : Nat → Option (Value × Nat × Nat)
  β : Nat → Option Nat
  G1 : Known
def ownG (G : Known) (sh : List Kd) (xs : List V) (v : Value) : Prop :=
  (v = .slice none 0 0 ∧ xs = []) ∨ ∃ b cap l, v = .slice (some ⟨b, 0, none⟩) xs.length cap ∧ xs.length ≤ cap ∧ G b = some l ∧ l.length = xs.length * sh.length ∧ repE G sh xs l
def srep (g : Gh) : V → Value → Prop
  | .box k off, v => ∃ b, g.β k = some b ∧ v = .pointer (some ⟨b, off, none⟩)
  | .sl e sh (some L) xs, v => g.O L = some (v, e, sh.length) ∧ ownG g.G sh xs v
  | .eptr L e sh xs i off, v => ∃ v0 b, g.O L = some (v0, e, sh.length) ∧ ownG g.G sh xs v0 ∧ 0 ≤ i ∧ i < (xs.length : Int) ∧ v0.ownBlock = some b ∧ v = .pointer (some ⟨b, i.toNat * sh.length + off, none⟩)
  | .old x, v => rep g.G1 x v ∧ rep g.G x v ∧ x.plain = true
  | x, v => rep g.G x v
def cloV (f : Nat) (a : List Value) : Value := bif f == ARR && !a.isEmpty then .agg a.toArray else .func (.func f) #[] a.toArray
theorem cloV_lt {f : Nat} {a : List Value} (h : Nat.blt f ARR = true) : cloV f a = .func (.func f) #[] a.toArray := by
  unfold cloV
  have : (f == ARR) = false := by
    rw [beq_eq_false_iff_ne]
    intro e
    rw [e, Nat.blt_eq] at h
    exact Nat.lt_irrefl _ h
  rw [this]; rfl
theorem cloV_nil (f : Nat) : cloV f [] = .func (.func f) #[] #[] := by
  unfold cloV
  cases f == ARR <;> rfl
theorem cloV_arr {a : List Value} (h : a ≠ []) : cloV ARR a = .agg a.toArray := by
  unfold cloV
  cases a with
  | nil => exact absurd rfl h
  | cons x a => rfl
def trep (g : Gh) : V → Value → Prop
  | .tup vs, v => ∃ a : List Value, v = .tuple a.toArray ∧ PW (srep g) vs a
  | .fn f caps, v => ∃ a : List Value, v = cloV f a ∧ PW (srep g) caps a
  | x, v => srep g x v
def arep (g : Gh) (x : V) (v : Value) : Prop := trep g x v ∨ srep g x v
structure Ext (g g' : Gh) : Prop where
  G : More g.G g'.G
  O : ∀ L x, g.O L = some x → g'.O L = some x
  OG : ∀ L v e sz b, g.O L = some (v, e, sz) → v.ownBlock = some b → g'.G b = g.G b
  β : ∀ k b, g.β k = some b → g'.β k = some b
  G1 : g'.G1 = g.G1
theorem Ext.refl (g : Gh) : Ext g g := ⟨.refl _, fun _ _ h => h, fun _ _ _ _ _ _ _ => rfl, fun _ _ h => h, rfl⟩
theorem ownG_ext {G G' : Known} {sh : List Kd} {xs : List V} {v : Value} (h : ownG G sh xs v) (hm : More G G') (hb : ∀ b, v.ownBlock = some b → G' b = G b) : ownG G' sh xs v := by
  rcases h with h | ⟨b, cap, l, rfl, hcap, hG, hl, hr⟩
  · exact .inl h
  · exact .inr ⟨b, cap, l, rfl, hcap, by rw [hb b rfl]; exact hG, hl, repE_more hm sh xs _ _ hr (List.prefix_refl _)⟩
theorem srep_ext {g g' : Gh} (he : Ext g g') {x : V} {v : Value} (h : srep g x v) : srep g' x v := by
  cases x with
  | box k off => obtain ⟨b, hb, rfl⟩ := h; exact ⟨b, he.β k b hb, rfl⟩
  | eptr L e sh xs i off => obtain ⟨v0, b, h1, h2, h3, h4, h5, h6⟩ := h; exact ⟨v0, b, he.O L _ h1, ownG_ext h2 he.G fun b hb => he.OG L _ _ _ b h1 hb, h3, h4, h5, h6⟩
  | sl e sh o xs =>
    cases o with
    | none => exact rep_more he.G _ _ h
    | some L => obtain ⟨h1, h2⟩ := h; exact ⟨he.O L _ h1, ownG_ext h2 he.G fun b hb => he.OG L _ _ _ b h1 hb⟩
  | old x => obtain ⟨h1, h2, h3⟩ := h; exact ⟨by rw [he.G1]; exact h1, rep_more he.G _ _ h2, h3⟩
  | _ => exact rep_more he.G _ _ h
theorem trep_ext {g g' : Gh} (he : Ext g g') {x : V} {v : Value} (h : trep g x v) : trep g' x v := by
  cases x with
  | tup vs => obtain ⟨a, rfl, h⟩ := h; exact ⟨a, rfl, h.mono fun _ _ _ => srep_ext he⟩
  | fn f c => obtain ⟨a, rfl, h⟩ := h; exact ⟨a, rfl, h.mono fun _ _ _ => srep_ext he⟩
  | _ => simp only [trep] at h ⊢; exact srep_ext he h
theorem ownG_rep {G : Known} {e : Nat} {o : Option Nat} {sh : List Kd} {xs : List V} {v : Value} (h : ownG G sh xs v) : rep G (.sl e sh o xs) v := by
  unfold rep
  rcases h with ⟨rfl, rfl⟩ | ⟨b, cap, l, rfl, hcap, hG, hl, hr⟩
  · exact ⟨none, 0, rfl, Nat.le_refl _, .inl rfl⟩
  · exact ⟨some ⟨b, 0, none⟩, cap, rfl, hcap, .inr ⟨b, 0, l, rfl, hG, by simpa using hr⟩⟩
theorem rep_label {G : Known} {e : Nat} {o o' : Option Nat} {sh : List Kd} {xs : List V} {v : Value} (h : rep G (.sl e sh o xs) v) : rep G (.sl e sh o' xs) v := by
  unfold rep at h ⊢; exact h
theorem srep_deep {g : Gh} {x y : V} {v : Value} (h : srep g x v) (hd : x.deep = some y) : rep g.G y v := by
  cases x with
  | sl e sh o xs =>
    simp only [V.deep, Option.some.injEq] at hd
    subst hd
    cases o with
    | none => exact h
    | some L => exact ownG_rep h.2
  | any => simp [V.deep] at hd
  | tup vs => simp [V.deep] at hd
  | box k o => simp [V.deep] at hd
  | eptr _ _ _ _ _ _ => simp [V.deep] at hd
  | fn f c =>
    cases c with
    | cons a c => simp [V.deep] at hd
    | nil => simp only [V.deep, Option.some.injEq] at hd; subst hd; exact h
  | bxa _ _ => simp [V.deep] at hd
  | out _ _ _ => simp [V.deep] at hd
  | cho _ _ _ => simp [V.deep] at hd
  | old _ => simp [V.deep] at hd
  | _ => simp only [V.deep, Option.some.injEq] at hd; subst hd; exact h
theorem trep_deep {g : Gh} {x y : V} {v : Value} (h : trep g x v) (hd : x.deep = some y) : rep g.G y v := by
  cases x with
  | tup vs => simp [V.deep] at hd
  | fn f c =>
    cases c with
    | cons a c => simp [V.deep] at hd
    | nil =>
      simp only [V.deep, Option.some.injEq] at hd
      subst hd
      obtain ⟨a, rfl, hp⟩ := h
      rw [hp.nil_iff]
      unfold rep
      exact ⟨cloV_nil f, rfl⟩
  | _ => simp only [trep] at h; exact srep_deep h hd
theorem trep_of_rep {g : Gh} {x : V} {v : Value} (hx : x.plain = true) (h : rep g.G x v) : trep g x v := by
  cases x with
  | sl e sh o xs => cases o with
    | none => exact h
    | some L => simp [V.plain] at hx
  | box k o => simp [V.plain] at hx
  | eptr _ _ _ _ _ _ => simp [V.plain] at hx
  | fn f c =>
    unfold rep at h
    obtain ⟨rfl, rfl⟩ := h
    exact ⟨[], (cloV_nil f).symm, .nil⟩
  | tup vs => simp [V.plain] at hx
  | bxa _ _ => simp [V.plain] at hx
  | out _ _ _ => simp [V.plain] at hx
  | cho _ _ _ => simp [V.plain] at hx
  | old _ => simp [V.plain] at hx
  | _ => exact h
theorem deep_plain {x y : V} (hd : x.deep = some y) : y.plain = true := by
  cases x with
  | fn f c => cases c <;> simp [V.deep] at hd; subst hd; rfl
  | _ => simp [V.deep] at hd <;> subst hd <;> rfl
theorem deepL_pw {g : Gh} : ∀ (xs ys : List V) (vs : List Value), V.deepL xs = some ys → PW (trep g) xs vs → PW (rep g.G) ys vs
  | [], ys, vs, h, hp => by
    simp [V.deepL] at h; subst h
    rw [hp.nil_iff]; exact .nil
  | x :: xs, ys, vs, h, hp => by
    obtain ⟨v, t, rfl, h1, h2⟩ := hp.cons_inv
    simp only [V.deepL] at h
    split at h
    · rename_i a b ha hb
      simp only [Option.some.injEq] at h
      subst h
      exact .cons (trep_deep h1 ha) (deepL_pw xs b t hb h2)
    · cases h
theorem trep_single {g : Gh} {x : V} {v : Value} (hs : x.single = true) (h : trep g x v) : srep g x v := by
  cases x with
  | tup vs => cases hs
  | fn f c => cases hs
  | _ => simp only [trep] at h; exact h
theorem srep_trep {g : Gh} {x : V} {v : Value} (hs : x.single = true) (h : srep g x v) : trep g x v := by
  cases x with
  | tup vs => cases hs
  | fn f c => cases hs
  | _ => simp only [trep]; exact h
def GOk (G : Known) (w : World) : Prop := ∀ b l, G b = some l → ∃ c e fr, w.heap[b]? = some (.cells c e fr) ∧ c.toList.take l.length = l
structure Own where
  m : Nat → Prop
  n : Nat
  β : Nat → Option Nat
  df : List Deferred
def Own.ok (B : Own) (L b : Nat) : Prop := B.m b ∧ (L < HL → B.n ≤ b)
def OOk (B : Own) (g : Gh) (w : World) : Prop :=
  (∀ L v e sz, g.O L = some (v, e, sz) → 0 < sz ∧ (v = .slice none 0 0 ∨ ∃ b n cap cur l, v = .slice (some ⟨b, 0, none⟩) n cap ∧ B.ok L b ∧ w.heap[b]? = some (.cells cur e (0, 0)) ∧ n ≤ cap ∧ cap ≤ maxLen ∧ cur.size = cap * sz ∧ g.G b = some l ∧ l.length = n * sz)) ∧
  (∀ L L' v v' e e' sz sz' b, g.O L = some (v, e, sz) → g.O L' = some (v', e', sz') → v.ownBlock = some b → v'.ownBlock = some b → L = L')
theorem bld_of {p q : Bool} {α : Type} {x : Option α} {r : α} (h : (bif p && bnot q then none else x) = some r) : x = some r ∧ (p = true → q = true) := by
  cases p with
  | false => exact ⟨h, fun h => by cases h⟩
  | true => cases q with
    | false => cases h
    | true => exact ⟨h, fun _ => rfl⟩
theorem isBld_map {f : V → V} (hf : ∀ x, f x = .nilp → x = .nilp) {cs : List V} (h : isBld (cs.map f) = true) : isBld cs = true := by
  match cs, h with
  | a :: b :: l, h =>
    cases e : f a with
    | nilp => rw [hf a e]; rfl
    | _ => rw [List.map_cons, List.map_cons, e] at h; cases h
  | [], h => cases h
  | [a], h =>
    rw [List.map_cons, List.map_nil] at h
    cases e : f a <;> rw [e] at h <;> cases h
theorem bldT_map {P : Program} {e : TypeId} {f : V → V} {cs : List V} (hf : ∀ x, f x = .nilp → x = .nilp) (q : isBld cs = true → isBldT P e cs.length = true) : isBld (cs.map f) = true → isBldT P e (cs.map f).length = true := fun h => by
  rw [List.length_map]; exact q (isBld_map hf h)
theorem over_len {old vs : List V} {off : Nat} (h : off + vs.length ≤ old.length) : (over old off vs).length = old.length := by
  unfold over
  rw [List.length_append, List.length_append, List.length_take, List.length_drop]
  omega
theorem kill_nilp (L : Nat) : ∀ x : V, x.kill L = .nilp → x = .nilp := by
  intro x h
  cases x with
  | nilp => rfl
  | sl e sh o xs =>
    cases o with
    | none => cases h
    | some L' =>
      have h : (bif L == L' then V.sl e sh none xs else .sl e sh (some L') xs) = .nilp := h
      cases hq : L == L' <;> rw [hq] at h <;> cases h
  | eptr L' e sh xs i off =>
    have h : (bif L == L' then V.any else .eptr L' e sh xs i off) = .nilp := h
    cases hq : L == L' <;> rw [hq] at h <;> cases h
  | _ => cases h
theorem canon_nilp (L i : Nat) : ∀ x : V, x.canon L i = .nilp → x = .nilp := by
  intro x h
  cases x with
  | nilp => rfl
  | sl e sh o xs =>
    cases o with
    | none => cases h
    | some L' =>
      have h : (bif L == L' then V.sl e sh (some i) xs else .sl e sh (some L') xs) = .nilp := h
      cases hq : L == L' <;> rw [hq] at h <;> cases h
  | eptr L' e sh xs j off =>
    have h : (bif L == L' then V.eptr i e sh xs j off else .eptr L' e sh xs j off) = .nilp := h
    cases hq : L == L' <;> rw [hq] at h <;> cases h
  | _ => cases h
theorem upd_nilp (L e : Nat) (k : List Kd) (ys : List V) : ∀ x : V, x.upd L e k ys = .nilp → x = .nilp := by
  intro x h
  cases x with
  | nilp => rfl
  | sl e' sh o xs =>
    cases o with
    | none => cases h
    | some L' =>
      have h : (bif L == L' then V.sl e k (some L) ys else .sl e' sh (some L') xs) = .nilp := h
      cases hq : L == L' <;> rw [hq] at h <;> cases h
  | eptr L' e' sh xs i off =>
    have h : (bif L == L' then V.eptr L e k ys i off else .eptr L' e' sh xs i off) = .nilp := h
    cases hq : L == L' <;> rw [hq] at h <;> cases h
  | _ => cases h
theorem rb_nilp (k k' : Nat) : ∀ x : V, x.rb k k' = .nilp → x = .nilp := by
  intro x h
  cases x with
  | nilp => rfl
  | box j off =>
    have h : (bif j == k then V.box k' off else .box j off) = .nilp := h
    cases hq : j == k <;> rw [hq] at h <;> cases h
  | _ => cases h
theorem ren_nilp (mb ml : List (Nat × Nat)) : ∀ x : V, x.ren mb ml = .nilp → x = .nilp := by
  intro x h
  cases x with
  | nilp => rfl
  | sl e sh o xs =>
    cases o with
    | none => cases h
    | some L => cases h
  | box k off =>
    have h : (match lk mb k with | some k' => V.box k' off | none => .any) = .nilp := h
    cases hq : lk mb k <;> rw [hq] at h <;> cases h
  | fn f caps =>
    have h : (match caps with | [] => V.fn f [] | _ => .any) = .nilp := h
    cases caps <;> cases h
  | old x =>
    have h : (bif x.oldable then x else .any) = .nilp := h
    cases hq : x.oldable <;> rw [hq] at h
    · cases h
    · have h : x = .nilp := h
      subst h
      cases hq
  | _ => cases h
def BOk (P : Program) (B : Own) (g : Gh) (bx : List (Nat × List V)) (w : World) : Prop :=
  (∀ k cs, lookBx bx k = some cs → ∃ b c e, g.β k = some b ∧ B.m b ∧ w.heap[b]? = some (.cells c e (0, 0)) ∧ PW (trep g) cs c.toList ∧ (∀ u ∈ c.toList, u.oneCell' = true) ∧ g.G b = none ∧ (isBld cs = true → isBldT P e cs.length = true)) ∧
  (∀ k k' cs cs', lookBx bx k = some cs → lookBx bx k' = some cs' → g.β k = g.β k' → k = k')
def GlobOk (E : Env) (G : Known) : Prop := ∀ n v, E.glob n = some v → v.plain = true ∧ rep G v (.pointer (some ⟨n, 0, none⟩))
theorem GlobOk.more {E : Env} {G G' : Known} (h : GlobOk E G) (hm : More G G') : GlobOk E G' := fun n v hv => ⟨(h n v hv).1, rep_more hm _ _ (h n v hv).2⟩
structure BelowM (m : Nat → Prop) (w w' : World) : Prop where
  bel : Below 0 w w'
  row : ∀ b, ¬ m b → w'.heap[b]? = w.heap[b]?
theorem BelowM.refl (m : Nat → Prop) (w : World) : BelowM m w w := ⟨.refl _ _, fun _ _ => rfl⟩
theorem BelowM.trans {m : Nat → Prop} {a b c : World} (h : BelowM m a b) (k : BelowM m b c) : BelowM m a c := ⟨h.bel.trans k.bel, fun j hj => (k.row j hj).trans (h.row j hj)⟩
theorem BelowM.mono {m m' : Nat → Prop} {a b : World} (h : BelowM m a b) (hm : ∀ j, m j → m' j) : BelowM m' a b := ⟨h.bel, fun j hj => h.row j fun e => hj (hm j e)⟩
theorem BelowM.of_below {m : Nat → Prop} {w w' : World} (h : Below w.heap.size w w') (hm : ∀ b, w.heap.size ≤ b → m b) : BelowM m w w' := ⟨h.mono (Nat.zero_le _), fun b hb => h.block b (Nat.lt_of_not_le fun h => hb (hm b h))⟩
theorem BelowM.below {w w' : World} (h : BelowM (fun b => w.heap.size ≤ b) w w') : Below w.heap.size w w' := ⟨h.bel.os, h.bel.tape, h.bel.output, h.bel.size, fun b hb => h.row b (Nat.not_le.2 hb)⟩
structure Inv (E : Env) (B : Own) (G0 : Known) (w0 : World) (s : St) (g : Gh) (a : Act) (w : World) : Prop where
  fr : PW (trep g) s.fr a.tmps.toList
  df : a.defers = B.df
  gok : GOk g.G w
  own : OOk B g w
  bxs : BOk E.P B g s.bx w
  bel : BelowM B.m w0 w
  hB : B.n ≤ w.heap.size ∧ ∀ b, w.heap.size ≤ b → B.m b
  ext : (∀ b, ¬ B.m b → g.G b = G0 b) ∧ More G0 g.G ∧ ∀ k, HL ≤ k → g.β k = B.β k
  glob : GlobOk E G0 ∧ ∀ b l, G0 b = some l → b < B.n
  g1 : More g.G1 G0
theorem Inv.globG {E : Env} {B : Own} {G0 : Known} {w0 : World} {s : St} {g : Gh} {a : Act} {w : World} (h : Inv E B G0 w0 s g a w) : GlobOk E g.G :=
  h.glob.1.more h.ext.2.1
theorem More.trans {G G' G'' : Known} (h : More G G') (k : More G' G'') : More G G'' := fun b l hb => by
  obtain ⟨l', h1, h2⟩ := h b l hb
  obtain ⟨l'', h3, h4⟩ := k b l' h1
  exact ⟨l'', h3, h2.trans h4⟩
theorem Inv.m1 {E : Env} {B : Own} {G0 : Known} {w0 : World} {s : St} {g : Gh} {a : Act} {w : World} (h : Inv E B G0 w0 s g a w) : More g.G1 g.G := h.g1.trans h.ext.2.1
theorem hB_mono {B : Own} {w w' : World} (h : B.n ≤ w.heap.size ∧ ∀ b, w.heap.size ≤ b → B.m b) (hs : w.heap.size ≤ w'.heap.size) : B.n ≤ w'.heap.size ∧ ∀ b, w'.heap.size ≤ b → B.m b :=
  ⟨Nat.le_trans h.1 hs, fun b hb => h.2 b (Nat.le_trans hs hb)⟩
theorem srep_of_rep {g : Gh} {x : V} {v : Value} (hx : x.plain = true) (h : rep g.G x v) : srep g x v := by
  cases x with
  | sl e sh o xs => cases o with
    | none => exact h
    | some L => cases hx
  | box k o => cases hx
  | eptr _ _ _ _ _ _ => cases hx
  | old _ => cases hx
  | _ => exact h
theorem unOld_trep {g : Gh} {x : V} {v : Value} (h : trep g x v) : trep g x.unOld v := by
  cases x with
  | old x => exact trep_of_rep h.2.2 h.2.1
  | _ => exact h
theorem flatD_trep {g g' : Gh} {x : V} {v : Value} (hf : flatD x = true) (h : trep g x v) : trep g' x v := by
  cases x with
  | any => exact (show rep g'.G .any v by unfold rep; trivial)
  | bool b => exact h
  | int k n => exact h
  | str l => exact h
  | nilsl => exact h
  | nilif => exact h
  | nilp => exact h
  | _ => cases hf
theorem trep_any {g : Gh} {v : Value} : trep g .any v := show rep g.G .any v by unfold rep; trivial
def Gh.g0 (g : Gh) : Gh := ⟨g.G1, fun _ => none, fun _ => none, fun _ => none⟩
theorem old0_trep {g : Gh} {x : V} {v : Value} (h : trep g x v) : trep g.g0 x.old0 v := by
  cases x with
  | old x => exact trep_of_rep h.2.2 h.1
  | any => exact trep_any
  | bool b => exact flatD_trep (g := g) rfl h
  | int k n => exact flatD_trep (g := g) rfl h
  | str l => exact flatD_trep (g := g) rfl h
  | nilsl => exact flatD_trep (g := g) rfl h
  | nilif => exact flatD_trep (g := g) rfl h
  | nilp => exact flatD_trep (g := g) rfl h
  | _ => exact trep_any
theorem oldable_trep {g : Gh} {x : V} {v : Value} (hx : x.oldable = true) (hm : More g.G1 g.G) (h : trep g.g0 x v) : trep g (.old x) v := by
  have key : x.plain = true ∧ rep g.G1 x v := by
    cases x with
    | sl e sh o xs => cases o with
      | none => exact ⟨rfl, h⟩
      | some L => cases hx
    | agg cs => exact ⟨rfl, h⟩
    | rptr sh y off => exact ⟨rfl, h⟩
    | iface t y => exact ⟨rfl, h⟩
    | _ => cases hx
  exact ⟨key.2, rep_more hm _ _ key.2, key.1⟩
structure EOk (E : Env) : Prop where
  mixed : E.P.follows .mixedOrders = true
  names : (E.P.funcs.all fun fn => fn.body.isNone || fn.name != "runtime.NumGoroutine") = true
end Nt.Ev

namespace Nt.Ev
open Go Go.RowKit
def New (w w' : World) (G G' : Known) : Prop := Below w.heap.size w w' ∧ (∀ b, b < w.heap.size → G' b = G b) ∧ GOk G' w'
def ownFacts (G : Known) (w : World) (B : Nat → Prop) (e : Nat) (sh : List Kd) (xs : List V) (u : Value) : Prop :=
  0 < sh.length ∧ ((u = .slice none 0 0 ∧ xs = []) ∨ ∃ b cap cur l, u = .slice (some ⟨b, 0, none⟩) xs.length cap ∧ B b ∧ w.heap[b]? = some (.cells cur e (0, 0)) ∧ xs.length ≤ cap ∧ cap ≤ maxLen ∧
    cur.size = cap * sh.length ∧ G b = some l ∧ l.length = xs.length * sh.length ∧ repE G sh xs l)
def Does (P : Program) (ρ : Operand → Value) (o : Oper) (B : Own) (w : World) (g : Gh) (bx : List (Nat × List V)) : Eff → Prop
  | .val v => ∃ u, (execOp ρ o).run P w = .ok (.value u) w ∧ trep g v u
  | .own e sh xs => ∃ u w' G', (execOp ρ o).run P w = .ok (.value u) w' ∧ New w w' g.G G' ∧ ownFacts G' w' (w.heap.size ≤ ·) e sh xs u
  | .newSl e sh xs => ∃ u w' G', (execOp ρ o).run P w = .ok (.value u) w' ∧ New w w' g.G G' ∧ rep G' (.sl e sh none xs) u
  | .newBox e cs => ∃ c, (execOp ρ o).run P w = .ok (.value (.pointer (some ⟨w.heap.size, 0, none⟩))) (w.alloc (.cells c e)) ∧ PW (trep g) cs c.toList ∧ (∀ u ∈ c.toList, u.oneCell' = true) ∧ (isBld cs = true → isBldT P e cs.length = true)
  | .put k off cs => ∃ b c e us old, g.β k = some b ∧ lookBx bx k = some old ∧ w.heap[b]? = some (.cells c e (0, 0)) ∧ PW (trep g) old c.toList ∧
      (execOp ρ o).run P w = .ok .skip (w.setRow b (c.toList.take off ++ us ++ c.toList.drop (off + us.length)).toArray) ∧ PW (trep g) cs us ∧ (∀ u ∈ us, u.oneCell' = true) ∧ off + cs.length ≤ old.length
  | .app L e sh xs => ∃ v0 u w' G', g.O L = some (v0, e, sh.length) ∧ (execOp ρ o).run P w = .ok (.value u) w' ∧ w.grownBy w' v0.ownBlock ∧ (∀ b, b < w.heap.size → some b ≠ v0.ownBlock → G' b = g.G b) ∧ More g.G G' ∧ GOk G' w' ∧
      ownFacts G' w' (B.ok L) e sh xs u ∧ (u.ownBlock = v0.ownBlock ∨ ∀ b, u.ownBlock = some b → w.heap.size ≤ b)
  | .call f args mb ml => ∃ (vs : List Value) (as : List V), (execOp ρ o).run P w = .ok (.enter f vs.toArray) w ∧ PW (arep g) as vs ∧ handOf bx 0 as = some (args, mb, ml) ∧ okHand mb ml = true
  | .pan v => ∃ u, (execOp ρ o).run P w = .halt (.panic u) w ∧ rep g.G v u
  | .pick b x y => ∃ u, (execOp ρ o).run P w = .ok (.value u) w ∧ trep g (match b with | true => x | false => y) u
  | .lput L e sh ys => ∃ v0 b c l p u xs, g.O L = some (v0, e, sh.length) ∧ v0.ownBlock = some b ∧ w.heap[b]? = some (.cells c e (0, 0)) ∧ g.G b = some l ∧ p < l.length ∧ ownG g.G sh xs v0 ∧ ys.length = xs.length ∧ sh.all flatK = true ∧
      repE g.G sh ys (l.set p u) ∧ u.oneCell' = true ∧ (execOp ρ o).run P w = .ok .skip (w.setRow b (c.toList.take p ++ [u] ++ c.toList.drop (p + 1)).toArray)
  | .alts i vs => ∀ (j : Nat) v, i = (j : Int) → vs[j]? = some v → ∃ u, (execOp ρ o).run P w = .ok (.value u) w ∧ trep g v u
theorem absC_rep (G : Known) (v : Value) : rep G (absC v) v := by
  unfold absC
  split
  · unfold rep; rfl
  · unfold rep; rfl
  · rename_i s; unfold rep; cases s; simp
  · unfold rep; rfl
  · unfold rep; rfl
  · unfold rep; rfl
  · unfold rep; trivial
theorem absC_plain (v : Value) : (absC v).plain = true := by unfold absC; split <;> rfl
theorem absV_rep (G : Known) (v : Value) : rep G (absV v) v := by
  unfold absV
  split
  · rename_i cs
    unfold rep
    refine ⟨cs.toList, by simp, (repL_iff _ _).2 ⟨by simp, fun i x v hx hv => ?_⟩⟩
    simp only [List.getElem?_map, hv, Option.map_some, Option.some.injEq] at hx
    subst hx
    exact absC_rep G v
  · exact absC_rep G v
theorem absV_plain (v : Value) : (absV v).plain = true := by unfold absV; split; rfl; exact absC_plain v
section
variable {E : Env} {B : Own} {G0 : Known} {w0 : World} {s : St} {g : Gh} {a : Act} {w : World}
theorem evalO_rep (hf : PW (trep g) s.fr a.tmps.toList) (hg : GlobOk E g.G) (x : Operand) : trep g (evalO E s.fr x) (a.eval x) := by
  cases x with
  | tmp t =>
    show trep g (slot s.fr t) (a.tmps.getD t undef)
    unfold slot
    by_cases h : t < s.fr.length
    · have h' : t < a.tmps.toList.length := by rw [← hf.1]; exact h
      have := hf.2 t s.fr[t] a.tmps.toList[t] (List.getElem?_eq_getElem h) (List.getElem?_eq_getElem h')
      rw [List.getD_eq_getElem?_getD, List.getElem?_eq_getElem h]
      have h'' : t < a.tmps.size := by simpa using h'
      have e : a.tmps.getD t undef = a.tmps.toList[t] := by simp [Array.getD, h'']
      rw [e]
      exact this
    · have : s.fr.getD t .any = .any := by rw [List.getD_eq_getElem?_getD, List.getElem?_eq_none (Nat.le_of_not_lt h)]; rfl
      rw [this]
      simp only [trep, srep]
      unfold rep; trivial
  | const v => exact trep_of_rep (absV_plain v) (absV_rep g.G v)
  | global n =>
    show trep g (match E.glob n with | some v => v | none => .any) (.pointer (some ⟨n, 0, none⟩))
    cases h : E.glob n with
    | none => simp only [trep, srep]; unfold rep; trivial
    | some v => exact trep_of_rep (hg n v h).1 (hg n v h).2
  | func f => exact ⟨[], (cloV_nil _).symm, .nil⟩
end
section
variable {P : Program} {ρ : Operand → Value} {o : Oper} {B : Own} {w : World} {g : Gh} {bx : List (Nat × List V)}
theorem does_val {v : V} {u : Value} {m : Sem Value} (h1 : execOp ρ o = (do pure (.value (← m)))) (h2 : m.run P w = .ok u w) (h3 : trep g v u) : Does P ρ o B w g bx (.val v) :=
  ⟨u, by rw [h1]; simp [h2], h3⟩
theorem trep_bool {b : Bool} {v : Value} : trep g (.bool b) v ↔ v = .bool b := by simp only [trep, srep]; unfold rep; rfl
theorem trep_int {k : IntKind} {n : Int} {v : Value} : trep g (.int k n) v ↔ v = .int k n := by simp only [trep, srep]; unfold rep; rfl
theorem trep_str {l : List UInt8} {v : Value} : trep g (.str l) v ↔ v = .string ⟨l.toArray⟩ := by simp only [trep, srep]; unfold rep; rfl
theorem trep_nilif {g : Gh} {v : Value} : trep g .nilif v ↔ v = .nilIface := by simp only [trep, srep]; unfold rep; exact Iff.rfl
theorem trep_nilp {g : Gh} {v : Value} : trep g .nilp v ↔ v = .pointer none := by simp only [trep, srep]; unfold rep; exact Iff.rfl
theorem trep_iface {g : Gh} {t : Nat} {x : V} {v : Value} : trep g (.iface t x) v ↔ ∃ u, v = .iface t u ∧ rep g.G x u := by
  simp only [trep, srep]
  constructor
  · intro h; unfold rep at h; exact h
  · intro h; unfold rep; exact h
theorem trep_nilsl {v : Value} : trep g .nilsl v ↔ v = .slice none 0 0 := by simp only [trep, srep]; unfold rep; rfl
theorem trep_agg {cs : List V} {v : Value} : trep g (.agg cs) v ↔ ∃ a : List Value, v = .agg a.toArray ∧ PW (rep g.G) cs a := by simp only [trep, srep]; unfold rep; simp only [repL_iff]
theorem trep_box {k off : Nat} {v : Value} : trep g (.box k off) v ↔ ∃ b, g.β k = some b ∧ v = .pointer (some ⟨b, off, none⟩) := by simp only [trep, srep]
theorem trep_eptr {L e : Nat} {sh : List Kd} {xs : List V} {i : Int} {off : Nat} {v : Value} : trep g (.eptr L e sh xs i off) v ↔ ∃ v0 b, g.O L = some (v0, e, sh.length) ∧ ownG g.G sh xs v0 ∧ 0 ≤ i ∧ i < (xs.length : Int) ∧ v0.ownBlock = some b ∧ v = .pointer (some ⟨b, i.toNat * sh.length + off, none⟩) := by simp only [trep, srep]
theorem trep_rptr {sh : List Kd} {x : V} {off : Nat} {v : Value} : trep g (.rptr sh x off) v ↔ ∃ b o l, v = .pointer (some ⟨b, o + off, none⟩) ∧ g.G b = some l ∧ fitsE sh x = true ∧ ∃ u, rep g.G x u ∧ (l.drop o).take sh.length = u.cells.toList := by
  show rep g.G (.rptr sh x off) v ↔ _; rw [rep]
theorem trep_slice {e : Nat} {sh : List Kd} {ow : Option Nat} {xs : List V} {v : Value} (h : trep g (.sl e sh ow xs) v) : rep g.G (.sl e sh none xs) v := by
  cases ow with
  | none => exact h
  | some L => exact ownG_rep h.2
theorem seq_toList (a b : List UInt8) : ((⟨a.toArray⟩ : ByteArray).toList == (⟨b.toArray⟩ : ByteArray).toList) = seq a b := by
  rw [ByteArray.toList_eq, ByteArray.toList_eq]; rfl
theorem cat_bytes (a b : List UInt8) : (⟨a.toArray⟩ : ByteArray) ++ ⟨b.toArray⟩ = ⟨(scat a b).toArray⟩ := by
  apply ByteArray.ext
  simp [scat]
theorem eqGuard_int (op : BinOp) (t : TypeId) (x y : Operand) (k k' : IntKind) (a b : Int) : (eqGuard op t x y (.int k a) (.int k' b)).run P w = .ok () w := by
  unfold eqGuard; split <;> rfl
theorem eqGuard_str (op : BinOp) (t : TypeId) (x y : Operand) (a b : ByteArray) : (eqGuard op t x y (.string a) (.string b)).run P w = .ok () w := by
  unfold eqGuard; split <;> rfl
theorem eqGuard_bool (op : BinOp) (t : TypeId) (x y : Operand) (a b : Bool) : (eqGuard op t x y (.bool a) (.bool b)).run P w = .ok () w := by
  unfold eqGuard; split <;> rfl
theorem binOp_sound {op : BinOp} {xt yt : TypeId} {x y : Operand} {X Y : V} (ho : o.op = .binOp op xt x y yt) (hx : trep g X (ρ x)) (hy : trep g Y (ρ y)) {v : V} (h : binV op X Y = some (true, v))
    (hbool : ∀ a b, X = .bool a → Y = .bool b → P.underlying xt = some .bool) : Does P ρ o B w g bx (.val v) := by
  have he : execOp ρ o = (do pure (.value (← (do eqGuard op xt x y (ρ x) (ρ y); binOp op xt (ρ x) (ρ y))))) := by simp only [execOp, ho]
  unfold binV at h
  split at h
  · rename_i k a k' b
    rw [trep_int] at hx hy
    have key : ∀ u, (binOp op xt (.int k a) (.int k' b)).run P w = .ok u w → trep g v u → Does P ρ o B w g bx (.val v) := by
      intro u hu ht
      refine does_val he ?_ ht
      rw [hx, hy]
      simp only [Sem.run_bind, eqGuard_int, Result.andThen_ok, hu]
    split at h
    · simp only [Option.some.injEq, Prod.mk.injEq] at h
      obtain ⟨h1, rfl⟩ := h
      unfold ile at h1
      have h1 := of_decide_eq_true h1
      refine key (.int k (ishl k a b)) ?_ (trep_int.2 rfl)
      simp [binOp, Op.shift, ishl, Int.not_lt.2 h1]
    · simp only [Option.some.injEq, Prod.mk.injEq] at h
      obtain ⟨h1, rfl⟩ := h
      unfold ile at h1
      have h1 := of_decide_eq_true h1
      refine key (.int k (ishr k a b)) ?_ (trep_int.2 rfl)
      simp [binOp, Op.shift, ishr, Int.not_lt.2 h1]
    · rename_i hn1 hn2
      simp only [cond_eq_ite, decide_eq_true_eq] at h
      split at h
      · rename_i hk
        subst hk
        unfold intV at h
        split at h
        all_goals first | (cases h; done) | skip
        all_goals
          simp only [Option.some.injEq, Prod.mk.injEq] at h
          obtain ⟨h1, rfl⟩ := h
          first
            | refine key _ (by simp only [binOp, ne_eq, not_true_eq_false, if_false, Op.intArith]; rfl) (trep_int.2 rfl)
            | refine key _ (by simp only [binOp, ne_eq, not_true_eq_false, if_false, Op.intBits]; rfl) (trep_int.2 rfl)
            | refine key _ (by simp only [binOp, ne_eq, not_true_eq_false, if_false, Op.intCmp]; rfl) (trep_bool.2 rfl)
            | (have hb : b ≠ 0 := by
                 intro hb
                 subst hb
                 simp [bnot, ieq] at h1
               refine key _ (by simp only [binOp, ne_eq, not_true_eq_false, if_false, Op.intDiv, hb]; rfl) (trep_int.2 rfl))
      · cases h
  · rename_i a b
    rw [trep_str] at hx hy
    have key : ∀ u, (Op.stringOp op ⟨a.toArray⟩ ⟨b.toArray⟩).run P w = .ok u w → trep g v u → Does P ρ o B w g bx (.val v) := by
      intro u hu ht
      refine does_val he ?_ ht
      rw [hx, hy]
      have e : binOp op xt (.string ⟨a.toArray⟩) (.string ⟨b.toArray⟩) = Op.stringOp op ⟨a.toArray⟩ ⟨b.toArray⟩ := by cases op <;> rfl
      simp only [Sem.run_bind, eqGuard_str, Result.andThen_ok, e, hu]
    unfold strV at h
    split at h
    all_goals first | (cases h; done) | skip
    all_goals
      simp only [Option.some.injEq, Prod.mk.injEq] at h
      obtain ⟨h1, rfl⟩ := h
    · unfold okCat nle at h1
      have h1 := of_decide_eq_true h1
      refine key (.string ⟨(scat a b).toArray⟩) ?_ (trep_str.2 rfl)
      have hs : ¬ (((⟨a.toArray⟩ : ByteArray).size + (⟨b.toArray⟩ : ByteArray).size : Nat) : Int) > IntKind.i64.max := by
        have e1 : (⟨a.toArray⟩ : ByteArray).size = a.length := by simp [ByteArray.size]
        have e2 : (⟨b.toArray⟩ : ByteArray).size = b.length := by simp [ByteArray.size]
        rw [e1, e2]
        have : IntKind.i64.max = 9223372036854775807 := by decide
        rw [this]; omega
      simp only [Op.stringOp, hs, if_false, cat_bytes]
      rfl
    · refine key _ (by simp only [Op.stringOp, seq_toList]; rfl) (trep_bool.2 rfl)
    · refine key _ (by simp only [Op.stringOp, seq_toList]; rfl) (trep_bool.2 rfl)
    · refine key _ (by simp only [Op.stringOp, ByteArray.toList_eq]; rfl) (trep_bool.2 rfl)
    · refine key _ (by simp only [Op.stringOp, ByteArray.toList_eq]; rfl) (trep_bool.2 rfl)
    · refine key (.bool (band (bnot (slt a b)) (bnot (seq a b)))) ?_ (trep_bool.2 rfl)
      have e : (!(Op.bytesLess a b || a == b)) = band (bnot (slt a b)) (bnot (seq a b)) := by
        unfold slt seq; cases Op.bytesLess a b <;> cases a == b <;> rfl
      rw [← e]
      simp only [Op.stringOp, ByteArray.toList_eq]; rfl
    · refine key (.bool (bnot (band (bnot (slt a b)) (bnot (seq a b))))) ?_ (trep_bool.2 rfl)
      have e : (Op.bytesLess a b || a == b) = bnot (band (bnot (slt a b)) (bnot (seq a b))) := by
        unfold slt seq; cases Op.bytesLess a b <;> cases a == b <;> rfl
      rw [← e]
      simp only [Op.stringOp, ByteArray.toList_eq]; rfl
  · rename_i a b
    have hu := hbool a b rfl rfl
    rw [trep_bool] at hx hy
    have hq : (Op.equal xt (.bool a) (.bool b)).run P w = .ok (a == b) w := by
      have e : Op.equal xt (.bool a) (.bool b) = Op.equalIn (9999 + 1) xt (.bool a) (.bool b) := rfl
      rw [e, Op.equalIn]
      simp only [Sem.run_bind, run_underlying hu, Result.andThen_ok]
      rfl
    split at h
    all_goals first | (cases h; done) | skip
    all_goals
      simp only [Option.some.injEq, Prod.mk.injEq] at h
      obtain ⟨h1, rfl⟩ := h
    · refine does_val he (u := .bool (a == b)) ?_ (trep_bool.2 rfl)
      rw [hx, hy]
      simp only [Sem.run_bind, eqGuard_bool, Result.andThen_ok, binOp, hq, Sem.run_pure]
    · refine does_val he (u := .bool (!(a == b))) ?_ (trep_bool.2 rfl)
      rw [hx, hy]
      simp only [Sem.run_bind, eqGuard_bool, Result.andThen_ok, binOp, hq, Sem.run_pure]
  · cases h
end
end Nt.Ev

namespace Nt.Ev
open Go Go.RowKit
mutual
theorem Kd.eq_sound : ∀ (a b : Kd), Kd.eq a b = true → a = b
  | .bool, .bool, _ => rfl
  | .int k, .int k', h => by simp only [Kd.eq, beq_iff_eq] at h; rw [h]
  | .str, .str, _ => rfl
  | .sl e sh, .sl e' sh', h => by
    simp only [Kd.eq, Bool.and_eq_true, beq_iff_eq] at h
    rw [h.1, Kd.eqL_sound sh sh' h.2]
  | .oth, .oth, h => by simp [Kd.eq] at h
  | .bool, .int _, h => by simp [Kd.eq] at h
  | .bool, .str, h => by simp [Kd.eq] at h
  | .bool, .sl _ _, h => by simp [Kd.eq] at h
  | .bool, .oth, h => by simp [Kd.eq] at h
  | .int _, .bool, h => by simp [Kd.eq] at h
  | .int _, .str, h => by simp [Kd.eq] at h
  | .int _, .sl _ _, h => by simp [Kd.eq] at h
  | .int _, .oth, h => by simp [Kd.eq] at h
  | .str, .bool, h => by simp [Kd.eq] at h
  | .str, .int _, h => by simp [Kd.eq] at h
  | .str, .sl _ _, h => by simp [Kd.eq] at h
  | .str, .oth, h => by simp [Kd.eq] at h
  | .sl _ _, .bool, h => by simp [Kd.eq] at h
  | .sl _ _, .int _, h => by simp [Kd.eq] at h
  | .sl _ _, .str, h => by simp [Kd.eq] at h
  | .sl _ _, .oth, h => by simp [Kd.eq] at h
  | .oth, .bool, h => by simp [Kd.eq] at h
  | .oth, .int _, h => by simp [Kd.eq] at h
  | .oth, .str, h => by simp [Kd.eq] at h
  | .oth, .sl _ _, h => by simp [Kd.eq] at h
theorem Kd.eqL_sound : ∀ (a b : List Kd), Kd.eqL a b = true → a = b
  | [], [], _ => rfl
  | [], _ :: _, h => by simp [Kd.eqL] at h
  | _ :: _, [], h => by simp [Kd.eqL] at h
  | a :: l, b :: m, h => by
    simp only [Kd.eqL, Bool.and_eq_true] at h
    rw [Kd.eq_sound a b h.1, Kd.eqL_sound l m h.2]
end
theorem fitsL_get : ∀ (sh : List Kd) (vs : List V), fitsL sh vs = true → ∀ (j : Nat) k v, sh[j]? = some k → vs[j]? = some v → fits k v = true
  | [], _, _, j, _, _, h, _ => by simp at h
  | _ :: _, [], h, _, _, _, _, _ => by simp [fitsL] at h
  | k :: sh, v :: vs, h, 0, k', v', h1, h2 => by
    simp only [fitsL, band] at h
    simp at h1 h2
    subst h1; subst h2
    split at h
    · assumption
    · cases h
  | k :: sh, v :: vs, h, j + 1, k', v', h1, h2 => by
    simp only [fitsL, band] at h
    split at h
    · exact fitsL_get sh vs h j k' v' (by simpa using h1) (by simpa using h2)
    · cases h
theorem fits_one {G : Known} {k : Kd} {v : V} {u : Value} (hf : fits k v = true) (h : rep G v u) : u.oneCell' = true := by
  cases v <;> cases k <;> simp [fits] at hf <;> unfold rep at h
  all_goals first | (subst h; rfl) | (obtain ⟨p, cap, rfl, _⟩ := h; rfl)
theorem eta_rep {G : Known} {k : Kd} {v : V} {u : Value} (hf : fits k v = true) (h : rep G v u) : rep G (eta k v) u := by
  cases k with
  | bool => cases v <;> simp [fits] at hf; exact h
  | int k =>
    cases v <;> simp [fits] at hf
    subst hf; exact h
  | str => cases v <;> simp [fits] at hf; exact h
  | sl e sh =>
    cases v with
    | sl e' sh' o xs =>
      simp only [fits, Bool.and_eq_true, beq_iff_eq] at hf
      obtain ⟨rfl, h2⟩ := hf
      obtain rfl := Kd.eqL_sound _ _ h2
      exact rep_label h
    | nilsl =>
      unfold rep at h; subst h
      show rep G (.sl e sh none []) _
      unfold rep
      exact ⟨none, 0, rfl, Nat.le_refl _, .inl rfl⟩
    | _ => simp [fits] at hf
  | oth => cases v <;> simp [fits] at hf
theorem eta_plain {k : Kd} {v : V} (hf : fits k v = true) : (eta k v).plain = true := by
  cases k <;> first | rfl | (cases v <;> simp [fits] at hf)
theorem acell_get {x y : V} {j : Nat} (h : x.cells[j]? = some y) : acell x j = y := by
  cases x with
  | agg cs => simp only [V.cells] at h; simp [acell, h]
  | _ =>
    simp only [V.cells] at h
    cases j with
    | zero => simp at h; subst h; rfl
    | succ j => simp at h
section
variable {P : Program} {ρ : Operand → Value} {o : Oper} {B : Own} {w : World} {g : Gh} {bx : List (Nat × List V)}
theorem isAggT_true {t : TypeId} (h : isAggT P t = some true) : ∃ d, P.underlying t = some d ∧ d.isRow = true := by
  unfold isAggT at h
  split at h
  · rename_i hd; exact ⟨_, hd, rfl⟩
  · rename_i hd; exact ⟨_, hd, rfl⟩
  · cases h
  · cases h
theorem isAggT_run {t : TypeId} {b : Bool} (h : isAggT P t = some b) : (isAgg t).run P w = .ok b w := by
  unfold isAggT at h
  split at h
  · rename_i hd; simp only [Option.some.injEq] at h; subst h; simp [isAgg, run_underlying hd]
  · rename_i hd; simp only [Option.some.injEq] at h; subst h; simp [isAgg, run_underlying hd]
  · rename_i d h1 h2 hd
    simp only [Option.some.injEq] at h; subst h
    simp only [isAgg, Sem.run_bind, run_underlying hd, Result.andThen_ok]
    cases d <;> first | rfl | exact absurd rfl (h1 _) | exact absurd rfl (h2 _ _)
  · cases h
theorem sizeT_info {t : TypeId} {n : Nat} (h : sizeT P t = some n) : ∃ i, P.info? t = some i ∧ i.size = n := by
  unfold sizeT at h
  split at h
  · rename_i i hi; exact ⟨i, hi, by simpa using h⟩
  · cases h
theorem sizeT_run {t : TypeId} {n : Nat} (h : sizeT P t = some n) : (Go.sizeOf t).run P w = .ok n w := by
  obtain ⟨i, hi, rfl⟩ := sizeT_info h
  simp [Go.sizeOf, typeInfo, hi]
theorem known_cell {G : Known} (hG : GOk G w) {b : Nat} {l : List Value} (h : G b = some l) {j : Nat} {u : Value} (hu : l[j]? = some u) : w.cell? ⟨b, j, none⟩ = some u := by
  obtain ⟨c, e, fr, hc, ht⟩ := hG b l h
  have : c.toList[j]? = some u := by
    rw [← ht, List.getElem?_take] at hu
    split at hu
    · exact hu
    · cases hu
  simp [World.cell?, hc, Array.getElem?_toList] at this ⊢
  simpa using this
theorem load_agg {t : TypeId} {b o : Nat} {cs : List Value} (ha : isAggT P t = some true) (hs : sizeT P t = some cs.length) (hc : ∀ j u, cs[j]? = some u → w.cell? ⟨b, o + j, none⟩ = some u) :
    (Instr.loadAt t (.pointer (some ⟨b, o, none⟩))).run P w = .ok (.agg cs.toArray) w := by
  obtain ⟨d, hd, hr⟩ := isAggT_true ha
  obtain ⟨i, hi, hn⟩ := sizeT_info hs
  exact run_loadAt_mid w b o t cs d hc hd hr (by rw [hi]; simp [hn])
theorem load_one {t : TypeId} {b o : Nat} {u : Value} (ha : isAggT P t = some false) (hc : w.cell? ⟨b, o, none⟩ = some u) :
    (Instr.loadAt t (.pointer (some ⟨b, o, none⟩))).run P w = .ok u w := by
  simp only [Instr.loadAt, Instr.sureAddr, loadVar, Sem.run_bind, Sem.run_pure, Result.andThen_ok, isAggT_run ha, Bool.false_eq_true, if_false, run_load, hc]
theorem loadV_sound {t : TypeId} {a : Operand} {sh : List Kd} {x : V} {off : Nat} {eff : Eff} (ho : o.op = .load t a) (hG : GOk g.G w) (ha : trep g (.rptr sh x off) (ρ a)) (h : loadV P t sh x off = some (true, eff)) : Does P ρ o B w g bx eff := by
  rw [trep_rptr] at ha
  obtain ⟨b, q, l, hp, hl, hf, u, hu, hc⟩ := ha
  have he : execOp ρ o = (do pure (.value (← Instr.loadAt t (ρ a)))) := by simp only [execOp, ho]
  have hx : x ≠ .any := fun e => by rw [e, fitsE_any] at hf; cases hf
  obtain ⟨hlen, hpw⟩ := rep_cells hu hx
  have hshl := fitsL_len _ _ hf
  have hcell : ∀ j v, u.cells.toList[j]? = some v → w.cell? ⟨b, q + j, none⟩ = some v := by
    intro j v hv
    refine known_cell hG hl ?_
    rw [← hc, List.getElem?_take] at hv
    split at hv
    · rw [List.getElem?_drop] at hv; exact hv
    · cases hv
  have heta : ∀ j k v, sh[j]? = some k → u.cells.toList[j]? = some v → fits k (acell x j) = true ∧ rep g.G (eta k (acell x j)) v := by
    intro j k v hk hv
    have hj : j < x.cells.length := by
      have := (List.getElem?_eq_some_iff.1 hk).1
      unfold fitsE at hf; omega
    have hy := List.getElem?_eq_getElem hj
    rw [acell_get hy]
    have h1 := fitsL_get sh x.cells hf j k _ hk hy
    exact ⟨h1, eta_rep h1 (hpw.2 j _ v hy hv)⟩
  unfold loadV at h
  split at h
  · rename_i n hagg hs
    simp only [cond_eq_ite] at h
    split at h
    · rename_i hle
      have hle := Nat.le_of_ble_eq_true hle
      simp only [ok, Option.some.injEq, Prod.mk.injEq, true_and] at h
      subst h
      have hcs : ((u.cells.toList.drop off).take n).length = n := by simp; omega
      refine does_val he (u := .agg ((u.cells.toList.drop off).take n).toArray) ?_ (trep_agg.2 ⟨_, rfl, ?_⟩)
      · rw [hp]
        refine load_agg hagg (by rw [hcs]; exact hs) ?_
        intro j v hv
        rw [List.getElem?_take] at hv
        split at hv
        · rw [List.getElem?_drop] at hv
          rw [Nat.add_assoc]
          exact hcell _ _ hv
        · cases hv
      · refine ⟨by simp; omega, fun j y v hy hv => ?_⟩
        rw [List.getElem?_take] at hv
        split at hv
        · rename_i hj
          rw [List.getElem?_drop] at hv
          simp only [List.getElem?_map, List.getElem?_range hj, Option.map_some, Option.some.injEq] at hy
          subst hy
          have hk : off + j < sh.length := by omega
          rw [List.getD_eq_getElem?_getD, List.getElem?_eq_getElem hk]
          exact (heta _ _ _ (List.getElem?_eq_getElem hk) hv).2
        · cases hv
    · cases h
  · rename_i hagg
    simp only [cond_eq_ite] at h
    split at h
    · rename_i hlt
      have hlt : off < sh.length := by simpa [Nat.blt_eq] using hlt
      simp only [ok, Option.some.injEq, Prod.mk.injEq, true_and] at h
      subst h
      have hj : off < u.cells.toList.length := by simp; unfold fitsE at hf; omega
      have hv := List.getElem?_eq_getElem hj
      have hk := List.getElem?_eq_getElem hlt
      obtain ⟨h1, h2⟩ := heta off _ _ hk hv
      refine does_val he (u := u.cells.toList[off]) ?_ ?_
      · rw [hp]; exact load_one hagg (hcell _ _ hv)
      · rw [List.getD_eq_getElem?_getD, hk]
        exact trep_of_rep (eta_plain h1) h2
    · cases h
  · cases h
theorem readBx_pw {cells cs : List V} {us : List Value} {off n : Nat} (h : readBx cells off n = some cs) (hp : PW (trep g) cells us) : off + n ≤ us.length ∧ PW (rep g.G) cs ((us.drop off).take n) := by
  unfold readBx at h
  simp only [cond_eq_ite] at h
  split at h
  · rename_i hle
    have hle := Nat.le_of_ble_eq_true hle
    exact ⟨by rw [← hp.1]; exact hle, deepL_pw _ _ _ h ((hp.drop off).take n)⟩
  · cases h
theorem getD_some {l : List V} {i : Nat} (h : i < l.length) : l[i]? = some (l.getD i .any) := by
  rw [List.getD_eq_getElem?_getD, List.getElem?_eq_getElem h]; rfl
theorem loadBx_sound {t : TypeId} {a : Operand} {k off : Nat} {cells : List V} (ho : o.op = .load t a) (hB : BOk P B g bx w) (ha : trep g (.box k off) (ρ a)) (hl : lookBx bx k = some cells) :
    (∀ n cs, isAggT P t = some true → sizeT P t = some n → readBx cells off n = some cs → Does P ρ o B w g bx (.val (.agg cs))) ∧
    (isAggT P t = some false → off < cells.length → Does P ρ o B w g bx (.val (cells.getD off .any))) := by
  have he : execOp ρ o = (do pure (.value (← Instr.loadAt t (ρ a)))) := by simp only [execOp, ho]
  obtain ⟨b, hb, hp⟩ := trep_box.1 ha
  obtain ⟨b', c, e, hb', _, hh, hpw, _, _⟩ := hB.1 k cells hl
  rw [hb] at hb'
  simp only [Option.some.injEq] at hb'
  subst hb'
  have hcell : ∀ j v, c.toList[j]? = some v → w.cell? ⟨b, j, none⟩ = some v := by
    intro j v hv
    simp only [World.cell?, hh]
    simpa using hv
  constructor
  · intro n cs hagg hs hr
    obtain ⟨h1, h2⟩ := readBx_pw hr hpw
    have hlen : ((c.toList.drop off).take n).length = n := by rw [List.length_take, List.length_drop]; omega
    refine does_val he (u := .agg ((c.toList.drop off).take n).toArray) ?_ (trep_agg.2 ⟨_, rfl, h2⟩)
    rw [hp]
    refine load_agg hagg (by rw [hlen]; exact hs) ?_
    intro j v hv
    rw [List.getElem?_take] at hv
    split at hv
    · rw [List.getElem?_drop] at hv; exact hcell _ _ hv
    · cases hv
  · intro hagg hlt
    obtain ⟨v, hv, hr⟩ := hpw.get (getD_some hlt)
    refine does_val he (u := v) ?_ hr
    rw [hp]; exact load_one hagg (hcell _ _ hv)
theorem fieldOf_spec {t : TypeId} {f : Nat} {fd : Field} (h : fieldOf P t f = some fd) : ∃ fs, P.underlying t = some (.struct fs) ∧ fs[f]? = some fd := by
  unfold fieldOf at h
  split at h
  · rename_i fs hfs; exact ⟨fs, hfs, h⟩
  · cases h
theorem fieldAddr_run {t : TypeId} {f : Nat} {fd : Field} {n b q : Nat} (h : fieldOf P t f = some fd) (hs : sizeT P fd.type = some n) (hn : n ≠ 0) :
    (Instr.fieldAt t (.pointer (some ⟨b, q, none⟩)) f).run P w = .ok (.pointer (some ⟨b, q + fd.offset, none⟩)) w := by
  obtain ⟨fs, hfs, hf⟩ := fieldOf_spec h
  simp [Instr.fieldAt, run_underlying hfs, hf, Instr.sureAddr, fieldPlace, sizeT_run hs, hn, Addr.add_mid]
theorem rep_deep {G : Known} {x y : V} {v : Value} (h : rep G x v) (hd : x.deep = some y) : rep G y v := by
  cases x with
  | fn f c => cases c with
    | nil => simp only [V.deep, Option.some.injEq] at hd; subst hd; exact h
    | cons _ _ => simp [V.deep] at hd
  | iface t x => simp only [V.deep, Option.some.injEq] at hd; subst hd; exact h
  | _ => simp [V.deep] at hd <;> subst hd <;> first | exact h | exact rep_label h
theorem partOf_sound {t : TypeId} {x : Operand} {f : Nat} {fd : Field} {cs : List V} {eff : Eff} (ho : o.op = .field t x f) (hf : fieldOf P t f = some fd) (hx : trep g (.agg cs) (ρ x)) (h : partOf P fd.type cs fd.offset = some (true, eff)) : Does P ρ o B w g bx eff := by
  obtain ⟨a, ha, hpw⟩ := trep_agg.1 hx
  have he : execOp ρ o = (do pure (.value (← Instr.field t (ρ x) f))) := by simp only [execOp, ho]
  obtain ⟨fs, hfs, hfd⟩ := fieldOf_spec hf
  have hrun : (Instr.field t (ρ x) f).run P w = (part fd.type a.toArray fd.offset).run P w := by
    rw [ha]
    simp [Instr.field, run_underlying hfs, hfd, asAgg]
  unfold partOf at h
  split at h
  · rename_i n hagg hs
    simp only [cond_eq_ite] at h
    split at h
    · rename_i hle
      simp only [ok, Option.some.injEq, Prod.mk.injEq, true_and] at h
      subst h
      refine does_val he (u := .agg ((a.drop fd.offset).take n).toArray) ?_ (trep_agg.2 ⟨_, rfl, (hpw.drop _).take _⟩)
      rw [hrun]
      simp only [part, Sem.run_bind, isAggT_run hagg, Result.andThen_ok, if_true, sizeT_run hs, Sem.run_pure]
      have e : a.toArray.extract fd.offset (fd.offset + n) = (List.take n (List.drop fd.offset a)).toArray := by
        rw [← Array.toList_inj]
        simp
      rw [e]
    · cases h
  · rename_i hagg
    simp only [cond_eq_ite] at h
    split at h
    · rename_i hlt
      have hlt : fd.offset < cs.length := by simpa [Nat.blt_eq] using hlt
      split at h
      · rename_i y hy
        simp only [ok, Option.some.injEq, Prod.mk.injEq, true_and] at h
        subst h
        obtain ⟨v, hv, hr⟩ := hpw.get (getD_some hlt)
        refine does_val he (u := v) ?_ (trep_of_rep (deep_plain hy) (rep_deep hr hy))
        rw [hrun]
        simp [part, isAggT_run hagg, hv]
      · cases h
    · cases h
  · cases h
end
end Nt.Ev

namespace Nt.Ev
open Go Go.RowKit
theorem repE_get {G : Known} {sh : List Kd} : ∀ (xs : List V) (cells : List Value), repE G sh xs cells → ∀ (i : Nat) x, xs[i]? = some x → fitsE sh x = true ∧ ∃ u, rep G x u ∧ (cells.drop (i * sh.length)).take sh.length = u.cells.toList
  | [], _, _, i, _, h => by simp at h
  | y :: xs, cells, h, 0, x, hx => by
    unfold repE at h
    simp at hx; subst hx
    exact ⟨h.1, by simpa using h.2.1⟩
  | y :: xs, cells, h, i + 1, x, hx => by
    unfold repE at h
    have := repE_get xs _ h.2.2 i x (by simpa using hx)
    rw [List.drop_drop] at this
    rw [show (i + 1) * sh.length = sh.length + i * sh.length by rw [Nat.add_mul, Nat.one_mul, Nat.add_comm]]
    exact this
theorem repE_drop {G : Known} {sh : List Kd} : ∀ (n : Nat) (xs : List V) (cells : List Value), repE G sh xs cells → repE G sh (xs.drop n) (cells.drop (n * sh.length))
  | 0, xs, cells, h => by simpa using h
  | n + 1, [], cells, h => by simp [repE_nil]
  | n + 1, y :: xs, cells, h => by
    unfold repE at h
    have := repE_drop n xs _ h.2.2
    rw [List.drop_drop] at this
    rw [show (n + 1) * sh.length = sh.length + n * sh.length by rw [Nat.add_mul, Nat.one_mul, Nat.add_comm], List.drop_succ_cons]
    exact this
theorem repE_take {G : Known} {sh : List Kd} : ∀ (n : Nat) (xs : List V) (cells : List Value), repE G sh xs cells → repE G sh (xs.take n) cells
  | 0, xs, cells, h => by simp [repE_nil]
  | n + 1, [], cells, h => by simp [repE_nil]
  | n + 1, y :: xs, cells, h => by
    unfold repE at h
    rw [List.take_succ_cons]
    unfold repE
    exact ⟨h.1, h.2.1, repE_take n xs _ h.2.2⟩
theorem repE_append {G : Known} {sh : List Kd} : ∀ (xs ys : List V) (c d : List Value), repE G sh xs c → repE G sh ys d → c.length = xs.length * sh.length → repE G sh (xs ++ ys) (c ++ d)
  | [], ys, c, d, _, hy, hl => by
    have : c = [] := List.eq_nil_of_length_eq_zero (by simpa using hl)
    subst this; exact hy
  | x :: xs, ys, c, d, hx, hy, hl => by
    unfold repE at hx
    rw [List.cons_append]
    unfold repE
    have hl' : sh.length ≤ c.length := by rw [hl, List.length_cons, Nat.add_mul]; omega
    refine ⟨hx.1, ?_, ?_⟩
    · rw [List.take_append_of_le_length hl']; exact hx.2.1
    · rw [List.drop_append_of_le_length hl']
      exact repE_append xs ys _ d hx.2.2 hy (by rw [List.length_drop, hl, List.length_cons, Nat.add_mul]; omega)
theorem repE_cells {G : Known} {sh : List Kd} : ∀ (xs : List V) (cells : List Value), repE G sh xs cells → xs.length * sh.length ≤ cells.length ∧ repE G sh xs (cells.take (xs.length * sh.length))
  | [], cells, h => by simp [repE_nil]
  | x :: xs, cells, h => by
    have h' := h
    unfold repE at h
    have ⟨i1, i2⟩ := repE_cells xs _ h.2.2
    obtain ⟨u, hu, hc⟩ := h.2.1
    have hlen := fit_cells h.1 hu
    rw [← hc, List.length_take] at hlen
    have e : (x :: xs).length * sh.length = sh.length + xs.length * sh.length := by rw [List.length_cons, Nat.add_mul, Nat.one_mul, Nat.add_comm]
    rw [List.length_drop] at i1
    refine ⟨by rw [e]; omega, ?_⟩
    unfold repE
    refine ⟨h.1, ⟨u, hu, ?_⟩, ?_⟩
    · rw [List.take_take, e, Nat.min_eq_left (by omega)]; exact hc
    · rw [List.drop_take, e, Nat.add_sub_cancel_left]; exact i2
theorem repE_one {G : Known} {sh : List Kd} : ∀ (xs : List V) (cells : List Value), repE G sh xs cells → ∀ u ∈ cells.take (xs.length * sh.length), u.oneCell' = true
  | [], cells, h, u, hu => by simp at hu
  | x :: xs, cells, h, u, hu => by
    unfold repE at h
    obtain ⟨v, hv, hc⟩ := h.2.1
    have e : (x :: xs).length * sh.length = sh.length + xs.length * sh.length := by rw [List.length_cons, Nat.add_mul, Nat.one_mul, Nat.add_comm]
    rw [e, List.take_add, List.mem_append] at hu
    rcases hu with hu | hu
    · rw [hc] at hu
      have hx : x ≠ .any := fun e => by have h1 := h.1; rw [e, fitsE_any] at h1; cases h1
      obtain ⟨hl, hpw⟩ := rep_cells hv hx
      obtain ⟨j, hj, rfl⟩ := List.getElem_of_mem hu
      have hj' : j < x.cells.length := by rw [hpw.1]; exact hj
      have hs := fitsL_len _ _ h.1
      exact fits_one (fitsL_get sh x.cells h.1 j _ _ (List.getElem?_eq_getElem (by omega)) (List.getElem?_eq_getElem hj')) (hpw.2 j _ _ (List.getElem?_eq_getElem hj') (List.getElem?_eq_getElem hj))
    · exact repE_one xs _ h.2.2 u hu
theorem cells_agg (a : List Value) : (Value.agg a.toArray).cells.toList = a := by simp [Value.cells]
theorem chunks_repE {G : Known} {sh : List Kd} {ag : Bool} (hag : (ag || sh.length == 1) = true) : ∀ (n : Nat) (cs : List V) (us : List Value), PW (rep G) cs us → cs.length = n * sh.length → 0 < sh.length → fitsAll sh (chunks ag sh.length n cs) = true →
    repE G sh (chunks ag sh.length n cs) us
  | 0, cs, us, _, _, _, _ => by unfold chunks; exact repE_nil
  | n + 1, cs, us, hp, hl, h0, hf => by
    unfold chunks at hf ⊢
    simp only [fitsAll, band] at hf
    split at hf
    · rename_i hf1
      unfold repE
      have e : (n + 1) * sh.length = sh.length + n * sh.length := by rw [Nat.add_mul, Nat.one_mul, Nat.add_comm]
      refine ⟨hf1, ?_, chunks_repE hag n _ _ (hp.drop _) (by rw [List.length_drop, hl, e]; omega) h0 hf⟩
      cases ag with
      | true =>
        refine ⟨.agg (us.take sh.length).toArray, ?_, by rw [cells_agg]⟩
        show rep G (.agg _) _
        unfold rep
        exact ⟨_, rfl, (repL_iff _ _).2 (hp.take _)⟩
      | false =>
        simp only [Bool.false_or, beq_iff_eq] at hag
        have hlt : 0 < cs.length := by rw [hl, e]; omega
        obtain ⟨v, hv, hr⟩ := hp.get (getD_some (l := cs) (i := 0) hlt)
        generalize cs.getD 0 .any = x at hr hf1 ⊢
        have hf2 : fitsE sh (cellOne x) = true := hf1
        have hne : cellOne x ≠ .any := by
          intro e
          rw [e, fitsE_any] at hf2
          exact absurd hf2 (by decide)
        have hx : cellOne x = x ∧ v.cells = #[v] := by
          cases x with
          | agg ds => exact absurd rfl hne
          | tup ds => exact absurd rfl hne
          | any => exact absurd rfl hne
          | bool b => unfold rep at hr; subst hr; exact ⟨rfl, rfl⟩
          | int k m => unfold rep at hr; subst hr; exact ⟨rfl, rfl⟩
          | str l => unfold rep at hr; subst hr; exact ⟨rfl, rfl⟩
          | nilsl => unfold rep at hr; subst hr; exact ⟨rfl, rfl⟩
          | sl e s2 o xs => unfold rep at hr; obtain ⟨p, cap, rfl, _⟩ := hr; exact ⟨rfl, rfl⟩
          | rptr s2 x off => unfold rep at hr; obtain ⟨b, o, l, rfl, _⟩ := hr; exact ⟨rfl, rfl⟩
          | box k o => unfold rep at hr; exact hr.elim
          | eptr _ _ _ _ _ _ => unfold rep at hr; exact hr.elim
          | fn f c => unfold rep at hr; obtain ⟨rfl, _⟩ := hr; exact ⟨rfl, rfl⟩
          | nilif => unfold rep at hr; subst hr; exact ⟨rfl, rfl⟩
          | nilp => unfold rep at hr; subst hr; exact ⟨rfl, rfl⟩
          | iface t y => unfold rep at hr; obtain ⟨u, rfl, _⟩ := hr; exact ⟨rfl, rfl⟩
          | bxa _ _ => unfold rep at hr; exact hr.elim
          | out _ _ _ => unfold rep at hr; exact hr.elim
          | cho _ _ _ => unfold rep at hr; exact hr.elim
          | old _ => unfold rep at hr; exact hr.elim
        show ∃ u, rep G (cellOne x) u ∧ _
        refine ⟨v, by rw [hx.1]; exact hr, ?_⟩
        rw [hx.2, hag]
        cases us with
        | nil => simp at hv
        | cons u us => simp at hv; subst hv; rfl
    · cases hf
end Nt.Ev

namespace Nt.Ev
open Go Go.RowKit
section
variable {P : Program} {ρ : Operand → Value} {o : Oper} {B : Own} {w : World} {g : Gh} {bx : List (Nat × List V)}
theorem band_true {a b : Bool} (h : band a b = true) : a = true ∧ b = true := by
  cases a
  · cases h
  · exact ⟨rfl, h⟩
theorem ile_true {a b : Int} (h : ile a b = true) : a ≤ b := of_decide_eq_true h
theorem ilt_true {a b : Int} (h : ilt a b = true) : a < b := of_decide_eq_true h
theorem elemT_spec {t e : TypeId} (h : elemT P t = some e) : P.underlying t = some (.slice e) := by
  unfold elemT at h
  split at h
  · rename_i e' he; simp only [Option.some.injEq] at h; subst h; exact he
  · cases h
theorem cond_some {α : Type} {c : Bool} {x : Option α} {y : α} (h : (bif c then x else none) = some y) : c = true ∧ x = some y := by
  cases c
  · cases h
  · exact ⟨rfl, h⟩
theorem lget_some {xs : List V} {i : Int} (h0 : 0 ≤ i) (h1 : i < xs.length) : xs[i.toNat]? = some (lget xs i) := by
  unfold lget
  exact getD_some (by omega)
theorem eptr_rptr {L e : Nat} {sh : List Kd} {xs : List V} {i : Int} {off : Nat} {v : Value} (h : trep g (.eptr L e sh xs i off) v) : trep g (.rptr sh (lget xs i) off) v := by
  obtain ⟨v0, b, h1, h2, h3, h4, h5, h6⟩ := trep_eptr.1 h
  rcases h2 with ⟨_, hnil⟩ | ⟨b', cap, l, hv, hcap, hG, hl, hE⟩
  · rw [hnil] at h4; simp at h4; omega
  · rw [hv] at h5
    simp only [Value.ownBlock, Option.some.injEq] at h5
    subst h5
    obtain ⟨hf, u, hu, hc⟩ := repE_get xs _ hE _ _ (lget_some h3 h4)
    exact trep_rptr.2 ⟨b', i.toNat * sh.length, l, h6, hG, hf, u, hu, hc⟩
theorem indexAddr_sound {t : TypeId} {x i : Operand} {X : V} {k : IntKind} {n : Int} {eff : Eff} (ho : o.op = .indexAddr t x i) (hx : trep g X (ρ x)) (hi : ρ i = .int k n) (h : indexAddrV P t X n = some (true, eff)) : Does P ρ o B w g bx eff := by
  have he : execOp ρ o = (do pure (.value (← Instr.indexAt t (ρ x) (ρ i)))) := by simp only [execOp, ho]
  unfold indexAddrV at h
  split at h
  · rename_i e sh ow xs
    split at h
    · rename_i e' hel
      have hu := elemT_spec hel
      split at h
      · rename_i m hs
        have hh := cond_some h
        clear h
        obtain ⟨hm, h⟩ := hh
        obtain rfl : m = sh.length := by simpa using hm
        clear hm
        simp only [Option.some.injEq, Prod.mk.injEq] at h
        obtain ⟨hc, rfl⟩ := h
        obtain ⟨h0, h1⟩ := band_true hc
        have h0 := ile_true h0
        have h1 := ilt_true h1
        unfold llen at h1
        have hget := lget_some h0 h1
        cases ow with
        | some L =>
          obtain ⟨hL, ho1⟩ := hx
          have ho2 := ho1
          rcases ho1 with ⟨_, hnil⟩ | ⟨b, cap, l, hv, _, _, _, _⟩
          · rw [hnil] at h1; simp at h1; omega
          · refine does_val he (u := .pointer (some ⟨b, 0 + n.toNat * sh.length, none⟩)) ?_ ?_
            · rw [hv, hi]
              simp [Instr.indexAt, asIntOf, run_underlying hu, h0, h1, sizeT_run hs, Addr.add_mid]
            · exact trep_eptr.2 ⟨ρ x, b, hL, ho2, h0, h1, by rw [hv]; rfl, by rw [Nat.zero_add, Nat.add_zero]⟩
        | none =>
        have hr := trep_slice hx
        unfold rep at hr
        obtain ⟨p, cap, hv, hcap, hr⟩ := hr
        rcases hr with hr | ⟨b, off, l, rfl, hG, hE⟩
        · rw [hr] at h1; simp at h1; omega
        · obtain ⟨hf, u, hu', hcs⟩ := repE_get xs _ hE _ _ hget
          refine does_val he (u := .pointer (some ⟨b, off + n.toNat * sh.length, none⟩)) ?_ ?_
          · rw [hv, hi]
            simp [Instr.indexAt, asIntOf, run_underlying hu, h0, h1, sizeT_run hs, Addr.add_mid]
          · rw [trep_rptr]
            refine ⟨b, off + n.toNat * sh.length, l, rfl, hG, hf, u, hu', ?_⟩
            rw [List.drop_drop] at hcs
            exact hcs
      · cases h
    · cases h
  · rename_i sh cs
    split at h
    · rename_i m e hu
      split at h
      · rename_i sz ag hs hag
        have hh := cond_some h
        clear h
        obtain ⟨hm, h⟩ := hh
        simp only [Bool.and_eq_true, beq_iff_eq] at hm
        obtain ⟨⟨⟨hm1, hm2⟩, hm3⟩, hm4⟩ := hm
        have hm2 : 0 < sz := by simpa [Nat.blt_eq] using hm2
        simp only [Option.some.injEq, Prod.mk.injEq] at h
        obtain ⟨hc, rfl⟩ := h
        obtain ⟨h0, h1⟩ := band_true hc
        have h0 := ile_true h0
        have h1 := ilt_true h1
        rw [trep_rptr] at hx
        obtain ⟨b, q, l, hp, hG, hf, u, hr, hcs⟩ := hx
        have hr' := hr
        unfold rep at hr'
        obtain ⟨a, rfl, hL⟩ := hr'
        rw [repL_iff] at hL
        have hshl := fitsL_len _ _ hf
        unfold V.cells at hshl
        simp only at hshl
        have htl : (sh.take sz).length = sz := by
          rw [List.length_take]
          have : 0 < m := by omega
          have : sz ≤ m * sz := Nat.le_mul_of_pos_left _ this
          omega
        have hcl : (chunks ag sz m cs).length = m := by
          have : ∀ (m : Nat) (cs : List V), (chunks ag sz m cs).length = m := by
            intro m
            induction m with
            | zero => intro cs; rfl
            | succ m ih => intro cs; unfold chunks; rw [List.length_cons, ih]
          exact this m cs
        have hE := chunks_repE (sh := sh.take sz) (ag := ag) (by rw [htl]; exact hm3) m cs a hL (by rw [htl]; omega) (by rw [htl]; exact hm2) (by rw [htl]; exact hm4)
        rw [htl] at hE
        have hget := lget_some (xs := chunks ag sz m cs) h0 (by rw [hcl]; exact h1)
        obtain ⟨hf', u, hu', hcs'⟩ := repE_get _ _ hE _ _ hget
        refine does_val he (u := .pointer (some ⟨b, q + n.toNat * sz, none⟩)) ?_ ?_
        · rw [hp, hi]
          simp [Instr.indexAt, asIntOf, run_underlying hu, h0, h1, Instr.sureAddr, sizeT_run hs, Addr.add_mid]
        · rw [trep_rptr]
          refine ⟨b, q + n.toNat * sz, l, rfl, hG, hf', u, hu', ?_⟩
          rw [cells_agg] at hcs
          rw [htl] at hcs' ⊢
          rw [← hcs', ← hcs, ← List.drop_drop]
          rw [List.drop_take, List.take_take]
          congr 1
          have : sz ≤ sh.length - n.toNat * sz := by
            have h2 : n.toNat + 1 ≤ m := by omega
            have h3 := Nat.mul_le_mul_right sz h2
            rw [Nat.add_mul, Nat.one_mul] at h3
            omega
          omega
      · cases h
    · cases h
  · cases h
theorem sat_get {l : List UInt8} {i : Int} (h0 : 0 ≤ i) (h1 : i < l.length) : (⟨l.toArray⟩ : ByteArray)[i.toNat]? = some (l.getD i.toNat 0) := by
  have hlt : i.toNat < l.length := by omega
  have : i.toNat < (⟨l.toArray⟩ : ByteArray).size := by simpa [ByteArray.size] using hlt
  rw [getElem?_pos (⟨l.toArray⟩ : ByteArray) i.toNat this]
  congr 1
  show l.toArray[i.toNat] = _
  rw [List.getD_eq_getElem?_getD, List.getElem?_eq_getElem hlt]
  simp
theorem index_sound {t : TypeId} {x i : Operand} {X : V} {k : IntKind} {n : Int} {eff : Eff} (ho : o.op = .index t x i) (hx : trep g X (ρ x)) (hi : ρ i = .int k n) (h : indexV P t X n = some (true, eff)) : Does P ρ o B w g bx eff := by
  have he : execOp ρ o = (do pure (.value (← Instr.index t (ρ x) (ρ i)))) := by simp only [execOp, ho]
  unfold indexV at h
  split at h
  · rename_i l
    split at h
    · rename_i hu
      simp only [Option.some.injEq, Prod.mk.injEq] at h
      obtain ⟨hc, rfl⟩ := h
      obtain ⟨h0, h1⟩ := band_true hc
      have h0 := ile_true h0
      have h1 := ilt_true h1
      unfold slen at h1
      rw [trep_str] at hx
      refine does_val he (u := .int .u8 (sat l n)) ?_ (trep_int.2 rfl)
      rw [hx, hi]
      simp only [Instr.index, asIntOf, Sem.run_bind, Sem.run_pure, Result.andThen_ok, run_underlying hu, h0, if_true, sat_get h0 h1]
      rfl
    · cases h
  · cases h
theorem bs_size (l : List UInt8) : (⟨l.toArray⟩ : ByteArray).size = l.length := by simp [ByteArray.size]
theorem bs_sub (l : List UInt8) (a b : Int) : (⟨l.toArray⟩ : ByteArray).extract a.toNat b.toNat = ⟨(ssub l a b).toArray⟩ := by
  apply ByteArray.ext
  simp [ssub, List.drop_take]
theorem bound_run {y : Nat} {k : IntKind} {i : Int} {code : BoundsCode} (h0 : 0 ≤ i) (h1 : i ≤ y) : (Instr.sliceBound (.int k i) y code).run P w = .ok i.toNat w := by
  simp [Instr.sliceBound, asIntOf, h0, h1]
theorem bounds_run {isSl : Bool} {len cap : Nat} {lo hi : Option Value} {a b : Int} (ha : (lo = none ∧ a = 0) ∨ ∃ k, lo = some (.int k a)) (hb : (hi = none ∧ b = len) ∨ ∃ k, hi = some (.int k b)) (h0 : 0 ≤ a) (h1 : a ≤ b) (h2 : b ≤ cap) :
    (Instr.sliceBounds isSl len cap lo hi none).run P w = .ok (a.toNat, b.toNat, cap) w := by
  unfold Instr.sliceBounds
  have hb0 : 0 ≤ b := by omega
  have hbn : (b.toNat : Int) = b := Int.toNat_of_nonneg hb0
  have h1' : a ≤ (b.toNat : Int) := by omega
  rcases hb with ⟨rfl, hb⟩ | ⟨kb, rfl⟩ <;> rcases ha with ⟨rfl, rfl⟩ | ⟨ka, rfl⟩
  · have : len = b.toNat := by omega
    simp [this]
  · have : len = b.toNat := by omega
    simp [bound_run h0 h1', this]
  · simp [bound_run hb0 h2]
  · simp [bound_run hb0 h2, bound_run h0 h1']
theorem slice_str_run {t : TypeId} {l : List UInt8} {lo hi : Option Value} {a b : Int} (hu : P.underlying t = some .string) (ha : (lo = none ∧ a = 0) ∨ ∃ k, lo = some (.int k a)) (hb : (hi = none ∧ b = l.length) ∨ ∃ k, hi = some (.int k b))
    (h0 : 0 ≤ a) (h1 : a ≤ b) (h2 : b ≤ l.length) : (Instr.sliceAt t (.string ⟨l.toArray⟩) lo hi none).run P w = .ok (.string ⟨(ssub l a b).toArray⟩) w := by
  have e : (Instr.sliceAt t (.string ⟨l.toArray⟩) lo hi none).run P w = (Instr.slice t (.string ⟨l.toArray⟩) lo hi none).run P w := by
    simp [Instr.sliceAt, run_underlying hu]
  rw [e]
  simp only [Instr.slice, Sem.run_bind, run_underlying hu, Result.andThen_ok, Option.isSome_none, Bool.false_eq_true, if_false, Sem.run_pure,
    bounds_run (P := P) (w := w) (isSl := false) (len := (⟨l.toArray⟩ : ByteArray).size) (cap := (⟨l.toArray⟩ : ByteArray).size) ha (by rw [bs_size]; exact hb) h0 h1 (by rw [bs_size]; exact h2), bs_sub]
theorem slice_row_run {t e : TypeId} {p : Option Addr} {len cap sz : Nat} {lo hi : Option Value} {a b : Int} (hu : P.underlying t = some (.slice e)) (hs : sizeT P e = some sz) (ha : (lo = none ∧ a = 0) ∨ ∃ k, lo = some (.int k a)) (hb : (hi = none ∧ b = len) ∨ ∃ k, hi = some (.int k b))
    (h0 : 0 ≤ a) (h1 : a ≤ b) (h2 : b ≤ cap) : (Instr.sliceAt t (.slice p len cap) lo hi none).run P w = .ok (.slice (if cap = a.toNat then p else p.map (·.add (a.toNat * sz))) (b.toNat - a.toNat) (cap - a.toNat)) w := by
  have e' : (Instr.sliceAt t (.slice p len cap) lo hi none).run P w = (Instr.slice t (.slice p len cap) lo hi none).run P w := by
    simp [Instr.sliceAt, run_underlying hu]
  rw [e']
  simp only [Instr.slice, Sem.run_bind, run_underlying hu, Result.andThen_ok, Sem.run_pure, bounds_run (P := P) (w := w) (isSl := true) (len := len) (cap := cap) ha hb h0 h1 h2, sizeT_run hs]
theorem rep_sub {G : Known} {e : Nat} {sh : List Kd} {ow : Option Nat} {xs : List V} {p : Option Addr} {len cap : Nat} {a b : Int} (h : rep G (.sl e sh ow xs) (.slice p len cap)) (h0 : 0 ≤ a) (h1 : a ≤ b) (h2 : b ≤ xs.length) :
    rep G (.sl e sh none (lsub xs a b)) (.slice (if cap = a.toNat then p else p.map (·.add (a.toNat * sh.length))) (b.toNat - a.toNat) (cap - a.toNat)) := by
  unfold rep at h ⊢
  obtain ⟨p', cap', hv, hcap, h⟩ := h
  simp only [Value.slice.injEq] at hv
  obtain ⟨rfl, rfl, rfl⟩ := hv
  have hlen : (lsub xs a b).length = b.toNat - a.toNat := by unfold lsub; simp; omega
  refine ⟨_, cap - a.toNat, by rw [hlen], by rw [hlen]; omega, ?_⟩
  rcases h with h | ⟨bb, off, l, rfl, hG, hE⟩
  · refine .inl ?_
    rw [h]; unfold lsub; simp
  · by_cases he : lsub xs a b = []
    · exact .inl he
    · refine .inr ⟨bb, off + a.toNat * sh.length, l, ?_, hG, ?_⟩
      · have : ¬ cap = a.toNat := by
          intro hc
          apply he
          apply List.eq_nil_of_length_eq_zero
          rw [hlen]; omega
        rw [if_neg this, Option.map_some, Addr.add_mid]
      · rw [← List.drop_drop]
        unfold lsub
        exact repE_take _ _ _ (repE_drop a.toNat xs _ hE)
theorem optMap {r : Operand → V} {ac : Act} (hE : ∀ y, trep g (r y) (ac.eval y)) (lo : Option Operand) (d : Int) :
    (∀ k n, lo.map r = some (.int k n) → ∃ k, lo.map ac.eval = some (.int k n)) ∧ (lo.map r = none → lo.map ac.eval = none) := by
  cases lo with
  | none => exact ⟨fun _ _ h => (by cases h), fun _ => rfl⟩
  | some y =>
    refine ⟨fun k n h => ?_, fun h => ?_⟩
    case refine_2 => cases h
    simp only [Option.map_some, Option.some.injEq] at h
    have := hE y
    rw [h, trep_int] at this
    exact ⟨k, by rw [Option.map_some, this]⟩
theorem slice_sound {r : Operand → V} {ac : Act} {t : TypeId} {x : Operand} {lo hi : Option Operand} {eff : Eff} (ho : o.op = .slice t x lo hi none) (hE : ∀ y, trep g (r y) (ac.eval y))
    (h : sliceV P t (r x) (lo.map r) (hi.map r) = some (true, eff)) : Does P ac.eval o B w g bx eff := by
  have he : execOp ac.eval o = (do pure (.value (← Instr.sliceAt t (ac.eval x) (lo.map ac.eval) (hi.map ac.eval) none))) := by simp only [execOp, ho, Option.map_none]
  have hx := hE x
  obtain ⟨l1, l2⟩ := optMap hE lo 0
  obtain ⟨r1, r2⟩ := optMap hE hi 0
  unfold sliceV at h
  split at h
  · rename_i l hX
    rw [hX, trep_str] at hx
    have key : ∀ a b : Int, P.underlying t = some .string → ((lo.map ac.eval = none ∧ a = 0) ∨ ∃ k, lo.map ac.eval = some (.int k a)) → ((hi.map ac.eval = none ∧ b = l.length) ∨ ∃ k, hi.map ac.eval = some (.int k b)) → 0 ≤ a → a ≤ b → b ≤ l.length → Does P ac.eval o B w g bx (.val (.str (ssub l a b))) := by
      intro a b hu ha hb h0 h1 h2
      refine does_val he (u := .string ⟨(ssub l a b).toArray⟩) ?_ (trep_str.2 rfl)
      rw [hx]
      exact slice_str_run hu ha hb h0 h1 h2
    split at h
    · rename_i k a k' b hu e1 e2
      simp only [Option.some.injEq, Prod.mk.injEq] at h
      obtain ⟨hc, rfl⟩ := h
      obtain ⟨hc1, hc2⟩ := band_true hc
      obtain ⟨c1, c2⟩ := band_true hc1
      obtain ⟨c3, c4⟩ := band_true hc2
      exact key a b hu (.inr (l1 _ _ e1)) (.inr (r1 _ _ e2)) (ile_true c3) (ile_true c4) (ile_true c2)
    · rename_i k' b hu e1 e2
      simp only [Option.some.injEq, Prod.mk.injEq] at h
      obtain ⟨hc, rfl⟩ := h
      obtain ⟨c1, c2⟩ := band_true hc
      exact key 0 b hu (.inl ⟨l2 e1, rfl⟩) (.inr (r1 _ _ e2)) (Int.le_refl _) (ile_true c1) (ile_true c2)
    · rename_i k a hu e1 e2
      simp only [Option.some.injEq, Prod.mk.injEq] at h
      obtain ⟨hc, rfl⟩ := h
      obtain ⟨c1, c2⟩ := band_true hc
      exact key a (slen l) hu (.inr (l1 _ _ e1)) (.inl ⟨r2 e2, rfl⟩) (ile_true c1) (ile_true c2) (Int.le_refl _)
    · rename_i hu e1 e2
      simp only [ok, Option.some.injEq, Prod.mk.injEq, true_and] at h
      subst h
      have := key 0 l.length hu (.inl ⟨l2 e1, rfl⟩) (.inl ⟨r2 e2, rfl⟩) (Int.le_refl _) (by omega) (Int.le_refl _)
      have e : ssub l 0 (l.length : Int) = l := by unfold ssub; simp
      rwa [e] at this
    · cases h
  · rename_i e sh ow xs hX
    rw [hX] at hx
    have hr := trep_slice hx
    have hr' := hr
    unfold rep at hr'
    obtain ⟨p, cap, hv, hcap, _⟩ := hr'
    rw [hv] at hr
    split at h
    · cases h
    · rename_i e' hel
      have hu := elemT_spec hel
      split at h
      · cases h
      · rename_i n hs
        have hh := cond_some h
        clear h
        obtain ⟨hn, h⟩ := hh
        obtain rfl : n = sh.length := by simpa using hn
        clear hn
        have key : ∀ a b : Int, ((lo.map ac.eval = none ∧ a = 0) ∨ ∃ k, lo.map ac.eval = some (.int k a)) → ((hi.map ac.eval = none ∧ b = xs.length) ∨ ∃ k, hi.map ac.eval = some (.int k b)) → 0 ≤ a → a ≤ b → b ≤ xs.length → Does P ac.eval o B w g bx (.val (.sl e sh none (lsub xs a b))) := by
          intro a b ha hb h0 h1 h2
          refine does_val he (u := .slice (if cap = a.toNat then p else p.map (·.add (a.toNat * sh.length))) (b.toNat - a.toNat) (cap - a.toNat)) ?_ (rep_sub hr h0 h1 h2)
          rw [hv]
          exact slice_row_run hu hs ha hb h0 h1 (by omega)
        split at h
        · rename_i k a k' b e1 e2
          simp only [Option.some.injEq, Prod.mk.injEq] at h
          obtain ⟨hc, rfl⟩ := h
          obtain ⟨hc1, hc2⟩ := band_true hc
          obtain ⟨c1, c2⟩ := band_true hc1
          obtain ⟨c3, c4⟩ := band_true hc2
          exact key a b (.inr (l1 _ _ e1)) (.inr (r1 _ _ e2)) (ile_true c3) (ile_true c4) (ile_true c2)
        · rename_i k' b e1 e2
          simp only [Option.some.injEq, Prod.mk.injEq] at h
          obtain ⟨hc, rfl⟩ := h
          obtain ⟨c1, c2⟩ := band_true hc
          exact key 0 b (.inl ⟨l2 e1, rfl⟩) (.inr (r1 _ _ e2)) (Int.le_refl _) (ile_true c1) (ile_true c2)
        · rename_i k a e1 e2
          simp only [Option.some.injEq, Prod.mk.injEq] at h
          obtain ⟨hc, rfl⟩ := h
          obtain ⟨c1, c2⟩ := band_true hc
          exact key a (llen xs) (.inr (l1 _ _ e1)) (.inl ⟨r2 e2, rfl⟩) (ile_true c1) (ile_true c2) (Int.le_refl _)
        · rename_i e1 e2
          simp only [ok, Option.some.injEq, Prod.mk.injEq, true_and] at h
          subst h
          have := key 0 xs.length (.inl ⟨l2 e1, rfl⟩) (.inl ⟨r2 e2, rfl⟩) (Int.le_refl _) (by omega) (Int.le_refl _)
          have e : lsub xs 0 (xs.length : Int) = xs := by unfold lsub; simp
          rwa [e] at this
        · cases h
  · rename_i sh cs hX
    rw [hX, trep_rptr] at hx
    split at h
    · rename_i m e hu e1 e2
      split at h
      · rename_i sz ag hs hag
        have hh := cond_some h
        clear h
        obtain ⟨hm, h⟩ := hh
        simp only [Bool.and_eq_true, beq_iff_eq] at hm
        obtain ⟨⟨⟨⟨hm1, hm2⟩, hm0⟩, hm3⟩, hm4⟩ := hm
        have hm2 : 0 < sz := by simpa [Nat.blt_eq] using hm2
        have hm0 : 0 < m := by simpa [Nat.blt_eq] using hm0
        simp only [ok, Option.some.injEq, Prod.mk.injEq, true_and] at h
        subst h
        obtain ⟨b, q, l, hp, hG, hf, u, hr, hcs⟩ := hx
        have hr' := hr
        unfold rep at hr'
        obtain ⟨a, rfl, hL⟩ := hr'
        rw [repL_iff] at hL
        have hshl := fitsL_len _ _ hf
        unfold V.cells at hshl
        simp only at hshl
        have htl : (sh.take sz).length = sz := by
          rw [List.length_take]
          have : sz ≤ m * sz := Nat.le_mul_of_pos_left _ hm0
          omega
        have hcl : (chunks ag sz m cs).length = m := by
          have : ∀ (m : Nat) (cs : List V), (chunks ag sz m cs).length = m := by
            intro m
            induction m with
            | zero => intro cs; rfl
            | succ m ih => intro cs; unfold chunks; rw [List.length_cons, ih]
          exact this m cs
        have hE := chunks_repE (sh := sh.take sz) (ag := ag) (by rw [htl]; exact hm3) m cs a hL (by rw [htl]; omega) (by rw [htl]; exact hm2) (by rw [htl]; exact hm4)
        rw [htl] at hE
        rw [cells_agg] at hcs
        refine does_val he (u := .slice (some ⟨b, q, none⟩) m m) ?_ ?_
        · rw [hp, l2 e1, r2 e2]
          have hm' : ¬ m = 0 := by omega
          simp [Instr.sliceAt, run_underlying hu, Instr.sureAddr, Instr.sliceBounds, sizeT_run hs, hm', Addr.add_mid]
        · refine trep_of_rep rfl ?_
          unfold rep
          refine ⟨some ⟨b, q, none⟩, m, by rw [hcl], by rw [hcl]; exact Nat.le_refl _, .inr ⟨b, q, l, rfl, hG, ?_⟩⟩
          exact repE_more (.refl _) _ _ _ _ hE (by rw [← hcs]; exact List.take_prefix _ _)
      · cases h
    · cases h
  · cases h
theorem len_sound {t : TypeId} {x : Operand} {X : V} {c : Call} {eff : Eff} (ho : o.op = .call c) (hc : c.callee = .builtin .len) (ht : c.argTypes.toList = [t]) (ha : c.args.toList = [x]) (hx : trep g X (ρ x)) (h : lenV P t X = some (true, eff)) : Does P ρ o B w g bx eff := by
  obtain ⟨callee, args, argTypes⟩ := c
  simp only at hc ht ha
  subst hc
  obtain rfl : args = #[x] := by rw [← Array.toList_inj]; simpa using ha
  obtain rfl : argTypes = #[t] := by rw [← Array.toList_inj]; simpa using ht
  have key : ∀ u, (Builtin.len_ #[t] o.type #[ρ x]).run P w = .ok u w → (execOp ρ o).run P w = .ok (.value u) w := by
    intro u hu
    simp [execOp, ho, resolve, invoke, builtin, hu]
  unfold lenV at h
  split at h
  · rename_i l hu
    simp only [ok, Option.some.injEq, Prod.mk.injEq, true_and] at h
    subst h
    rw [trep_str] at hx
    exact ⟨_, key (.int .i64 (slen l)) (by rw [hx]; simp [Builtin.len_, run_underlying hu, goInt, slen, bs_size]), trep_int.2 rfl⟩
  · rename_i e' e sh ow xs hu
    simp only [ok, Option.some.injEq, Prod.mk.injEq, true_and] at h
    subst h
    have hr := trep_slice hx
    unfold rep at hr
    obtain ⟨p, cap, hv, _⟩ := hr
    exact ⟨_, key (.int .i64 (llen xs)) (by rw [hv]; simp [Builtin.len_, run_underlying hu, goInt, llen]), trep_int.2 rfl⟩
  · rename_i e hu
    simp only [ok, Option.some.injEq, Prod.mk.injEq, true_and] at h
    subst h
    rw [trep_nilsl] at hx
    exact ⟨_, key (.int .i64 0) (by rw [hx]; simp [Builtin.len_, run_underlying hu, goInt]), trep_int.2 rfl⟩
  · rename_i n e hu
    simp only [ok, Option.some.injEq, Prod.mk.injEq, true_and] at h
    subst h
    exact ⟨_, key (.int .i64 n) (by simp [Builtin.len_, run_underlying hu, goInt]), trep_int.2 rfl⟩
  · cases h
theorem extract_sound {x : Operand} {i : Nat} {vs : List V} (ho : o.op = .extract x i) (hx : trep g (.tup vs) (ρ x)) (hi : i < vs.length) (hv : (match vs.getD i .any with | .tup _ => false | .fn _ _ => false | _ => true) = true) : Does P ρ o B w g bx (.val (vs.getD i .any)) := by
  have he : execOp ρ o = (do pure (.value (← Instr.extract (ρ x) i))) := by simp only [execOp, ho]
  obtain ⟨a, ha, hpw⟩ := hx
  obtain ⟨u, hu, hr⟩ := hpw.get (getD_some hi)
  refine does_val he (u := u) ?_ ?_
  · rw [ha]
    simp [Instr.extract, hu]
  · generalize vs.getD i .any = y at hr hv
    cases y with
    | tup _ => cases hv
    | fn _ _ => cases hv
    | _ => simp only [trep]; exact hr
end
end Nt.Ev

namespace Nt.Ev
open Go Go.RowKit
section
variable {P : Program} {ρ : Operand → Value} {o : Oper} {B : Own} {w : World} {g : Gh} {bx : List (Nat × List V)}
theorem part_agg {t : TypeId} {arr : List Value} {off n : Nat} (ha : isAggT P t = some true) (hs : sizeT P t = some n) : (part t arr.toArray off).run P w = .ok (.agg ((arr.drop off).take n).toArray) w := by
  simp only [part, Sem.run_bind, isAggT_run ha, Result.andThen_ok, if_true, sizeT_run hs, Sem.run_pure]
  have e : arr.toArray.extract off (off + n) = (List.take n (List.drop off arr)).toArray := by
    rw [← Array.toList_inj]
    simp
  rw [e]
theorem part_one {t : TypeId} {arr : List Value} {off : Nat} {v : Value} (ha : isAggT P t = some false) (hv : arr[off]? = some v) : (part t arr.toArray off).run P w = .ok v w := by
  simp [part, isAggT_run ha, hv]
def cval (P : Program) (t : TypeId) (us : List Value) (u : Value) : Prop := (isAggT P t = some true ∧ u = .agg us.toArray) ∨ (isAggT P t = some false ∧ us = [u])
theorem part_cval {t : TypeId} {arr : List Value} {off n : Nat} {b : Bool} (ha : isAggT P t = some b) (hs : sizeT P t = some n) (h1 : b = false → ((arr.drop off).take n).length = 1) :
    ∃ u, (part t arr.toArray off).run P w = .ok u w ∧ cval P t ((arr.drop off).take n) u := by
  cases b with
  | true => exact ⟨_, part_agg ha hs, .inl ⟨ha, rfl⟩⟩
  | false =>
    have h1 := h1 rfl
    cases hd : (arr.drop off).take n with
    | nil => rw [hd] at h1; cases h1
    | cons u t' =>
      cases t' with
      | cons _ _ => rw [hd] at h1; simp at h1
      | nil =>
        refine ⟨u, part_one ha ?_, .inr ⟨ha, rfl⟩⟩
        have h0 : ((arr.drop off).take n)[0]? = some u := by rw [hd]; rfl
        rw [List.getElem?_take] at h0
        split at h0
        · rw [List.getElem?_drop, Nat.add_zero] at h0; exact h0
        · cases h0
theorem eqT_kind {m : Nat} {t : TypeId} {xs ys : List V} {c : Bool} (h : eqT P m t xs ys = some c) : ∃ b, isAggT P t = some b ∧ (b = false → xs.length = 1 ∧ ys.length = 1) := by
  cases m with
  | zero => cases h
  | succ m =>
    unfold eqT at h
    unfold isAggT
    split at h
    · rename_i hu
      rw [hu]
      refine ⟨false, rfl, fun _ => ?_⟩
      split at h
      · exact ⟨rfl, rfl⟩
      · cases h
    · rename_i k hu
      rw [hu]
      refine ⟨false, rfl, fun _ => ?_⟩
      split at h
      · exact ⟨rfl, rfl⟩
      · cases h
    · rename_i hu
      rw [hu]
      refine ⟨false, rfl, fun _ => ?_⟩
      split at h
      · exact ⟨rfl, rfl⟩
      · cases h
    · rename_i fs hu
      rw [hu]
      exact ⟨true, rfl, fun h => by cases h⟩
    · rename_i k e hu
      rw [hu]
      exact ⟨true, rfl, fun h => by cases h⟩
    · cases h
def EqOk (P : Program) (w : World) (m d : Nat) : Prop := ∀ (t : TypeId) (xs ys : List V) (c : Bool), eqT P m t xs ys = some c → ∀ (G : Known) (us vs : List Value) (u v : Value), PW (rep G) xs us → PW (rep G) ys vs → cval P t us u → cval P t vs v →
  (Op.equalIn (d + m) t u v).run P w = .ok c w
theorem step_ok {m d : Nat} (ih : EqOk P w m d) {t : TypeId} {n off : Nat} {xs ys : List V} {c : Bool} (hs : sizeT P t = some n) (h : eqT P m t ((xs.drop off).take n) ((ys.drop off).take n) = some c) {G : Known} {us vs : List Value} (hx : PW (rep G) xs us) (hy : PW (rep G) ys vs) :
    ∃ a b, (part t us.toArray off).run P w = .ok a w ∧ (part t vs.toArray off).run P w = .ok b w ∧ (Op.equalIn (d + m) t a b).run P w = .ok c w := by
  obtain ⟨b, hb, h1⟩ := eqT_kind h
  have hx' := (hx.drop off).take n
  have hy' := (hy.drop off).take n
  obtain ⟨u, hu, cu⟩ := part_cval (w := w) (arr := us) (off := off) hb hs (fun e => by rw [← hx'.1]; exact (h1 e).1)
  obtain ⟨v, hv, cv⟩ := part_cval (w := w) (arr := vs) (off := off) hb hs (fun e => by rw [← hy'.1]; exact (h1 e).2)
  exact ⟨u, v, hu, hv, ih t _ _ c h G _ _ u v hx' hy' cu cv⟩
theorem allEq_cons {α : Type} {f : α → Option Bool} {a : α} {l : List α} {c : Bool} (h : allEq f (a :: l) = some c) : ∃ p q, f a = some p ∧ allEq f l = some q ∧ c = (match p with | true => q | false => false) := by
  cases l with
  | nil =>
    simp only [allEq] at h
    refine ⟨c, true, h, rfl, ?_⟩
    cases c <;> rfl
  | cons b l =>
    simp only [allEq] at h
    split at h
    · rename_i p q hp hq
      simp only [Option.some.injEq] at h
      subst h
      exact ⟨p, q, hp, hq, rfl⟩
    · cases h
theorem fields_ok {m d : Nat} (ih : EqOk P w m d) {xs ys : List V} {G : Known} {us vs : List Value} (hx : PW (rep G) xs us) (hy : PW (rep G) ys vs) : ∀ (fs : List Field) (c : Bool),
    allEq (fun f => bif f.name == "_" then none else match sizeT P f.type with
        | some n => eqT P m f.type ((xs.drop f.offset).take n) ((ys.drop f.offset).take n)
        | none => none) fs = some c → (Op.eqFields (d + m) us.toArray vs.toArray fs).run P w = .ok c w
  | [], c, h => by
    simp only [allEq, Option.some.injEq] at h
    subst h
    rfl
  | f :: fs, c, h => by
    obtain ⟨p, q, h1, h2, rfl⟩ := allEq_cons h
    have h3 := fields_ok ih hx hy fs q h2
    cases hn : f.name == "_" with
    | true => rw [hn] at h1; cases h1
    | false =>
      rw [hn, cond_false] at h1
      have hne : f.name ≠ "_" := by simpa using hn
      split at h1
      · rename_i n hs
        obtain ⟨a, b, pa, pb, pe⟩ := step_ok ih hs h1 hx hy
        simp only [Op.eqFields, hne, ne_eq, not_false_eq_true, if_true, Sem.run_bind, pa, pb, pe, Result.andThen_ok]
        cases p
        · rfl
        · simpa using h3
      · cases h1
theorem items_ok {m d : Nat} (ih : EqOk P w m d) {e : TypeId} {n : Nat} (hs : sizeT P e = some n) {xs ys : List V} {G : Known} {us vs : List Value} (hx : PW (rep G) xs us) (hy : PW (rep G) ys vs) : ∀ (is : List Nat) (c : Bool),
    allEq (fun i => eqT P m e ((xs.drop (i * n)).take n) ((ys.drop (i * n)).take n)) is = some c → (Op.eqItems (d + m) e n us.toArray vs.toArray is).run P w = .ok c w
  | [], c, h => by
    simp only [allEq, Option.some.injEq] at h
    subst h
    rfl
  | i :: is, c, h => by
    obtain ⟨p, q, h1, h2, rfl⟩ := allEq_cons h
    have h3 := items_ok ih hs hx hy is q h2
    obtain ⟨a, b, pa, pb, pe⟩ := step_ok ih hs h1 hx hy
    simp only [Op.eqItems, Sem.run_bind, pa, pb, pe, Result.andThen_ok]
    cases p
    · rfl
    · simpa using h3
theorem eqT_sound (d : Nat) : ∀ m, EqOk P w m d
  | 0 => fun t xs ys c h => by cases h
  | m + 1 => by
    intro t xs ys c h G us vs u v hx hy cu cv
    have ih := eqT_sound d m
    show (Op.equalIn ((d + m) + 1) t u v).run P w = .ok c w
    unfold eqT at h
    split at h
    · rename_i hu
      have hk : isAggT P t = some false := by unfold isAggT; rw [hu]
      split at h
      · simp only [Option.some.injEq] at h
        subst h
        obtain ⟨u', t', rfl, hu1, ht'⟩ := hx.cons_inv
        obtain ⟨v', s', rfl, hv1, hs'⟩ := hy.cons_inv
        rw [ht'.nil_iff] at cu
        rw [hs'.nil_iff] at cv
        unfold rep at hu1 hv1
        rcases cu with ⟨hk', _⟩ | ⟨_, cu⟩
        · rw [hk] at hk'; cases hk'
        · rcases cv with ⟨hk', _⟩ | ⟨_, cv⟩
          · rw [hk] at hk'; cases hk'
          · simp only [List.cons.injEq, and_true] at cu cv
            rw [← cu, ← cv, hu1, hv1]
            exact run_equalIn_bool' w _ t _ _ hu
      · cases h
    · rename_i k hu
      have hk : isAggT P t = some false := by unfold isAggT; rw [hu]
      split at h
      · have hh := cond_some h
        clear h
        obtain ⟨hk1, h⟩ := hh
        have hk2 := of_decide_eq_true hk1
        clear hk1
        subst hk2
        simp only [Option.some.injEq] at h
        subst h
        obtain ⟨u', t', rfl, hu1, ht'⟩ := hx.cons_inv
        obtain ⟨v', s', rfl, hv1, hs'⟩ := hy.cons_inv
        rw [ht'.nil_iff] at cu
        rw [hs'.nil_iff] at cv
        unfold rep at hu1 hv1
        rcases cu with ⟨hk', _⟩ | ⟨_, cu⟩
        · rw [hk] at hk'; cases hk'
        · rcases cv with ⟨hk', _⟩ | ⟨_, cv⟩
          · rw [hk] at hk'; cases hk'
          · simp only [List.cons.injEq, and_true] at cu cv
            rw [← cu, ← cv, hu1, hv1]
            exact run_equalIn_int w _ t _ _ _ _ hu
      · cases h
    · rename_i hu
      have hk : isAggT P t = some false := by unfold isAggT; rw [hu]
      split at h
      · simp only [Option.some.injEq] at h
        subst h
        obtain ⟨u', t', rfl, hu1, ht'⟩ := hx.cons_inv
        obtain ⟨v', s', rfl, hv1, hs'⟩ := hy.cons_inv
        rw [ht'.nil_iff] at cu
        rw [hs'.nil_iff] at cv
        unfold rep at hu1 hv1
        rcases cu with ⟨hk', _⟩ | ⟨_, cu⟩
        · rw [hk] at hk'; cases hk'
        · rcases cv with ⟨hk', _⟩ | ⟨_, cv⟩
          · rw [hk] at hk'; cases hk'
          · simp only [List.cons.injEq, and_true] at cu cv
            rw [← cu, ← cv, hu1, hv1, run_equalIn_string w _ t _ _ hu, seq_toList]
      · cases h
    · rename_i fs hu
      have hk : isAggT P t = some true := by unfold isAggT; rw [hu]
      cases hst : P.stoodInHeld t with
      | true => rw [hst] at h; cases h
      | false =>
        rw [hst, cond_false] at h
        rcases cu with ⟨_, rfl⟩ | ⟨hk', _⟩
        · rcases cv with ⟨_, rfl⟩ | ⟨hk', _⟩
          · have hfs : P.fieldsOf t = fs := by unfold Program.fieldsOf; rw [hu]
            rw [run_equalIn_struct w _ t _ _ (by rw [hfs]; exact hu) hst, hfs]
            exact fields_ok ih hx hy fs.toList c h
          · rw [hk] at hk'; cases hk'
        · rw [hk] at hk'; cases hk'
    · rename_i k e hu
      have hk : isAggT P t = some true := by unfold isAggT; rw [hu]
      split at h
      · rename_i n hs
        obtain ⟨i, hi, hin⟩ := sizeT_info hs
        rcases cu with ⟨_, rfl⟩ | ⟨hk', _⟩
        · rcases cv with ⟨_, rfl⟩ | ⟨hk', _⟩
          · have hc : P.cellsOf e = n := by simp [Program.cellsOf, hi, hin]
            rw [run_equalIn_array w _ _ _ hu hi, hc]
            exact items_ok ih hs hx hy (List.range k) c h
          · rw [hk] at hk'; cases hk'
        · rw [hk] at hk'; cases hk'
      · cases h
    · cases h
theorem binT_sound {op : BinOp} {xt yt : TypeId} {x y : Operand} {X Y : V} {eff : Eff} (ho : o.op = .binOp op xt x y yt) (hx : trep g X (ρ x)) (hy : trep g Y (ρ y)) (h : binT P op xt X Y = some (true, eff))
    (hother : ∀ {eff : Eff}, (bif boolOk P xt X then resV (binV op X Y) else none) = some (true, eff) → Does P ρ o B w g bx eff) : Does P ρ o B w g bx eff := by
  have he : execOp ρ o = (do pure (.value (← (do eqGuard op xt x y (ρ x) (ρ y); binOp op xt (ρ x) (ρ y))))) := by simp only [execOp, ho]
  unfold binT at h
  split at h
  · rename_i as bs
    cases hg : P.eqGuardType P.depth xt with
    | true => rw [hg] at h; cases h
    | false =>
      rw [hg, cond_false] at h
      obtain ⟨us, hus, hpu⟩ := trep_agg.1 hx
      obtain ⟨vs, hvs, hpv⟩ := trep_agg.1 hy
      split at h
      · rename_i c hag hc
        simp only [ok, Option.some.injEq, Prod.mk.injEq, true_and] at h
        subst h
        have := eqT_sound (P := P) (w := w) 9992 8 xt as bs c hc g.G us vs _ _ hpu hpv (.inl ⟨hag, rfl⟩) (.inl ⟨hag, rfl⟩)
        refine does_val he (u := .bool c) ?_ (trep_bool.2 rfl)
        rw [hus, hvs]
        simp only [Sem.run_bind, run_eqGuard_agg w _ _ _ _ _ _ hg, Result.andThen_ok, run_eql_struct, this]
      · rename_i c hag hc
        simp only [ok, Option.some.injEq, Prod.mk.injEq, true_and] at h
        subst h
        have := eqT_sound (P := P) (w := w) 9992 8 xt as bs c hc g.G us vs _ _ hpu hpv (.inl ⟨hag, rfl⟩) (.inl ⟨hag, rfl⟩)
        refine does_val he (u := .bool (bnot c)) ?_ (trep_bool.2 rfl)
        rw [hus, hvs]
        simp only [Sem.run_bind, run_eqGuard_agg w _ _ _ _ _ _ hg, Result.andThen_ok, run_neq_struct, this]
        rfl
      · cases h
  · exact hother h
theorem boxAddr_sound {t : TypeId} {x i : Operand} {k off : Nat} {q : IntKind} {n : Int} {eff : Eff} (ho : o.op = .indexAddr t x i) (hx : trep g (.box k off) (ρ x)) (hi : ρ i = .int q n) (h : boxAddrV P t k off n = some (true, eff)) : Does P ρ o B w g bx eff := by
  have he : execOp ρ o = (do pure (.value (← Instr.indexAt t (ρ x) (ρ i)))) := by simp only [execOp, ho]
  unfold boxAddrV at h
  split at h
  · rename_i m e hu
    split at h
    · rename_i sz hs
      obtain ⟨h0, h⟩ := cond_some h
      simp only [Option.some.injEq, Prod.mk.injEq, true_and] at h
      subst h
      obtain ⟨b, hb, hp⟩ := trep_box.1 hx
      intro j v hj hv
      subst hj
      rw [List.getElem?_map] at hv
      obtain ⟨j', hj', rfl⟩ := Option.map_eq_some_iff.1 hv
      have hlt : j < m := by
        have := (List.getElem?_eq_some_iff.1 hj').1
        simpa using this
      rw [List.getElem?_range hlt] at hj'
      simp only [Option.some.injEq] at hj'
      subst hj'
      obtain ⟨u, hu1, hu2⟩ := (does_val (B := B) (bx := bx) (v := .box k (off + j * sz)) he (u := .pointer (some ⟨b, off + j * sz, none⟩)) (by
        rw [hp, hi]
        have h1 : (j : Int) < (m : Int) := by omega
        simp [Instr.indexAt, asIntOf, run_underlying hu, h1, Instr.sureAddr, sizeT_run hs, Addr.add_mid]
        intro hh
        exact absurd hh (by omega)) (trep_box.2 ⟨b, hb, rfl⟩) : Does P ρ o B w g bx (.val (.box k (off + j * sz))))
      exact ⟨u, hu1, hu2⟩
    · cases h
  · cases h
theorem chunks_get {ag : Bool} {sz : Nat} : ∀ (n : Nat) (cs : List V) (j : Nat) (v : V), (chunks ag sz n cs)[j]? = some v → j < n ∧ v = (match ag with | true => V.agg ((cs.drop (j * sz)).take sz) | false => cellOne ((cs.drop (j * sz)).getD 0 .any))
  | 0, cs, j, v, h => by simp [chunks] at h
  | n + 1, cs, j, v, h => by
    unfold chunks at h
    cases j with
    | zero =>
      simp only [List.getElem?_cons_zero, Option.some.injEq] at h
      subst h
      refine ⟨by omega, ?_⟩
      cases ag <;> simp
    | succ j =>
      simp only [List.getElem?_cons_succ] at h
      obtain ⟨h1, h2⟩ := chunks_get n _ j v h
      refine ⟨by omega, ?_⟩
      rw [h2]
      rw [List.drop_drop, show sz + j * sz = (j + 1) * sz by rw [Nat.add_mul]; omega]
theorem one_plain {v : V} (h : v.one = true) : v.plain = true ∧ cellOne v = v := by
  cases v with
  | sl e sh ow xs => cases ow <;> first | exact ⟨rfl, rfl⟩ | cases h
  | any => cases h
  | agg _ => cases h
  | tup _ => cases h
  | box _ _ => cases h
  | eptr _ _ _ _ _ _ => cases h
  | fn _ _ => cases h
  | bxa _ _ => cases h
  | out _ _ _ => cases h
  | cho _ _ _ => cases h
  | old _ => cases h
  | _ => exact ⟨rfl, rfl⟩
theorem box_cells {g : Gh} {x : V} {u : Value} (hx : isBoxV x = true) (h : srep g x u) : u.cells = #[u] ∧ u.oneCell' = true := by
  cases x with
  | box k off => obtain ⟨b, _, rfl⟩ := h; exact ⟨rfl, rfl⟩
  | _ => cases hx
theorem fill_seq : ∀ (ps : List (Nat × Value)) (k : Nat) (cells : Array Value), (∀ (i : Nat) (p : Nat × Value), ps[i]? = some p → p.1 = k + i ∧ p.2.cells = #[p.2]) → cells.size = k + ps.length →
    Instr.fill (fun i => some (i * 1, 1)) cells ps = some (cells.toList.take k ++ ps.map (·.2)).toArray
  | [], k, cells, _, hs => by
    simp only [Instr.fill, List.map_nil, List.append_nil, Option.some.injEq]
    rw [← Array.toList_inj]
    rw [List.length_nil, Nat.add_zero] at hs
    show cells.toList = cells.toList.take k
    rw [List.take_of_length_le (by rw [Array.length_toList]; omega)]
  | p :: ps, k, cells, h, hs => by
    obtain ⟨h1, h2⟩ := h 0 p rfl
    rw [Nat.add_zero] at h1
    rw [List.length_cons] at hs
    obtain ⟨i, v⟩ := p
    simp only at h1 h2
    subst h1
    unfold Instr.fill
    simp only [h2]
    rw [if_neg (by simp; omega)]
    have e1 : ((#[v] : Array Value).zipIdx.foldl (fun cs (c, j) => cs.setIfInBounds (i * 1 + j) c) cells) = cells.setIfInBounds i v := by simp [Array.zipIdx]
    rw [e1, fill_seq ps (i + 1) (cells.setIfInBounds i v) (fun j p hp => by
      have := h (j + 1) p (by simpa using hp)
      exact ⟨by omega, this.2⟩) (by simp; omega)]
    congr 2
    rw [Array.toList_setIfInBounds, List.map_cons]
    have hlt : i < cells.toList.length := by rw [Array.length_toList]; omega
    rw [List.take_set, List.take_succ_eq_append_getElem hlt, List.set_append_right _ _ (by rw [List.length_take]; omega), List.append_assoc]
    have : (cells.toList.take i).length = i := by rw [List.length_take]; omega
    simp [this]
theorem seqI_spec : ∀ (ps : List (Nat × V)) (k : Nat), seqI k ps = true → ∀ (i : Nat) (p : Nat × V), ps[i]? = some p → p.1 = k + i
  | [], _, _, i, p, h => by simp at h
  | q :: ps, k, h, i, p, hp => by
    unfold seqI at h
    rw [Bool.and_eq_true, beq_iff_eq] at h
    cases i with
    | zero =>
      simp only [List.getElem?_cons_zero, Option.some.injEq] at hp
      subst hp
      rw [Nat.add_zero]; exact h.1
    | succ i =>
      have := seqI_spec ps (k + 1) h.2 i p (by simpa using hp)
      omega
theorem arrB_sound {r : Operand → V} {ac : Act} {t : TypeId} {parts : Array (Nat × Operand)} {vs : List V} (ho : o.op = .build t parts) (hE : ∀ y, trep g (r y) (ac.eval y))
    (h : arrB P t (parts.toList.map fun (i, x) => (i, r x)) = some vs) : Does P ac.eval o B w g bx (.val (.fn ARR vs)) := by
  have he : execOp ac.eval o = (do pure (.value (← Instr.build t (parts.map fun (i, x) => (i, ac.eval x))))) := by simp only [execOp, ho]
  unfold arrB at h
  split at h
  · rename_i i n e hi hu
    split at h
    · rename_i z m hz hs
      obtain ⟨hc, h⟩ := cond_some h
      simp only [Option.some.injEq] at h
      subst h
      simp only [Bool.and_eq_true, beq_iff_eq] at hc
      obtain ⟨⟨⟨⟨⟨rfl, hzs⟩, hnl⟩, hn0⟩, hseq⟩, hbx⟩ := hc
      have hn0 : 0 < n := by simpa [Nat.blt_eq] using hn0
      rw [List.length_map, Array.length_toList] at hnl
      rw [List.all_eq_true] at hbx
      have hpw : PW (srep g) ((parts.toList.map fun (i, x) => (i, r x)).map fun p => p.2) (parts.toList.map fun p => ac.eval p.2) := ⟨by simp, fun j x v hx hv => by
        simp only [List.getElem?_map] at hx hv
        cases hj : parts.toList[j]? with
        | none => rw [hj] at hx; cases hx
        | some p =>
          obtain ⟨q, y⟩ := p
          rw [hj] at hx hv
          simp only [Option.map_some, Option.some.injEq] at hx hv
          subst hx; subst hv
          have hb := hbx (q, r y) (List.mem_map.2 ⟨(q, y), List.mem_of_getElem? hj, rfl⟩)
          have := hE y
          simp only at hb
          cases hy : r y with
          | box k off => rw [hy] at this; exact this
          | _ => rw [hy] at hb; cases hb⟩
      have hfill : Instr.fill (fun i => some (i * 1, 1)) z (parts.toList.map fun p => (p.1, ac.eval p.2)) = some (parts.toList.map fun p => ac.eval p.2).toArray := by
        rw [fill_seq _ 0 z (fun j p hp => ?_) (by rw [Nat.zero_add, List.length_map, Array.length_toList]; omega)]
        · simp
        · simp only [List.getElem?_map] at hp
          cases hj : parts.toList[j]? with
          | none => rw [hj] at hp; cases hp
          | some q =>
            rw [hj] at hp
            simp only [Option.map_some, Option.some.injEq] at hp
            subst hp
            have h1 := seqI_spec _ 0 hseq j (q.1, r q.2) (by rw [List.getElem?_map, hj]; rfl)
            have h2 := hpw.2 j (r q.2) (ac.eval q.2) (by rw [List.getElem?_map, List.getElem?_map, hj]; rfl) (by rw [List.getElem?_map, hj]; rfl)
            have hb := hbx (q.1, r q.2) (List.mem_map.2 ⟨q, List.mem_of_getElem? hj, rfl⟩)
            exact ⟨h1, (box_cells hb h2).1⟩
      have hne : (parts.toList.map fun p => ac.eval p.2) ≠ [] := fun e => by
        have := congrArg List.length e
        rw [List.length_map, Array.length_toList, List.length_nil] at this
        omega
      refine does_val he (u := .agg (parts.toList.map fun p => ac.eval p.2).toArray) ?_ ⟨_, (cloV_arr hne).symm, hpw⟩
      have hzr : (zeroValue t).run P w = .ok (.agg z) w := by simp [zeroValue, typeInfo, hi, hz]
      have hpt : (parts.map fun (i, x) => (i, ac.eval x)).toList = parts.toList.map fun p => (p.1, ac.eval p.2) := by simp
      simp only [Instr.build, Sem.run_bind, hzr, Result.andThen_ok, run_underlying hu, sizeT_run hs, Value.cells, hpt, hfill, Sem.run_pure]
    · cases h
  · cases h
theorem arrIndex_sound {t : TypeId} {x i : Operand} {vs : List V} {q : IntKind} {n : Int} {eff : Eff} (ho : o.op = .index t x i) (hx : trep g (.fn ARR vs) (ρ x)) (hi : ρ i = .int q n) (hb : vs.all isBoxV = true) (h : arrIndexV P t vs n = some (true, eff)) : Does P ρ o B w g bx eff := by
  have he : execOp ρ o = (do pure (.value (← Instr.index t (ρ x) (ρ i)))) := by simp only [execOp, ho]
  unfold arrIndexV at h
  split at h
  · rename_i m e hu
    split at h
    · rename_i k hs hag
      obtain ⟨hc, h2⟩ := cond_some h
      clear h
      simp only [Option.some.injEq, Prod.mk.injEq, true_and] at h2
      subst h2
      simp only [Bool.and_eq_true, beq_iff_eq] at hc
      obtain ⟨⟨hk1, hm⟩, hm0⟩ := hc
      subst hk1
      have hm0 : 0 < m := by simpa [Nat.blt_eq] using hm0
      obtain ⟨a, ha, hpw⟩ := hx
      have hal : a.length = vs.length := hpw.1.symm
      have hne : a ≠ [] := fun e => by rw [e, List.length_nil] at hal; omega
      rw [cloV_arr hne] at ha
      intro j v hj hv
      subst hj
      have hjl : j < vs.length := (List.getElem?_eq_some_iff.1 hv).1
      have h1 : (j : Int) < (m : Int) := by omega
      have hrun : (Instr.index t (.agg a.toArray) (.int q (j : Int))).run P w = (part e a.toArray (j * 1)).run P w := by
        simp [Instr.index, asIntOf, run_underlying hu, h1, sizeT_run hs]
        intro hh
        exact absurd hh (by omega)
      obtain ⟨u, hu', hr⟩ := hpw.get hv
      have hone := box_cells (List.all_eq_true.1 hb v (List.mem_of_getElem? hv)) hr
      have htr : trep g v u := by
        have := List.all_eq_true.1 hb v (List.mem_of_getElem? hv)
        cases v with
        | box k off => exact hr
        | _ => cases this
      have hpart : (part e a.toArray (j * 1)).run P w = .ok u w := by
        rw [Nat.mul_one]
        exact part_one hag hu'
      obtain ⟨u2, q1, q2⟩ : Does P ρ o B w g bx (.val v) := does_val he (u := u) (by rw [ha, hi, hrun]; exact hpart) htr
      exact ⟨u2, q1, q2⟩
    · cases h
  · cases h
theorem aggIndex_sound {t : TypeId} {x i : Operand} {cs : List V} {q : IntKind} {n : Int} {eff : Eff} (ho : o.op = .index t x i) (hx : trep g (.agg cs) (ρ x)) (hi : ρ i = .int q n) (h : aggIndexV P t cs n = some (true, eff)) : Does P ρ o B w g bx eff := by
  have he : execOp ρ o = (do pure (.value (← Instr.index t (ρ x) (ρ i)))) := by simp only [execOp, ho]
  unfold aggIndexV at h
  split at h
  · rename_i m e hu
    split at h
    · rename_i sz ag hs hag
      obtain ⟨hm, h⟩ := cond_some h
      simp only [Bool.and_eq_true, beq_iff_eq] at hm
      obtain ⟨⟨⟨hm1, hm2⟩, hm3⟩, hm4⟩ := hm
      have hm2 : 0 < sz := by simpa [Nat.blt_eq] using hm2
      simp only [Option.some.injEq, Prod.mk.injEq, true_and] at h
      subst h
      obtain ⟨a, ha, hpw⟩ := trep_agg.1 hx
      intro j v hj hv
      subst hj
      obtain ⟨hlt, rfl⟩ := chunks_get _ _ _ _ hv
      have h1 : (j : Int) < (m : Int) := by omega
      have hrun : (Instr.index t (.agg a.toArray) (.int q (j : Int))).run P w = (part e a.toArray (j * sz)).run P w := by
        simp [Instr.index, asIntOf, run_underlying hu, h1, sizeT_run hs]
        intro hh
        exact absurd hh (by omega)
      rw [List.all_eq_true] at hm4
      cases ag with
      | true =>
        obtain ⟨u, hu1, hu2⟩ := (does_val (B := B) (bx := bx) (v := .agg ((cs.drop (j * sz)).take sz)) he (u := .agg ((a.drop (j * sz)).take sz).toArray) (by
          rw [ha, hi, hrun]
          exact part_agg hag hs) (trep_agg.2 ⟨_, rfl, (hpw.drop _).take _⟩) : Does P ρ o B w g bx (.val (.agg ((cs.drop (j * sz)).take sz))))
        exact ⟨u, hu1, hu2⟩
      | false =>
        have hsz : sz = 1 := by simpa using hm3
        subst hsz
        rw [Nat.mul_one] at hm1
        rw [Nat.mul_one]
        have hjl : j < cs.length := by omega
        have hget : (cs.drop j).getD 0 .any = cs.getD j .any := by
          rw [List.getD_eq_getElem?_getD, List.getElem?_drop, Nat.add_zero, List.getD_eq_getElem?_getD]
        rw [hget]
        obtain ⟨u, hu', hr⟩ := hpw.get (getD_some hjl)
        have hone := one_plain (hm4 _ (show cs.getD j .any ∈ cs by rw [List.getD_eq_getElem?_getD, List.getElem?_eq_getElem hjl]; exact List.getElem_mem hjl))
        rw [hone.2]
        obtain ⟨u', hu1, hu2⟩ := (does_val (B := B) (bx := bx) (v := cs.getD j .any) he (u := u) (by
          rw [ha, hi, hrun, Nat.mul_one]
          exact part_one hag hu') (trep_of_rep hone.1 hr) : Does P ρ o B w g bx (.val (cs.getD j .any)))
        exact ⟨u', hu1, hu2⟩
    · cases h
  · cases h
theorem minmax_sound {great : Bool} {x y : Operand} {X Y : V} {c : Call} {eff : Eff} (ho : o.op = .call c) (hc : c.callee = .builtin (match great with | true => .max | false => .min)) (ha : c.args.toList = [x, y]) (hx : trep g X (ρ x)) (hy : trep g Y (ρ y)) (h : minmaxV great X Y = some (true, eff)) : Does P ρ o B w g bx eff := by
  obtain ⟨callee, args, argTypes⟩ := c
  simp only at hc ha
  subst hc
  obtain rfl : args = #[x, y] := by rw [← Array.toList_inj]; simpa using ha
  unfold minmaxV at h
  split at h
  · rename_i k a k' b
    obtain ⟨hk, h⟩ := cond_some h
    simp only [ok, Option.some.injEq, Prod.mk.injEq, true_and] at h
    subst h
    rw [trep_int] at hx hy
    cases great with
    | true =>
      refine ⟨.int k (imax a b), ?_, trep_int.2 rfl⟩
      simp only [execOp, ho]
      simp [resolve, invoke, builtin, hx, hy, run_max_int2]
      unfold imax
      omega
    | false =>
      refine ⟨.int k (imin a b), ?_, trep_int.2 rfl⟩
      simp only [execOp, ho]
      simp [resolve, invoke, builtin, hx, hy, run_min_int2]
      unfold imin
      omega
  · cases h
theorem run_eql_iface (P : Program) (w : World) {t : TypeId} {ms : Array (String × TypeId)} (hu : P.underlying t = some (.interface ms)) (tx : TypeId) (vx : Value) :
    (Op.equal t .nilIface .nilIface).run P w = .ok true w ∧ (Op.equal t (.iface tx vx) .nilIface).run P w = .ok false w := by
  have h0 : Op.maxDepth = 9999 + 1 := rfl
  unfold Op.equal
  rw [h0]
  generalize (9999 : Nat) = m
  constructor
  · unfold Op.equalIn
    simp only [Sem.run_bind, run_underlying hu, Result.andThen_ok]
    rfl
  · unfold Op.equalIn
    simp only [Sem.run_bind, run_underlying hu, Result.andThen_ok]
    rfl
theorem isNilC_eq {y : Operand} (h : isNilC y = true) : y = .const .nilIface := by
  unfold isNilC at h
  split at h
  · rfl
  · cases h
def isNilV : V → Bool
  | .nilif => true
  | _ => false
theorem nilT_spec {op : BinOp} {xt : TypeId} {yc : Bool} {X Y : V} {eff : Eff} (h : nilT P op xt yc X Y = some (true, eff)) :
    yc = true ∧ ∃ ms r, P.underlying xt = some (.interface ms) ∧ eff = .val (.bool r) ∧ Y = .nilif ∧ (X = .nilif ∨ ∃ u v, X = .iface u v) ∧ ((op = .eql ∧ r = isNilV X) ∨ (op = .neq ∧ r = !isNilV X)) := by
  unfold nilT at h
  split at h
  · rename_i ms hu
    simp only [ok, Option.some.injEq, Prod.mk.injEq, true_and] at h
    exact ⟨rfl, _, true, by assumption, h.symm, rfl, .inl rfl, .inl ⟨rfl, rfl⟩⟩
  · rename_i ms u v hu
    simp only [ok, Option.some.injEq, Prod.mk.injEq, true_and] at h
    exact ⟨rfl, _, false, by assumption, h.symm, rfl, .inr ⟨_, _, rfl⟩, .inl ⟨rfl, rfl⟩⟩
  · rename_i ms hu
    simp only [ok, Option.some.injEq, Prod.mk.injEq, true_and] at h
    exact ⟨rfl, _, false, by assumption, h.symm, rfl, .inl rfl, .inr ⟨rfl, rfl⟩⟩
  · rename_i ms u v hu
    simp only [ok, Option.some.injEq, Prod.mk.injEq, true_and] at h
    exact ⟨rfl, _, true, by assumption, h.symm, rfl, .inr ⟨_, _, rfl⟩, .inr ⟨rfl, rfl⟩⟩
  · cases h
theorem nilT_sound {op : BinOp} {xt yt : TypeId} {x y : Operand} {X Y : V} {eff : Eff} (ho : o.op = .binOp op xt x y yt) (hx : trep g X (ρ x)) (hy : trep g Y (ρ y)) (h : nilT P op xt (isNilC y) X Y = some (true, eff)) : Does P ρ o B w g bx eff := by
  have he : execOp ρ o = (do pure (.value (← (do eqGuard op xt x y (ρ x) (ρ y); binOp op xt (ρ x) (ρ y))))) := by simp only [execOp, ho]
  obtain ⟨hc, ms, r, hu, rfl, rfl, hX, hop⟩ := nilT_spec h
  obtain rfl := isNilC_eq hc
  refine does_val he (u := .bool r) ?_ (trep_bool.2 rfl)
  rw [trep_nilif.1 hy]
  have hg : ∀ q, (eqGuard op xt x (.const .nilIface) q .nilIface).run P w = .ok () w := by
    intro q
    rcases hop with ⟨rfl, _⟩ | ⟨rfl, _⟩ <;> cases q <;> simp [eqGuard]
  simp only [Sem.run_bind, hg, Result.andThen_ok]
  rcases hX with rfl | ⟨u, v, rfl⟩
  · rw [trep_nilif.1 hx]
    rcases hop with ⟨rfl, rfl⟩ | ⟨rfl, rfl⟩
    · show (do pure (Value.bool (← Op.equal xt .nilIface .nilIface)) : Sem Value).run P w = _
      simp only [Sem.run_bind, (run_eql_iface P w hu 0 .nilIface).1, Result.andThen_ok, Sem.run_pure]; rfl
    · show (do pure (Value.bool (!(← Op.equal xt .nilIface .nilIface))) : Sem Value).run P w = _
      simp only [Sem.run_bind, (run_eql_iface P w hu 0 .nilIface).1, Result.andThen_ok, Sem.run_pure]
      rfl
  · obtain ⟨z, hz, _⟩ := trep_iface.1 hx
    rw [hz]
    rcases hop with ⟨rfl, rfl⟩ | ⟨rfl, rfl⟩
    · show (do pure (Value.bool (← Op.equal xt (.iface u z) .nilIface)) : Sem Value).run P w = _
      simp only [Sem.run_bind, (run_eql_iface P w hu u z).2, Result.andThen_ok, Sem.run_pure]; rfl
    · show (do pure (Value.bool (!(← Op.equal xt (.iface u z) .nilIface))) : Sem Value).run P w = _
      simp only [Sem.run_bind, (run_eql_iface P w hu u z).2, Result.andThen_ok, Sem.run_pure]
      rfl
theorem makeIface_sound {t : TypeId} {x : Operand} {v : V} {d : TypeDesc} {X : V} (ho : o.op = .makeInterface t x) (hu : P.underlying t = some d) (hd : ∀ ms, d ≠ .interface ms) (hX : X.deep = some v) (hx : trep g X (ρ x)) : Does P ρ o B w g bx (.val (.iface t v)) := by
  refine ⟨.iface t (ρ x), ?_, trep_iface.2 ⟨_, rfl, trep_deep hx hX⟩⟩
  cases d with
  | interface ms => exact absurd rfl (hd ms)
  | _ => simp only [execOp, ho, Instr.makeInterface, Sem.run_bind, run_underlying hu, Result.andThen_ok]; rfl
theorem zeroT_single {t : TypeId} {z : V} (h : zeroT P t = some z) : z.plain = true ∧ z.single = true := by
  unfold zeroT at h
  split at h
  · split at h
    · rename_i u hu
      refine ⟨deep_plain h, ?_⟩
      unfold absV at h
      split at h
      · simp only [V.deep, Option.some.injEq] at h; subst h; rfl
      · unfold absC at h
        split at h <;> simp [V.deep] at h <;> subst h <;> rfl
    · cases h
  · cases h
theorem zeroT_sound {t : TypeId} {z : V} (h : zeroT P t = some z) : ∃ u, (zeroValue t).run P w = .ok u w ∧ ∀ G, rep G z u := by
  unfold zeroT at h
  split at h
  · rename_i i hi
    split at h
    · rename_i u hu
      refine ⟨u, ?_, fun G => ?_⟩
      · simp [zeroValue, typeInfo, hi, hu]
      · exact rep_deep (absV_rep G u) h
    · cases h
  · cases h
theorem typeAssert_sound {x : Operand} {xt t : TypeId} {d : TypeDesc} {z X : V} (ho : o.op = .typeAssert x xt t true) (hu : P.underlying t = some d) (hd : ∀ ms, d ≠ .interface ms) (hz : zeroT P t = some z) (hx : trep g X (ρ x)) :
    (X = .nilif → Does P ρ o B w g bx (.val (.tup [z, .bool false]))) ∧
    (∀ u v, X = .iface u v → u ≠ t → Does P ρ o B w g bx (.val (.tup [z, .bool false]))) ∧
    (∀ u v, X = .iface u v → u = t → srep g v = rep g.G v → Does P ρ o B w g bx (.val (.tup [v, .bool true]))) := by
  obtain ⟨zu, hzu, hzr⟩ := zeroT_sound (w := w) hz
  have hzs : srep g z zu := trep_single (zeroT_single hz).2 (trep_of_rep (zeroT_single hz).1 (hzr g.G))
  have hrun1 : ρ x = .nilIface → (Instr.typeAssert (ρ x) xt t true).run P w = .ok (.tuple #[zu, .bool false]) w := by
    intro hq
    rw [hq]
    cases d with
    | interface ms => exact absurd rfl (hd ms)
    | _ => simp only [Instr.typeAssert, Sem.run_bind, run_underlying hu, Result.andThen_ok]; simp [hzu]
  have hrun2 : ∀ u v, ρ x = .iface u v → (Instr.typeAssert (ρ x) xt t true).run P w = if u = t then .ok (.tuple #[v, .bool true]) w else .ok (.tuple #[zu, .bool false]) w := by
    intro u v hq
    rw [hq]
    cases d with
    | interface ms => exact absurd rfl (hd ms)
    | _ =>
      simp only [Instr.typeAssert, Sem.run_bind, run_underlying hu, Result.andThen_ok]
      by_cases hut : u = t
      · simp [hut]
      · simp [hut, hzu]
  have he : execOp ρ o = (do pure (.value (← Instr.typeAssert (ρ x) xt t true))) := by simp only [execOp, ho]
  have hf : srep g (.bool false) (.bool false) := by show rep _ _ _; unfold rep; rfl
  have ht : srep g (.bool true) (.bool true) := by show rep _ _ _; unfold rep; rfl
  refine ⟨fun e => ?_, fun u v e hne => ?_, fun u v e heq hsr => ?_⟩
  · subst e
    have hq := hrun1 (trep_nilif.1 hx)
    exact does_val he (u := .tuple #[zu, .bool false]) hq ⟨[zu, .bool false], rfl, .cons hzs (.cons hf .nil)⟩
  · subst e
    obtain ⟨q, hq, _⟩ := trep_iface.1 hx
    have h2 := hrun2 _ _ hq
    rw [if_neg hne] at h2
    exact does_val he (u := .tuple #[zu, .bool false]) h2 ⟨[zu, .bool false], rfl, .cons hzs (.cons hf .nil)⟩
  · subst e
    obtain ⟨q, hq, hr⟩ := trep_iface.1 hx
    have h2 := hrun2 _ _ hq
    rw [if_pos heq] at h2
    exact does_val he (u := .tuple #[q, .bool true]) h2 ⟨[q, .bool true], rfl, .cons (by rw [hsr]; exact hr) (.cons ht .nil)⟩
end
end Nt.Ev

namespace Nt.Ev
open Go Go.RowKit
section
variable {P : Program} {ρ : Operand → Value} {o : Oper} {B : Own} {w : World} {g : Gh} {bx : List (Nat × List V)}
def upd (G : Known) (b : Nat) (l : List Value) : Known := fun k => if k = b then some l else G k
theorem upd_same (G : Known) (b : Nat) (l : List Value) : upd G b l b = some l := by simp [upd]
theorem upd_other (G : Known) (b k : Nat) (l : List Value) (h : k ≠ b) : upd G b l k = G k := by simp [upd, h]
theorem known_lt {G : Known} (hG : GOk G w) {b : Nat} {l : List Value} (h : G b = some l) : b < w.heap.size := by
  obtain ⟨c, e, fr, hc, _⟩ := hG b l h
  exact (Array.getElem?_eq_some_iff.1 hc).1
theorem more_upd_new {G : Known} (hG : GOk G w) (l : List Value) : More G (upd G w.heap.size l) := by
  intro b m h
  have := known_lt hG h
  exact ⟨m, by rw [upd_other _ _ _ _ (by omega)]; exact h, List.prefix_refl _⟩
theorem new_row {G : Known} (hG : GOk G w) {w' : World} {c : Array Value} {e : TypeId} {fr : Nat × Nat} (hB : Below w.heap.size w w') (hh : w'.heap[w.heap.size]? = some (.cells c e fr)) (n : Nat) (hn : n ≤ c.size) :
    New w w' G (upd G w.heap.size (c.toList.take n)) := by
  refine ⟨hB, fun b hb => upd_other _ _ _ _ (by omega), ?_⟩
  intro b l h
  by_cases e' : b = w.heap.size
  · subst e'
    rw [upd_same] at h
    simp only [Option.some.injEq] at h
    subst h
    refine ⟨c, e, fr, hh, ?_⟩
    have e1 : c.toList.length = c.size := by simp
    rw [List.length_take, e1, Nat.min_eq_left hn]
  · rw [upd_other _ _ _ _ e'] at h
    obtain ⟨c', e2, fr', hc, ht⟩ := hG b l h
    exact ⟨c', e2, fr', by rw [hB.block b (known_lt hG h)]; exact hc, ht⟩
theorem below_alloc (w : World) (o : Obj) : Below w.heap.size w (w.alloc o) := (Below.refl _ _).alloc (Nat.le_refl _) o
theorem elemOf_spec {t e : TypeId} {sh : List Kd} {z : V} (h : elemOf P t = some (e, sh, z)) : P.underlying t = some (.slice e) ∧ ∃ i zv, P.info? e = some i ∧ i.zero = some zv ∧ z = absV zv ∧ sh = shapeT P 8 e ∧ i.size = sh.length ∧ 0 < sh.length ∧ zv.cells.size = sh.length ∧ i.bytes ≤ 8388608 ∧ fitsE sh z = true := by
  unfold elemOf at h
  split at h
  · cases h
  · rename_i e' he
    split at h
    · cases h
    · rename_i i hi
      split at h
      · cases h
      · rename_i zv hz
        have hh := cond_some h
        clear h
        obtain ⟨hc, h⟩ := hh
        simp only [Option.some.injEq, Prod.mk.injEq] at h
        obtain ⟨rfl, rfl, rfl⟩ := h
        simp only [Bool.and_eq_true, beq_iff_eq, Nat.blt_eq] at hc
        obtain ⟨⟨⟨⟨h1, h2⟩, h3⟩, h4⟩, h5⟩ := hc
        exact ⟨elemT_spec he, i, zv, hi, hz, rfl, rfl, h1, by omega, by omega, Nat.le_of_ble_eq_true h4, h5⟩
theorem own_new {G : Known} {e : Nat} {sh : List Kd} {xs : List V} {cap : Nat} {c : Array Value} {w' : World} (hG : GOk G w) (hB : Below w.heap.size w w') (hh : w'.heap[w.heap.size]? = some (.cells c e (0, 0))) (h0 : 0 < sh.length)
    (hcap : xs.length ≤ cap) (hm : cap ≤ maxLen) (hc : c.size = cap * sh.length) (hE : repE G sh xs (c.toList.take (xs.length * sh.length))) :
    ∃ G', New w w' G G' ∧ ownFacts G' w' (w.heap.size ≤ ·) e sh xs (.slice (some ⟨w.heap.size, 0, none⟩) xs.length cap) := by
  have hle : xs.length * sh.length ≤ c.size := by rw [hc]; exact Nat.mul_le_mul_right _ hcap
  refine ⟨_, new_row hG hB hh (xs.length * sh.length) hle, h0, .inr ⟨w.heap.size, cap, c, _, rfl, Nat.le_refl _, hh, hcap, hm, hc, upd_same _ _ _, ?_, ?_⟩⟩
  · have e1 : c.toList.length = c.size := by simp
    rw [List.length_take, e1]; omega
  · exact repE_more (more_upd_new hG _) sh xs _ _ hE (List.prefix_refl _)
theorem makeV_sound {t : TypeId} {l c : Operand} {L C : V} {eff : Eff} (ho : o.op = .makeSlice t l c) (hG : GOk g.G w) (hl : trep g L (ρ l)) (hc : trep g C (ρ c)) (h : makeV P t L C = some (true, eff)) : Does P ρ o B w g bx eff := by
  have he : execOp ρ o = (do pure (.value (← Instr.makeSlice t (ρ l) (ρ c)))) := by simp only [execOp, ho]
  unfold makeV at h
  split at h
  · rename_i n m e sh z hel
    simp only [Option.some.injEq, Prod.mk.injEq] at h
    obtain ⟨hcd, rfl⟩ := h
    obtain ⟨c1, c23⟩ := band_true hcd
    obtain ⟨c2, c3⟩ := band_true c23
    have c1 := ile_true c1
    have c2 := ile_true c2
    have c3 := ile_true c3
    obtain ⟨hu, i, zv, hi, hz, rfl, _, hsz, h0, hzc, hby, hfit⟩ := elemOf_spec hel
    rw [trep_int] at hl hc
    have hm64 : m ≤ 9223372036854775807 := by omega
    have hcells : m.toNat * i.size ≤ m.toNat * i.size := Nat.le_refl _
    have hbytes : (i.bytes : Int) * m ≤ 281474976710656 := by
      have h1 : (i.bytes : Int) ≤ 8388608 := by omega
      calc (i.bytes : Int) * m ≤ 8388608 * m := Int.mul_le_mul_of_nonneg_right h1 (by omega)
        _ ≤ 8388608 * 16777216 := by omega
        _ ≤ 281474976710656 := by decide
    have hr := run_make (P := P) w t e i zv hu hi hz .i64 .i64 n m c1 c2 hbytes hm64
    have hzs : (madeCells zv.cells (m.toNat * i.size)).size = m.toNat * sh.length := by rw [size_madeCells, hsz]
    have hE : repE g.G sh (lrep n (absV zv)) ((madeCells zv.cells (m.toNat * i.size)).toList.take ((lrep n (absV zv)).length * sh.length)) := by
      have hx : absV zv ≠ .any := fun e => by rw [e, fitsE_any] at hfit; cases hfit
      have key : ∀ (k : Nat) (cells : List Value), k * sh.length ≤ cells.length → (∀ j, j < k * sh.length → cells[j]? = some (zv.cells[j % zv.cells.size]!)) → repE g.G sh (List.replicate k (absV zv)) cells := by
        intro k
        induction k with
        | zero => intro cells _ _; exact repE_nil
        | succ k ih =>
          intro cells hle hj
          have e1 : (k + 1) * sh.length = sh.length + k * sh.length := by rw [Nat.add_mul, Nat.one_mul, Nat.add_comm]
          rw [List.replicate_succ]
          unfold repE
          refine ⟨hfit, ⟨zv, absV_rep _ _, ?_⟩, ih _ (by rw [List.length_drop]; omega) ?_⟩
          · apply List.ext_getElem?
            intro j
            rw [List.getElem?_take]
            by_cases hjl : j < sh.length
            · rw [if_pos hjl, hj j (by omega), Nat.mod_eq_of_lt (by omega)]
              have : j < zv.cells.size := by omega
              simp [this]
            · rw [if_neg hjl, List.getElem?_eq_none (by simp; omega)]
          · intro j hjk
            rw [List.getElem?_drop, hj _ (by omega), hzc, Nat.add_mod_left]
      have hle : n.toNat ≤ m.toNat := by omega
      have hlen : (lrep n (absV zv)).length = n.toNat := by unfold lrep; simp
      rw [hlen]
      refine key n.toNat _ ?_ ?_
      · have e1 : (madeCells zv.cells (m.toNat * i.size)).toList.length = m.toNat * sh.length := by rw [← hzs]; simp
        rw [List.length_take, e1]
        have := Nat.mul_le_mul_right sh.length hle
        omega
      · intro j hj
        rw [List.getElem?_take, if_pos hj]
        have hj2 : j < m.toNat * i.size := by
          have := Nat.mul_le_mul_right sh.length hle
          rw [hsz]; omega
        simp [madeCells, hj2]
    have hlen : (lrep n (absV zv)).length = n.toNat := by unfold lrep; simp
    have hap := fun hE => own_new (e := e) (sh := sh) (xs := lrep n (absV zv)) (cap := m.toNat) (c := madeCells zv.cells (m.toNat * i.size)) hG (below_alloc w (.cells (madeCells zv.cells (m.toNat * i.size)) e)) (heap_alloc_new w _) h0 (by rw [hlen]; omega) (by unfold maxLen; omega) hzs hE
    obtain ⟨G', hN, hF⟩ := hap hE
    refine ⟨_, _, G', ?_, hN, hF⟩
    rw [he, hl, hc, hlen]
    simp only [Sem.run_bind, hr, Result.andThen_ok, Sem.run_pure]
  · cases h
theorem foldl_over : ∀ (vs : List Value) (cells : Array Value) (off k : Nat), off + k + vs.length ≤ cells.size →
    ((vs.zipIdx k).foldl (fun cs (x : Value × Nat) => cs.setIfInBounds (off + x.2) x.1) cells).toList = cells.toList.take (off + k) ++ vs ++ cells.toList.drop (off + k + vs.length)
  | [], cells, off, k, h => by simp
  | v :: vs, cells, off, k, h => by
    simp only [List.length_cons] at h
    rw [List.zipIdx_cons, List.foldl_cons, foldl_over vs _ off (k + 1) (by simp; omega)]
    simp only [Array.toList_setIfInBounds]
    have h1 : off + k < cells.toList.length := by simp; omega
    rw [show off + (k + 1) = off + k + 1 by omega, List.take_add_one, List.getElem?_set_self h1, List.take_set_of_le (Nat.le_refl _), List.drop_set_of_lt (by omega)]
    simp only [Option.toList_some, List.length_cons]
    rw [show off + k + 1 + vs.length = off + k + (vs.length + 1) by omega]
    simp
theorem over_pw {R : V → Value → Prop} {cs vs : List V} {us ws : List Value} (h : PW R cs us) (k : PW R vs ws) (off : Nat) : PW R (over cs off vs) (us.take off ++ ws ++ us.drop (off + ws.length)) := by
  unfold over
  rw [← k.1]
  exact ((h.take off).append k).append (h.drop _)
theorem fill_sound {G : Known} {place : Nat → Option (Nat × Nat)} : ∀ (parts : List (Nat × V)) (vparts : List (Nat × Value)) (cs out : List V) (cells : Array Value), parts.map (·.1) = vparts.map (·.1) → (∀ (i : Nat) (x : V) (v : Value), (parts[i]?).map (fun (p : Nat × V) => p.2) = some x → (vparts[i]?).map (fun (p : Nat × Value) => p.2) = some v → ∀ y, x.deep = some y → rep G y v) →
    PW (rep G) cs cells.toList → fillV place cs parts = some out → ∃ outs, Instr.fill place cells vparts = some outs ∧ PW (rep G) out outs.toList
  | [], vparts, cs, out, cells, hm, _, hp, h => by
    cases vparts with
    | nil => simp only [fillV, Option.some.injEq] at h; subst h; exact ⟨cells, rfl, hp⟩
    | cons x l => simp at hm
  | (i, x) :: rest, vparts, cs, out, cells, hm, hr, hp, h => by
    cases vparts with
    | nil => simp at hm
    | cons y l =>
      obtain ⟨i', v⟩ := y
      simp only [List.map_cons, List.cons.injEq] at hm
      obtain ⟨rfl, hm⟩ := hm
      simp only [fillV] at h
      split at h
      · rename_i off size x' hpl hd
        have hh := cond_some h
        clear h
        obtain ⟨hc, h⟩ := hh
        simp only [Bool.and_eq_true, beq_iff_eq] at hc
        obtain ⟨hc1, hc2⟩ := hc
        have hc2 := Nat.le_of_ble_eq_true hc2
        have hrep := hr 0 x v rfl rfl x' hd
        have hne : x' ≠ .any := by
          intro e; subst e
          have := deep_plain hd
          cases x with
          | fn f c => cases c <;> simp [V.deep] at hd
          | _ => simp [V.deep] at hd
        obtain ⟨hl, hpw⟩ := rep_cells hrep hne
        have hvs : v.cells.size = size := by omega
        have hle : off + v.cells.size ≤ cells.size := by
          have h1 := hp.1
          have e1 : cells.toList.length = cells.size := by simp
          omega
        have hov : ((v.cells.toList.zipIdx 0).foldl (fun cs (x : Value × Nat) => cs.setIfInBounds (off + x.2) x.1) cells).toList = cells.toList.take off ++ v.cells.toList ++ cells.toList.drop (off + v.cells.toList.length) := by
          have := foldl_over v.cells.toList cells off 0 (by simpa using hle)
          simpa using this
        have hfold : v.cells.zipIdx.foldl (fun cs (x : Value × Nat) => cs.setIfInBounds (off + x.2) x.1) cells = (v.cells.toList.zipIdx 0).foldl (fun cs (x : Value × Nat) => cs.setIfInBounds (off + x.2) x.1) cells := by
          rw [← Array.foldl_toList]; simp
        have hp2 : PW (rep G) (over cs off x'.cells) (v.cells.zipIdx.foldl (fun cs (x : Value × Nat) => cs.setIfInBounds (off + x.2) x.1) cells).toList := by
          rw [hfold, hov]
          exact over_pw hp hpw off
        obtain ⟨outs, ho, hpo⟩ := fill_sound rest l _ out _ hm (fun j a b h1 h2 => hr (j + 1) a b h1 h2) hp2 h
        refine ⟨outs, ?_, hpo⟩
        unfold Instr.fill
        rw [hpl]
        simp only
        split
        · rename_i hbad
          exfalso
          simp at hbad
          omega
        · exact ho
      · cases h
end
end Nt.Ev

namespace Nt.Ev
open Go Go.RowKit
section
variable {P : Program} {o : Oper} {B : Own} {w : World} {g : Gh} {bx : List (Nat × List V)} {r : Operand → V} {ac : Act}
theorem parts_maps (parts : Array (Nat × Operand)) (f : Operand → V) (r : Operand → Value) :
    (parts.toList.map fun (i, x) => (i, f x)).map (·.1) = ((parts.map fun (i, x) => (i, r x)).toList).map (·.1) := by
  simp [Array.toList_map, List.map_map, Function.comp_def]
theorem parts_rep (hE : ∀ y, trep g (r y) (ac.eval y)) (parts : Array (Nat × Operand)) : ∀ (i : Nat) (x : V) (v : Value), ((parts.toList.map fun (i, x) => (i, r x))[i]?).map (fun (p : Nat × V) => p.2) = some x →
    (((parts.map fun (i, x) => (i, ac.eval x)).toList)[i]?).map (fun (p : Nat × Value) => p.2) = some v → ∀ y, x.deep = some y → rep g.G y v := by
  intro i x v hx hv y hy
  simp only [Array.toList_map, List.getElem?_map, Option.map_map, Function.comp_def] at hx hv
  cases hp : parts.toList[i]? with
  | none => rw [hp] at hx; cases hx
  | some p =>
    rw [hp] at hx hv
    simp only [Option.map_some, Option.some.injEq] at hx hv
    subst hx; subst hv
    exact trep_deep (hE p.2) hy
theorem zeroArr_pw {G : Known} {zv : Value} (hz : absV zv ≠ .any) (n sz : Nat) (hs : zv.cells.size = sz) (h0 : 0 < sz) : PW (rep G) (zerosV (absV zv) n sz) ((Array.range (n * sz)).map (zv.cells[· % zv.cells.size]!)).toList := by
  obtain ⟨hl, hpw⟩ := rep_cells (absV_rep G zv) hz
  unfold zerosV
  refine ⟨by simp, fun i x v hx hv => ?_⟩
  have hi : i < n * sz := by
    have := (List.getElem?_eq_some_iff.1 hx).1
    simpa using this
  simp only [List.getElem?_map, List.getElem?_range hi, Option.map_some, Option.some.injEq] at hx
  subst hx
  have hm : i % sz < sz := Nat.mod_lt _ h0
  simp only [Array.toList_map, List.getElem?_map, Array.toList_range, List.getElem?_range hi, Option.map_some, Option.some.injEq, hs] at hv
  subst hv
  have hm2 : i % sz < (absV zv).cells.length := by omega
  refine hpw.2 (i % sz) _ _ (getD_some hm2) ?_
  have hm3 : i % sz < zv.cells.size := by omega
  simp [hm3]
theorem buildSlice_sound {t : TypeId} {n : Nat} {parts : Array (Nat × Operand)} {eff : Eff} (ho : o.op = .buildSlice t n parts) (hG : GOk g.G w) (hE : ∀ y, trep g (r y) (ac.eval y))
    (h : buildSliceV P t n (parts.toList.map fun (i, x) => (i, r x)) = some (true, eff)) : Does P ac.eval o B w g bx eff := by
  have he : execOp ac.eval o = (do pure (.value (← Instr.buildSlice t n (parts.map fun (i, x) => (i, ac.eval x))))) := by simp only [execOp, ho]
  unfold buildSliceV at h
  split at h
  · rename_i e sh z hel
    obtain ⟨hu, i, zv, hi, hz, rfl, _, hsz, h0, hzc, hby, hfit⟩ := elemOf_spec hel
    by_cases hn : n = 0
    · subst hn
      simp only [beq_self_eq_true, cond_true] at h
      split at h
      · rename_i hpn
        simp only [Option.some.injEq, Prod.mk.injEq, true_and] at h
        subst h
        have hpe : parts = #[] := by
          have := congrArg List.length hpn
          simp at this
          exact this
        subst hpe
        obtain ⟨G', hN, hF⟩ := own_new (e := e) (sh := sh) (xs := []) (cap := 0) (c := #[]) hG (below_alloc w (.cells #[] e)) (heap_alloc_new w _) h0 (Nat.le_refl _) (by unfold maxLen; omega) (by simp) repE_nil
        refine ⟨_, _, G', ?_, hN, hF⟩
        rw [he]
        have e0 : ∀ f : Nat → Value, Array.map f (Array.range 0) = #[] := fun f => by rw [← Array.toList_inj]; simp
        simp [Instr.buildSlice, run_underlying hu, Go.sizeOf, typeInfo, hi, Instr.fill, newRow, e0]
      · cases h
    · have hn' : (n == 0) = false := by simpa using hn
      rw [hn'] at h
      simp only [cond_false] at h
      split at h
      · rename_i ag cs hag hfl
        have hh := cond_some h
        clear h
        obtain ⟨hc, h⟩ := hh
        simp only [Option.some.injEq, Prod.mk.injEq, true_and] at h
        subst h
        simp only [Bool.and_eq_true] at hc
        obtain ⟨⟨hc1, hc2⟩, hc3⟩ := hc
        have hc3 := Nat.le_of_ble_eq_true hc3
        have hzne : absV zv ≠ .any := fun e => by rw [e, fitsE_any] at hfit; cases hfit
        have hpz := zeroArr_pw (G := g.G) hzne n sh.length hzc h0
        obtain ⟨outs, hfo, hpo⟩ := fill_sound _ _ _ cs _ (parts_maps parts _ ac.eval) (parts_rep hE parts) hpz hfl
        have hlen : cs.length = n * sh.length := by
          have h1 : ∀ (pl : Nat → Option (Nat × Nat)) (ps : List (Nat × V)) (a b : List V), fillV pl a ps = some b → b.length = a.length := by
            intro pl ps
            induction ps with
            | nil => intro a b h; simp only [fillV, Option.some.injEq] at h; rw [h]
            | cons p ps ih =>
              intro a b h
              obtain ⟨i, x⟩ := p
              simp only [fillV] at h
              split at h
              · have hh := cond_some h
                obtain ⟨hc, h2⟩ := hh
                simp only [Bool.and_eq_true, beq_iff_eq] at hc
                have := Nat.le_of_ble_eq_true hc.2
                rw [ih _ _ h2]
                unfold over
                simp
                omega
              · cases h
          rw [h1 _ _ _ _ hfl]
          unfold zerosV
          simp
        have hcl : ∀ (m : Nat) (cs : List V), (chunks ag sh.length m cs).length = m := by
          intro m
          induction m with
          | zero => intro cs; rfl
          | succ m ih => intro cs; unfold chunks; rw [List.length_cons, ih]
        have hrep := chunks_repE hc1 n cs outs.toList hpo hlen h0 hc2
        have hos : outs.size = n * sh.length := by
          have := hpo.1
          rw [hlen] at this
          simpa using this.symm
        obtain ⟨G', hN, hF⟩ := own_new (e := e) (sh := sh) (xs := chunks ag sh.length n cs) (cap := n) (c := outs) hG (below_alloc w (.cells outs e)) (heap_alloc_new w _) h0 (by rw [hcl]; exact Nat.le_refl _) (by
          unfold maxLen
          have := Nat.le_mul_of_pos_right n h0
          omega) hos (repE_cells _ _ hrep).2
        refine ⟨_, _, G', ?_, hN, hF⟩
        rw [he, hcl]
        have hnz : ¬ n * i.size = 0 := by
          rw [hsz]
          have := Nat.mul_pos (Nat.pos_of_ne_zero hn) h0
          omega
        have hr := run_buildSlice (P := P) w t e n (parts.map fun (i, x) => (i, ac.eval x)) outs i zv hu hi hz (by rw [hsz]; omega) hnz (by rw [hsz]; exact hfo)
        simp only [Sem.run_bind, hr, Result.andThen_ok, Sem.run_pure]
      · cases h
  · cases h
theorem mapM_sizes {fs : Array Field} (h : fs.all (fun f => (sizeT P f.type).isSome) = true) : (fs.mapM fun (f : Field) => (do pure (f.offset, ← Go.sizeOf f.type) : Sem (Nat × Nat))).run P w = .ok (fs.map fun f => (f.offset, (sizeT P f.type).getD 0)) w := by
  rw [Array.mapM_eq_mapM_toList]
  have key : ∀ l : List Field, (∀ f ∈ l, (sizeT P f.type).isSome = true) → (l.mapM fun (f : Field) => (do pure (f.offset, ← Go.sizeOf f.type) : Sem (Nat × Nat))).run P w = .ok (l.map fun f => (f.offset, (sizeT P f.type).getD 0)) w := by
    intro l
    induction l with
    | nil => intro _; rfl
    | cons f l ih =>
      intro hl
      have hf := hl f (by simp)
      obtain ⟨n, hn⟩ := Option.isSome_iff_exists.1 hf
      rw [List.mapM_cons]
      simp only [Sem.run_bind, sizeT_run hn, Result.andThen_ok, Sem.run_pure, ih (fun x hx => hl x (by simp [hx]))]
      simp [hn]
  have := key fs.toList (fun f hf => by
    have h2 := Array.all_eq_true_iff_forall_mem.1 h f (by simpa using hf)
    exact h2)
  simp only [Sem.run_bind, Sem.run_map, this, Result.andThen_ok]
  congr 1
  rw [← Array.toList_inj]
  simp
theorem build_sound {t : TypeId} {parts : Array (Nat × Operand)} {eff : Eff} (ho : o.op = .build t parts) (hE : ∀ y, trep g (r y) (ac.eval y))
    (h : buildV P t (parts.toList.map fun (i, x) => (i, r x)) = some (true, eff)) : Does P ac.eval o B w g bx eff := by
  have he : execOp ac.eval o = (do pure (.value (← Instr.build t (parts.map fun (i, x) => (i, ac.eval x))))) := by simp only [execOp, ho]
  unfold buildV at h
  split at h
  · rename_i i hi
    split at h
    · rename_i z fs hz hu
      split at h
      · rename_i cs hfl
        have hh := cond_some h
        clear h
        obtain ⟨hc, h⟩ := hh
        simp only [ok, Option.some.injEq, Prod.mk.injEq, true_and] at h
        subst h
        have hpz : PW (rep g.G) (z.toList.map absC) z.toList := ⟨by simp, fun j x v hx hv => by
          simp only [List.getElem?_map, hv, Option.map_some, Option.some.injEq] at hx
          subst hx; exact absC_rep g.G v⟩
        obtain ⟨outs, hfo, hpo⟩ := fill_sound _ _ _ cs z (parts_maps parts _ ac.eval) (parts_rep hE parts) hpz hfl
        have hpl : placeV P fs = fun (j : Nat) => ((fs.map fun (f : Field) => (f.offset, (sizeT P f.type).getD 0))[j]?) := by
          funext j
          unfold placeV
          rw [Array.getElem?_map]
          cases hj : fs[j]? with
          | none => rfl
          | some f =>
            have h2 := Array.all_eq_true_iff_forall_mem.1 hc f (Array.mem_of_getElem? hj)
            obtain ⟨n, hn⟩ := Option.isSome_iff_exists.1 h2
            simp [hn]
        rw [hpl] at hfo
        refine does_val he (u := .agg outs) ?_ (trep_agg.2 ⟨outs.toList, by simp, hpo⟩)
        have hzr : (zeroValue t).run P w = .ok (.agg z) w := by simp [zeroValue, typeInfo, hi, hz]
        simp only [Instr.build, Sem.run_bind, hzr, Result.andThen_ok, run_underlying hu, mapM_sizes hc, Value.cells, hfo, Sem.run_pure]
      · cases h
    · rename_i z k e hz hu
      split at h
      · rename_i n hs
        split at h
        · rename_i cs hfl
          simp only [ok, Option.some.injEq, Prod.mk.injEq, true_and] at h
          subst h
          have hpz : PW (rep g.G) (z.toList.map absC) z.toList := ⟨by simp, fun j x v hx hv => by
            simp only [List.getElem?_map, hv, Option.map_some, Option.some.injEq] at hx
            subst hx; exact absC_rep g.G v⟩
          obtain ⟨outs, hfo, hpo⟩ := fill_sound _ _ _ cs z (parts_maps parts _ ac.eval) (parts_rep hE parts) hpz hfl
          refine does_val he (u := .agg outs) ?_ (trep_agg.2 ⟨outs.toList, by simp, hpo⟩)
          have hzr : (zeroValue t).run P w = .ok (.agg z) w := by simp [zeroValue, typeInfo, hi, hz]
          simp only [Instr.build, Sem.run_bind, hzr, Result.andThen_ok, run_underlying hu, sizeT_run hs, Value.cells, hfo, Sem.run_pure]
        · cases h
      · cases h
    · cases h
  · cases h
theorem boxCells_rep {x : V} {cs : List V} {u : Value} (h : boxCells x = some cs) (hx : trep g x u) : PW (trep g) cs u.cells.toList ∧ ∀ c ∈ u.cells.toList, c.oneCell' = true := by
  have one : ∀ (y : V) (c : Value), y.one = true → rep g.G y c → trep g y c ∧ c.oneCell' = true := by
    intro y c hy hr
    cases y with
    | sl e sh ow xs =>
      cases ow with
      | none => exact ⟨hr, by unfold rep at hr; obtain ⟨p, cap, rfl, _⟩ := hr; rfl⟩
      | some L => cases hy
    | bool b => refine ⟨hr, ?_⟩; unfold rep at hr; subst hr; rfl
    | int k n => refine ⟨hr, ?_⟩; unfold rep at hr; subst hr; rfl
    | str l => refine ⟨hr, ?_⟩; unfold rep at hr; subst hr; rfl
    | nilsl => refine ⟨hr, ?_⟩; unfold rep at hr; subst hr; rfl
    | rptr sh x off => refine ⟨hr, ?_⟩; unfold rep at hr; obtain ⟨b, q, l, rfl, _⟩ := hr; rfl
    | nilif => refine ⟨hr, ?_⟩; unfold rep at hr; subst hr; rfl
    | nilp => refine ⟨hr, ?_⟩; unfold rep at hr; subst hr; rfl
    | iface t x => refine ⟨hr, ?_⟩; unfold rep at hr; obtain ⟨u, rfl, _⟩ := hr; rfl
    | _ => cases hy
  cases x with
  | agg ds =>
    unfold boxCells at h
    have hh := cond_some h
    obtain ⟨h1, h2⟩ := hh
    simp only [Option.some.injEq] at h2
    subst h2
    obtain ⟨a, rfl, hp⟩ := trep_agg.1 hx
    rw [cells_agg]
    rw [List.all_eq_true] at h1
    refine ⟨hp.mono fun y hy v hv => (one y v (h1 y hy) hv).1, fun c hc => ?_⟩
    obtain ⟨j, hj, rfl⟩ := List.getElem_of_mem hc
    have hj' : j < ds.length := by rw [hp.1]; exact hj
    exact (one _ _ (h1 _ (List.getElem_mem hj')) (hp.2 j _ _ (List.getElem?_eq_getElem hj') (List.getElem?_eq_getElem hj))).2
  | any => cases h
  | tup vs => cases h
  | old _ => cases h
  | eptr _ _ _ _ _ _ => cases h
  | bool b => simp only [boxCells, Option.some.injEq] at h; subst h; have h1 := trep_bool.1 hx; subst h1; exact ⟨.cons hx .nil, by simp [Value.cells, Value.oneCell']⟩
  | int k n => simp only [boxCells, Option.some.injEq] at h; subst h; have h1 := trep_int.1 hx; subst h1; exact ⟨.cons hx .nil, by simp [Value.cells, Value.oneCell']⟩
  | str l => simp only [boxCells, Option.some.injEq] at h; subst h; have h1 := trep_str.1 hx; subst h1; exact ⟨.cons hx .nil, by simp [Value.cells, Value.oneCell']⟩
  | nilsl => simp only [boxCells, Option.some.injEq] at h; subst h; have h1 := trep_nilsl.1 hx; subst h1; exact ⟨.cons hx .nil, by simp [Value.cells, Value.oneCell']⟩
  | sl e sh ow xs =>
    simp only [boxCells, Option.some.injEq] at h; subst h
    have h1 := trep_slice hx
    unfold rep at h1
    obtain ⟨p, cap, rfl, _⟩ := h1
    exact ⟨.cons hx .nil, by simp [Value.cells, Value.oneCell']⟩
  | rptr sh y off => simp only [boxCells, Option.some.injEq] at h; subst h; obtain ⟨b, q, l, rfl, _⟩ := trep_rptr.1 hx; exact ⟨.cons hx .nil, by simp [Value.cells, Value.oneCell']⟩
  | box k off => simp only [boxCells, Option.some.injEq] at h; subst h; obtain ⟨b, _, rfl⟩ := trep_box.1 hx; exact ⟨.cons hx .nil, by simp [Value.cells, Value.oneCell']⟩
  | fn f c =>
    obtain ⟨hfA, h⟩ := cond_some (show (bif Nat.blt f ARR then some [V.fn f c] else none) = some cs from h)
    simp only [Option.some.injEq] at h; subst h
    have hx' := hx
    obtain ⟨a, rfl, _⟩ := hx'
    rw [cloV_lt hfA] at hx ⊢
    exact ⟨.cons hx .nil, by simp [Value.cells, Value.oneCell']⟩
  | nilif => simp only [boxCells, Option.some.injEq] at h; subst h; have h1 := trep_nilif.1 hx; subst h1; exact ⟨.cons hx .nil, by simp [Value.cells, Value.oneCell']⟩
  | nilp => simp only [boxCells, Option.some.injEq] at h; subst h; have h1 := trep_nilp.1 hx; subst h1; exact ⟨.cons hx .nil, by simp [Value.cells, Value.oneCell']⟩
  | iface t y => simp only [boxCells, Option.some.injEq] at h; subst h; obtain ⟨u, rfl, _⟩ := trep_iface.1 hx; exact ⟨.cons hx .nil, by simp [Value.cells, Value.oneCell']⟩
  | bxa _ _ => cases h
  | out _ _ _ => cases h
  | cho _ _ _ => cases h
theorem box_sound {t : TypeId} {x : Operand} {cs : List V} (ho : o.op = .box t x) (hE : ∀ y, trep g (r y) (ac.eval y)) (h : boxCells (r x) = some cs) (hq : isBld cs = true → isBldT P t cs.length = true) : Does P ac.eval o B w g bx (.newBox t cs) := by
  obtain ⟨h1, h2⟩ := boxCells_rep h (hE x)
  refine ⟨(ac.eval x).cells, ?_, h1, h2, hq⟩
  simp [execOp, ho, Instr.box, newVar, newRow]
theorem alloc_sound {t : TypeId} {i : TypeInfo} {z : Value} {cs : List V} (ho : o.op = .alloc t) (hi : P.info? t = some i) (hz : i.zero = some z) (h : boxCells (absV z) = some cs) (hq : isBld cs = true → isBldT P t cs.length = true) : Does P ac.eval o B w g bx (.newBox t cs) := by
  obtain ⟨h1, h2⟩ := boxCells_rep h (trep_of_rep (absV_plain z) (absV_rep g.G z))
  refine ⟨z.cells, ?_, h1, h2, hq⟩
  simp [execOp, ho, Instr.alloc, zeroValue, typeInfo, hi, hz, newVar, newRow]
theorem store_sound {t : TypeId} {a x : Operand} {k off n : Nat} {cells vs : List V} (ho : o.op = .store t a x) (hB : BOk P B g bx w) (hE : ∀ y, trep g (r y) (ac.eval y)) (ha : r a = .box k off) (hx : boxCells (r x) = some vs)
    (hl : lookBx bx k = some cells) (hs : sizeT P t = some n) (h1 : vs.length = n) (h2 : off + n ≤ cells.length) : Does P ac.eval o B w g bx (.put k off vs) := by
  have hpa := hE a
  rw [ha] at hpa
  obtain ⟨b, hb, hp⟩ := trep_box.1 hpa
  obtain ⟨b', c, e, hb', hBb, hh, hpw, hone, hGn⟩ := hB.1 k cells hl
  rw [hb] at hb'
  simp only [Option.some.injEq] at hb'
  subst hb'
  obtain ⟨r1, r2⟩ := boxCells_rep hx (hE x)
  have hsz : (ac.eval x).cells.size = n := by
    have := r1.1
    simp only [Array.length_toList] at this
    omega
  have hcs : cells.length = c.size := by rw [hpw.1]; simp
  refine ⟨b, c, e, (ac.eval x).cells.toList, cells, hb, hl, hh, hpw, ?_, r1, r2, by omega⟩
  have hst := run_storeCells_at P b off e (ac.eval x).cells.toList 0 c w hh (by simp; omega) r2
  simp only [Nat.add_zero] at hst
  obtain ⟨i, hi, hin⟩ := sizeT_info hs
  simp [execOp, ho, hp, Instr.storeAt, Instr.sureAddr, storeVar, Go.sizeOf, typeInfo, hi, hsz, hin, hst]
theorem flat_rep {k : Kd} {x : V} {v : Value} (hk : flatK k = true) (hf : fits k x = true) (h : trep g x v) : rep g.G x v := by
  cases k <;> first | cases hk | skip
  all_goals cases x <;> first | exact h | (simp [fits] at hf)
theorem repL_set {G : Known} {v : V} {u : Value} (hr : rep G v u) : ∀ (cs : List V) (as : List Value) (off : Nat), repL G cs as → repL G (cs.set off v) (as.set off u)
  | [], as, off, h => by
    unfold repL at h
    subst h
    show repL G [] []
    unfold repL
    rfl
  | y :: cs, as, off, h => by
    unfold repL at h
    obtain ⟨a, t, rfl, h1, h2⟩ := h
    cases off with
    | zero =>
      show repL G (v :: cs) (u :: t)
      unfold repL
      exact ⟨u, t, rfl, hr, h2⟩
    | succ off =>
      show repL G (y :: cs.set off v) (a :: t.set off u)
      unfold repL
      exact ⟨a, _, rfl, h1, repL_set hr cs t off h2⟩
theorem band_two (a b : Bool) : band a b = true ↔ a = true ∧ b = true := by cases a <;> cases b <;> decide
theorem fitsL_set {k : Kd} {v : V} (hf : fits k v = true) : ∀ (sh : List Kd) (cs : List V) (off : Nat), sh[off]? = some k → fitsL sh cs = true → fitsL sh (cs.set off v) = true
  | [], _, _, h, _ => by simp at h
  | q :: sh, [], _, _, h => by cases h
  | q :: sh, y :: cs, 0, h, hc => by
    simp only [List.getElem?_cons_zero, Option.some.injEq] at h
    subst h
    have hc : band (fits q y) (fitsL sh cs) = true := hc
    show band (fits q v) (fitsL sh cs) = true
    rw [band_two] at hc ⊢
    exact ⟨hf, hc.2⟩
  | q :: sh, y :: cs, off + 1, h, hc => by
    have hc : band (fits q y) (fitsL sh cs) = true := hc
    show band (fits q y) (fitsL sh (cs.set off v)) = true
    rw [band_two] at hc ⊢
    exact ⟨hc.1, fitsL_set hf sh cs off (by simpa using h) hc.2⟩
theorem fit_agg {sh : List Kd} {y : V} (hf : fitsE sh y = true) (h2 : 2 ≤ sh.length) : ∃ cs, y = .agg cs := by
  have hl := fitsL_len _ _ hf
  cases y <;> first | exact ⟨_, rfl⟩ | (simp [V.cells] at hl; omega)
theorem fset_ok {G : Known} {sh : List Kd} {y v : V} {uy u : Value} {off : Nat} (ho : okSet sh off v = true) (hf : fitsE sh y = true) (hy : rep G y uy) (hv : rep G v u) : fitsE sh (fset sh y off v) = true ∧ ∃ z, rep G (fset sh y off v) z ∧ uy.cells.toList.set off u = z.cells.toList := by
  unfold okSet at ho
  rw [Bool.and_eq_true] at ho
  obtain ⟨hfl, ho⟩ := ho
  unfold fitAt at ho
  cases hk : sh[off]? with
  | none => rw [hk] at ho; cases ho
  | some k =>
    rw [hk] at ho
    have ho : fits k v = true := ho
    have hlen := fit_cells hf hy
    by_cases h1 : ∃ q, sh = [q]
    · obtain ⟨q, rfl⟩ := h1
      have h0 : off = 0 := by
        have := (List.getElem?_eq_some_iff.1 hk).1
        simpa using this
      subst h0
      have hkq : q = k := by simpa using hk
      subst hkq
      have hq : flatK q = true := by simpa using hfl
      obtain ⟨u1, hu1⟩ : ∃ u1, uy.cells.toList = [u1] := List.length_eq_one_iff.1 (by simpa using hlen)
      rw [hu1]
      have hx : fitsE [q] v = true ∧ u.cells.toList = [u] := by
        cases q <;> first | (cases hq; done) | skip
        all_goals (cases v <;> first | (simp [fits] at ho; done) | skip)
        all_goals (unfold rep at hv; subst hv; refine ⟨?_, rfl⟩; simp only [fitsE, V.cells, fitsL, band, ho])
      exact ⟨hx.1, u, hv, by rw [hx.2]; rfl⟩
    · have hoff := (List.getElem?_eq_some_iff.1 hk).1
      have h2 : 2 ≤ sh.length := by
        match sh, h1, hoff with
        | [], _, h => simp at h
        | [q], h1, _ => exact absurd ⟨q, rfl⟩ h1
        | _ :: _ :: _, _, _ => simp
      obtain ⟨cs, rfl⟩ := fit_agg hf h2
      have e : fset sh (.agg cs) off v = .agg (cs.set off v) := by
        match sh, h1 with
        | [], _ => rfl
        | [q], h1 => exact absurd ⟨q, rfl⟩ h1
        | _ :: _ :: _, _ => rfl
      rw [e]
      unfold rep at hy
      obtain ⟨as, rfl, hy⟩ := hy
      refine ⟨fitsL_set ho sh cs off hk hf, .agg (as.set off u).toArray, ?_, by simp [Value.cells]⟩
      unfold rep
      exact ⟨_, rfl, repL_set hv cs as off hy⟩
theorem repE_fset {G : Known} {sh : List Kd} {v : V} {u : Value} {off : Nat} (ho : okSet sh off v = true) (hoff : off < sh.length) (hv : rep G v u) : ∀ (xs : List V) (l : List Value) (i : Nat), repE G sh xs l → i < xs.length → repE G sh (xs.set i (fset sh (xs.getD i .any) off v)) (l.set (i * sh.length + off) u)
  | [], _, _, _, h => by simp at h
  | y :: xs, l, i, h, hi => by
    unfold repE at h
    obtain ⟨hf, ⟨uy, huy, hc⟩, ht⟩ := h
    cases i with
    | zero =>
      obtain ⟨h1, z, h2, h3⟩ := fset_ok ho hf huy hv
      show repE G sh (fset sh y off v :: xs) (l.set (0 * sh.length + off) u)
      rw [Nat.zero_mul, Nat.zero_add]
      unfold repE
      refine ⟨h1, ⟨z, h2, ?_⟩, ?_⟩
      · rw [List.take_set, hc, h3]
      · rw [List.drop_set_of_lt hoff]; exact ht
    | succ i =>
      show repE G sh (y :: xs.set i (fset sh (xs.getD i .any) off v)) (l.set ((i + 1) * sh.length + off) u)
      unfold repE
      have e1 : (i + 1) * sh.length + off = sh.length + (i * sh.length + off) := by rw [Nat.succ_mul]; omega
      refine ⟨hf, ⟨uy, huy, ?_⟩, ?_⟩
      · rw [List.take_set_of_le (by omega)]; exact hc
      · have : (l.set ((i + 1) * sh.length + off) u).drop sh.length = (l.drop sh.length).set (i * sh.length + off) u := by
          rw [List.drop_set, if_neg (by omega), show (i + 1) * sh.length + off - sh.length = i * sh.length + off by omega]
        rw [this]
        exact repE_fset ho hoff hv xs _ i ht (by simpa using hi)
theorem storeL_sound {t : TypeId} {a x : Operand} {L e : Nat} {sh : List Kd} {xs : List V} {i : Int} {off : Nat} {v : V} (ho : o.op = .store t a x) (hO : OOk B g w) (hE : ∀ y, trep g (r y) (ac.eval y)) (ha : r a = .eptr L e sh xs i off) (hx : boxCells (r x) = some [v])
    (hs : sizeT P t = some 1) (hset : okSet sh off v = true) : Does P ac.eval o B w g bx (.lput L e sh (lset xs i (fset sh (lget xs i) off v))) := by
  have hpa := hE a
  rw [ha] at hpa
  obtain ⟨v0, b, h1, h2, h3, h4, h5, h6⟩ := trep_eptr.1 hpa
  have hset' := hset
  unfold okSet at hset'
  rw [Bool.and_eq_true] at hset'
  obtain ⟨hfl, hfit⟩ := hset'
  unfold fitAt at hfit
  cases hk : sh[off]? with
  | none => rw [hk] at hfit; cases hfit
  | some k =>
  rw [hk] at hfit
  have hfit : fits k v = true := hfit
  have hoff := (List.getElem?_eq_some_iff.1 hk).1
  have hkf : flatK k = true := by
    rw [List.all_eq_true] at hfl
    exact hfl k (List.mem_of_getElem? hk)
  rcases (hO.1 L v0 e sh.length h1).2 with hv | ⟨b', n, cap, cur, l, hv, hBb, hh, hnc, hcm, hcs, hG, hl⟩
  · rw [hv] at h5; cases h5
  · rw [hv] at h5
    simp only [Value.ownBlock, Option.some.injEq] at h5
    subst h5
    have h2' := h2
    rcases h2 with ⟨_, hnil⟩ | ⟨b2, cap2, l2, hv2, hcap2, hG2, hl2, hE2⟩
    · rw [hnil] at h4; simp at h4; omega
    · rw [hv] at hv2
      simp only [Value.slice.injEq, Option.some.injEq, Addr.mk.injEq] at hv2
      obtain ⟨⟨rfl, _, _⟩, hn2, hcc⟩ := hv2
      rw [hG] at hG2
      simp only [Option.some.injEq] at hG2
      subst hG2
      obtain ⟨r1, r2⟩ := boxCells_rep hx (hE x)
      have hsz : (ac.eval x).cells.size = 1 := by
        have := r1.1
        simp only [Array.length_toList] at this
        simpa using this.symm
      obtain ⟨u, hu⟩ : ∃ u, (ac.eval x).cells.toList = [u] := List.length_eq_one_iff.1 (by rw [Array.length_toList]; exact hsz)
      rw [hu] at r1 r2
      have hru := flat_rep hkf hfit r1.head
      have hin' : i.toNat < xs.length := by omega
      have hpl : i.toNat * sh.length + off < xs.length * sh.length := by
        have : (i.toNat + 1) * sh.length ≤ xs.length * sh.length := Nat.mul_le_mul_right _ hin'
        rw [Nat.succ_mul] at this
        omega
      refine ⟨v0, b', cur, l, i.toNat * sh.length + off, u, xs, h1, by rw [hv]; rfl, hh, hG, by rw [hl, hn2]; exact hpl, h2', by unfold lset; rw [List.length_set], hfl, ?_, r2 u (by simp), ?_⟩
      · unfold lset lget
        exact repE_fset hset hoff hru xs l i.toNat hE2 hin'
      · have hbd : i.toNat * sh.length + off + 1 ≤ cur.size := by
          have h4' : n * sh.length ≤ cap * sh.length := Nat.mul_le_mul_right _ hnc
          rw [← hn2] at hpl
          omega
        have hst := run_storeCells_at P b' (i.toNat * sh.length + off) e [u] 0 cur w hh (by simpa using hbd) r2
        simp only [Nat.add_zero] at hst
        obtain ⟨ii, hii, hin⟩ := sizeT_info hs
        have hp : ac.eval a = .pointer (some ⟨b', i.toNat * sh.length + off, none⟩) := h6
        simp [execOp, ho, hp, Instr.storeAt, Instr.sureAddr, storeVar, Go.sizeOf, typeInfo, hii, hsz, hin, hu] at hst ⊢
        rw [hst]
        rfl
theorem fold_push : ∀ (l : List Int) (acc : ByteArray), l.foldl (fun r n => r.push (UInt8.ofNat n.toNat)) acc = ⟨acc.data ++ (l.map fun n => UInt8.ofNat n.toNat).toArray⟩
  | [], acc => by simp
  | n :: l, acc => by
    rw [List.foldl_cons, fold_push l]
    apply ByteArray.ext
    simp [ByteArray.push]
theorem bytes_row {G : Known} : ∀ (xs : List V) (cells : List Value), repE G [.int .u8] xs cells → cells.take xs.length = (xs.map fun x => asInt (acell x 0)).map (Value.int .u8)
  | [], cells, _ => by simp
  | x :: xs, cells, h => by
    unfold repE at h
    obtain ⟨hf, ⟨u, hu, hc⟩, ht⟩ := h
    have ih := bytes_row xs _ ht
    have hx : ∃ n, x = .int .u8 n ∨ x = .agg [.int .u8 n] := by
      cases x with
      | int k n =>
        by_cases hk : IntKind.u8 = k
        · subst hk; exact ⟨n, .inl rfl⟩
        · have e : (IntKind.u8 == k) = false := by simpa using hk
          simp only [fitsE, V.cells, fitsL, fits, band, e] at hf
          cases hf
      | agg cs =>
        cases cs with
        | nil => simp [fitsE, V.cells, fitsL] at hf
        | cons c cs =>
          cases cs with
          | nil =>
            cases c with
            | int k n =>
              by_cases hk : IntKind.u8 = k
              · subst hk; exact ⟨n, .inr rfl⟩
              · have e : (IntKind.u8 == k) = false := by simpa using hk
                simp only [fitsE, V.cells, fitsL, fits, band, e] at hf
                cases hf
            | _ => simp [fitsE, V.cells, fitsL, fits, band] at hf
          | cons d cs => exfalso; unfold fitsE V.cells at hf; have := fitsL_len _ _ hf; simp at this
      | _ => simp [fitsE, V.cells, fitsL, fits, band] at hf
    cases cells with
    | nil =>
      have := fit_cells hf hu
      rw [← hc] at this
      simp at this
    | cons c cells =>
      simp only [List.length_singleton, List.take_succ_cons, List.take_zero] at hc
      simp only [List.length_singleton, List.drop_succ_cons, List.drop_zero] at ih
      obtain ⟨n, rfl | rfl⟩ := hx
      · unfold rep at hu
        subst hu
        simp [Value.cells] at hc
        subst hc
        simp [ih, asInt, acell]
      · unfold rep at hu
        obtain ⟨a, rfl, hL⟩ := hu
        rw [repL_iff] at hL
        obtain ⟨v, t, rfl, hv, ht'⟩ := hL.cons_inv
        have := ht'.nil_iff
        subst this
        unfold rep at hv
        subst hv
        simp [Value.cells] at hc
        subst hc
        simp [ih, asInt, acell]
end
end Nt.Ev

namespace Nt.Ev
open Go Go.RowKit
section
variable {P : Program} {ρ : Operand → Value} {o : Oper} {B : Own} {w : World} {g : Gh} {bx : List (Nat × List V)} {E : Env} {fr : List V} {ac : Act}
theorem append_nothing {t e ty : TypeId} {n : Nat} {p q : Option Addr} {len cap c : Nat} (hu : P.underlying t = some (.slice e)) (hs : sizeT P e = some n) (hle : len ≤ cap) :
    (Builtin.append_ #[t, t] ty #[.slice p len cap, .slice q 0 c]).run P w = .ok (.slice p len cap) w := by
  have hf : (Builtin.firstCells n 0 (.slice q 0 c)).run P w = .ok #[] w := by
    cases q <;> simp [Builtin.firstCells, loadCells, loadCellsFrom]
  cases p <;> simp [Builtin.append_, run_underlying hu, sizeT_run hs, Builtin.lenOf, hle, hf, storeCells]
theorem grownCap_maxLen {need old : Nat} {e : TypeId} (h : need ≤ 33554432) : grownCap w need old e ≤ maxLen := grownCap_le_maxLen w need old e (by unfold maxLen; omega)
theorem tail_row {sh : List Kd} {X : V} {ys : List V} {u : Value} (hX : trep g X u) (h : tailV sh X = some ys) : ∃ p cap, u = .slice p ys.length cap ∧ (ys = [] ∨ ∃ b off l, p = some ⟨b, off, none⟩ ∧ g.G b = some l ∧ repE g.G sh ys (l.drop off)) := by
  unfold tailV at h
  split at h
  · rename_i e sh' ow zs
    have hh := cond_some h
    obtain ⟨h1, h2⟩ := hh
    simp only [Option.some.injEq] at h2
    subst h2
    obtain rfl := Kd.eqL_sound _ _ h1
    have hr := trep_slice hX
    unfold rep at hr
    obtain ⟨p, cap, hv, _, hr⟩ := hr
    exact ⟨p, cap, hv, hr⟩
  · simp only [Option.some.injEq] at h
    subst h
    rw [trep_nilsl] at hX
    exact ⟨none, 0, hX, .inl rfl⟩
  · cases h
theorem size_drew_alloc (w : World) (o : Obj) : (w.drew.alloc o).heap[w.heap.size]? = some o := heap_alloc_new w.drew o
theorem below_drew_alloc (w : World) (o : Obj) : Below w.heap.size w (w.drew.alloc o) := by
  have h := below_alloc w.drew o
  exact ⟨h.os, h.tape, h.output, h.size, h.block⟩
theorem append_core {s x : Operand} {S : V} {eff : Eff} {t u : TypeId} {e : Nat} {sh : List Kd} {z : V} {ys : List V} {xv : Value} {news : List Value} (hxv : ρ x = xv) (hel : elemOf P t = some (e, sh, z))
    (key : ∀ v w', (Builtin.append_ #[t, u] o.type #[ρ s, ρ x]).run P w = .ok v w' → (execOp ρ o).run P w = .ok (.value v) w') (hG : GOk g.G w) (hO : OOk B g w) (hB : B.n ≤ w.heap.size ∧ ∀ b, w.heap.size ≤ b → B.m b)
    (hs : trep g S (ρ s)) (hE0 : ys ≠ [] → repE g.G sh ys news) (hlen0 : ys ≠ [] → news.length = ys.length * sh.length)
    (R0 : ys = [] → ∀ p len cap, len ≤ cap → (Builtin.append_ #[t, u] o.type #[.slice p len cap, xv]).run P w = .ok (.slice p len cap) w)
    (Rn : ∀ i zv, P.info? e = some i → i.zero = some zv → ys ≠ [] → ys.length * i.bytes ≤ 281474976710656 → ys.length ≤ 16777216 → (Builtin.append_ #[t, u] o.type #[.slice none 0 0, xv]).run P w = .ok (.slice (some ⟨w.heap.size, 0, none⟩) ys.length (grownCap w ys.length 0 e)) (w.drew.alloc (.cells (news.toArray ++ Builtin.zeroCells zv.cells (grownCap w ys.length 0 e - ys.length)) e)))
    (Rr : ∀ i, P.info? e = some i → i.size = sh.length → ys ≠ [] → ∀ b sLen sCap (cur : Array Value), w.heap[b]? = some (.cells cur e (0, 0)) → sLen + ys.length ≤ sCap → sLen * sh.length + news.length ≤ cur.size → (Builtin.append_ #[t, u] o.type #[.slice (some ⟨b, 0, none⟩) sLen sCap, xv]).run P w = .ok (.slice (some ⟨b, 0, none⟩) (sLen + ys.length) sCap) (w.setRow b (cur.toList.take (sLen * sh.length) ++ news ++ cur.toList.drop (sLen * sh.length + news.length)).toArray))
    (Rg : ∀ i zv, P.info? e = some i → i.zero = some zv → i.size = sh.length → ys ≠ [] → ∀ b sLen sCap (l : List Value), l.length = sLen * i.size → (∀ j v, l[j]? = some v → w.cell? ((⟨b, 0, none⟩ : Addr).add j) = some v) → sCap < sLen + ys.length → sLen + ys.length ≤ 16777216 → Builtin.nextslicecap (sLen + ys.length) sCap * i.bytes ≤ 281474976710656 →
      (Builtin.append_ #[t, u] o.type #[.slice (some ⟨b, 0, none⟩) sLen sCap, xv]).run P w = .ok (.slice (some ⟨w.heap.size, 0, none⟩) (sLen + ys.length) (grownCap w (sLen + ys.length) sCap e)) (w.drew.alloc (.cells (l.toArray ++ news.toArray ++ Builtin.zeroCells zv.cells (grownCap w (sLen + ys.length) sCap e - (sLen + ys.length))) e)))
    (h : (match S with
          | .nilsl => some (okNew ys, Eff.own e sh ys)
          | .sl e' sh' (some L) xs => bif e == e' && Kd.eqL sh sh' then some (okApp xs ys, Eff.app L e sh (lcat xs ys)) else none
          | _ => none) = some (true, eff)) : Does P ρ o B w g bx eff := by
  obtain ⟨hu, i, zv, hi, hz, _, _, hsz, h0, hzc, hby, hfit⟩ := elemOf_spec hel
  have hsT : sizeT P e = some sh.length := by unfold sizeT; rw [hi]; simp [hsz]
  split at h
  · -- onto nil
    simp only [Option.some.injEq, Prod.mk.injEq] at h
    obtain ⟨hle, rfl⟩ := h
    have hle : ys.length ≤ 16777216 := of_decide_eq_true hle
    rw [trep_nilsl] at hs
    by_cases hne : ys = []
    · subst hne
      refine ⟨.slice none 0 0, w, g.G, key _ _ ?_, ⟨Below.refl _ _, fun _ _ => rfl, hG⟩, h0, .inl ⟨rfl, rfl⟩⟩
      rw [hs, hxv]
      exact R0 rfl none 0 0 (Nat.le_refl _)
    · have hE := hE0 hne
      have hlen := hlen0 hne
      have hpos : 0 < ys.length := List.length_pos_iff.2 hne
      have hr := Rn i zv hi hz hne (by
        calc ys.length * i.bytes ≤ 16777216 * 8388608 := Nat.mul_le_mul hle hby
          _ ≤ 281474976710656 := by decide) hle
      have hge := grownCap_ge w ys.length 0 e
      have hap := own_new (e := e) (sh := sh) (xs := ys) (cap := grownCap w ys.length 0 e) (c := news.toArray ++ Builtin.zeroCells zv.cells (grownCap w ys.length 0 e - ys.length)) (w' := w.drew.alloc (.cells (news.toArray ++ Builtin.zeroCells zv.cells (grownCap w ys.length 0 e - ys.length)) e)) hG
        (below_drew_alloc w _) (size_drew_alloc w _) h0 hge (grownCap_maxLen (by omega)) (by
          simp only [Array.size_append, List.size_toArray, size_zeroCells, hzc, hlen, ← Nat.add_mul]
          congr 1; omega) (by
          simp only [Array.toList_append, ← hlen, List.take_left]
          exact hE)
      obtain ⟨G', hN, hF⟩ := hap
      exact ⟨_, _, G', key _ _ (by rw [hs, hxv]; exact hr), hN, hF⟩
  · -- onto a slice that the call owns
    rename_i e' sh' L xs
    have hh := cond_some h
    clear h
    obtain ⟨hc2, h⟩ := hh
    simp only [Option.some.injEq, Prod.mk.injEq] at h
    obtain ⟨hle, rfl⟩ := h
    have hle : xs.length + ys.length ≤ 16777216 := of_decide_eq_true hle
    simp only [Bool.and_eq_true, beq_iff_eq] at hc2
    obtain ⟨rfl, hsh⟩ := hc2
    obtain rfl := Kd.eqL_sound _ _ hsh
    obtain ⟨hOL, hown⟩ := hs
    have hbytes : (xs.length + ys.length) * i.bytes ≤ 140737488355328 := by
      calc (xs.length + ys.length) * i.bytes ≤ 16777216 * 8388608 := Nat.mul_le_mul hle hby
        _ ≤ 140737488355328 := by decide
    obtain ⟨_, hOv⟩ := hO.1 L _ _ _ hOL
    have refl_case : ∀ (G' : Known), G' = g.G → ys = [] → Does P ρ o B w g bx (.app L e sh (lcat xs ys)) := by
      rintro G' rfl rfl
      have hxe : lcat xs [] = xs := by unfold lcat; simp
      rw [hxe]
      have hlc : ∃ p cap, ρ s = .slice p xs.length cap ∧ xs.length ≤ cap := by
        rcases hown with ⟨hv, hx0⟩ | ⟨b, cap, l, hv, hcap, _⟩
        · exact ⟨none, 0, by rw [hv, hx0]; rfl, by rw [hx0]; exact Nat.le_refl _⟩
        · exact ⟨_, cap, hv, hcap⟩
      obtain ⟨p, cap, hv, hcap⟩ := hlc
      refine ⟨ρ s, ρ s, w, g.G, hOL, key _ _ (by rw [hv, hxv]; exact R0 rfl p _ cap hcap), ⟨rfl, rfl, rfl, Nat.le_refl _, fun _ _ _ => rfl⟩, fun _ _ _ => rfl, .refl _, hG, ⟨h0, ?_⟩, .inl rfl⟩
      rcases hown with ⟨hv, hx0⟩ | ⟨b, cap, l, hv, hcap, hGb, hl, hE⟩
      · exact .inl ⟨hv, hx0⟩
      · rcases hOv with hOv | ⟨b', n, cap', cur, l', hv', hBb, hh, hn, hcm, hcs, hGb', hl'⟩
        · rw [hv] at hOv; cases hOv
        · rw [hv] at hv'
          simp only [Value.slice.injEq, Option.some.injEq, Addr.mk.injEq] at hv'
          obtain ⟨⟨rfl, _, _⟩, hn2, rfl⟩ := hv'
          exact .inr ⟨b, cap, cur, l, hv, hBb, hh, hcap, hcm, hcs, hGb, hl, hE⟩
    by_cases hne : ys = []
    · exact refl_case _ rfl hne
    · have hE2 := hE0 hne
      have hlen := hlen0 hne
      have hpos : 0 < ys.length := List.length_pos_iff.2 hne
      have hcat : (lcat xs ys).length = xs.length + ys.length := by unfold lcat; simp
      rcases hown with ⟨hv, hx0⟩ | ⟨b, cap, l, hv, hcap, hGb, hl, hE⟩
      · -- nil, owned
        subst hx0
        have hle' : ys.length ≤ 16777216 := by simpa using hle
        have hr := Rn i zv hi hz hne (by
          calc ys.length * i.bytes ≤ 16777216 * 8388608 := Nat.mul_le_mul hle' hby
            _ ≤ 281474976710656 := by decide) hle'
        have hge := grownCap_ge w ys.length 0 e
        have hxe : lcat [] ys = ys := rfl
        rw [hxe]
        obtain ⟨G', hN, hF⟩ := own_new (e := e) (sh := sh) (xs := ys) (cap := grownCap w ys.length 0 e) (c := news.toArray ++ Builtin.zeroCells zv.cells (grownCap w ys.length 0 e - ys.length)) (w' := w.drew.alloc (.cells (news.toArray ++ Builtin.zeroCells zv.cells (grownCap w ys.length 0 e - ys.length)) e)) hG
          (below_drew_alloc w _) (size_drew_alloc w _) h0 hge (grownCap_maxLen (by omega)) (by
            simp only [Array.size_append, List.size_toArray, size_zeroCells, hzc, hlen, ← Nat.add_mul]
            congr 1; omega) (by
            simp only [Array.toList_append, ← hlen, List.take_left]
            exact hE2)
        obtain ⟨hb, hGs, hGk⟩ := hN
        refine ⟨ρ s, _, _, G', hOL, key _ _ (by rw [hv, hxv]; exact hr), ⟨hb.os, hb.tape, hb.output, hb.size, fun k hk _ => hb.block k hk⟩, fun k hk _ => hGs k hk, fun k m hk => ⟨m, by rw [hGs k (known_lt hG hk)]; exact hk, List.prefix_refl _⟩, hGk, ⟨hF.1, ?_⟩, .inr ?_⟩
        · rcases hF.2 with hF | ⟨b', cap', cur, l', hv', hBb, rest⟩
          · exact .inl hF
          · exact .inr ⟨b', cap', cur, l', hv', ⟨hB.2 _ hBb, fun _ => Nat.le_trans hB.1 hBb⟩, rest⟩
        · intro k hk
          simp [Value.ownBlock] at hk
          omega
      · rcases hOv with hOv | ⟨b', n, cap', cur, l', hv', hBb, hh, hn, hcm, hcs, hGb', hl'⟩
        · rw [hv] at hOv; cases hOv
        · rw [hv] at hv'
          simp only [Value.slice.injEq, Option.some.injEq, Addr.mk.injEq] at hv'
          obtain ⟨⟨rfl, _, _⟩, hn2, rfl⟩ := hv'
          obtain ⟨cur', e2, fr2, hh2, htk⟩ := hG b l hGb
          rw [hh] at hh2
          simp only [Option.some.injEq, Obj.cells.injEq] at hh2
          obtain ⟨rfl, _, _⟩ := hh2
          rw [hl] at htk
          have hcatE : ∀ G', More g.G G' → repE G' sh (lcat xs ys) (l ++ news) := fun G' hm => repE_append xs ys l news (repE_more hm sh xs _ _ hE (List.prefix_refl _)) (repE_more hm sh ys _ _ hE2 (List.prefix_refl _)) hl
          have hcatl : (l ++ news).length = (lcat xs ys).length * sh.length := by rw [List.length_append, hl, hlen, hcat, Nat.add_mul]
          by_cases hroom : xs.length + ys.length ≤ cap
          · -- there is room
            have hfit : xs.length * i.size + news.length ≤ cur.size := by rw [hlen, hcs, hsz, ← Nat.add_mul]; exact Nat.mul_le_mul_right _ hroom
            have hr := Rr i hi hsz hne b xs.length cap cur hh hroom (by rw [hsz] at hfit; exact hfit)
            rw [htk] at hr
            have hblt : b < w.heap.size := (Array.getElem?_eq_some_iff.1 hh).1
            have hset := setRow_heap w b cur (l ++ news ++ cur.toList.drop (xs.length * sh.length + news.length)).toArray e (0, 0) hh
            have hmore : More g.G (upd g.G b (l ++ news)) := by
              intro k m hk
              by_cases ek : k = b
              · subst ek
                rw [hGb] at hk
                simp only [Option.some.injEq] at hk
                subst hk
                exact ⟨_, upd_same _ _ _, List.prefix_append _ _⟩
              · exact ⟨m, by rw [upd_other _ _ _ _ ek]; exact hk, List.prefix_refl _⟩
            refine ⟨ρ s, _, _, upd g.G b (l ++ news), hOL, key _ _ (by rw [hv, hxv]; exact hr), ?_, ?_, hmore, ?_, ⟨h0, .inr ⟨b, cap, _, l ++ news, by rw [hcat], hBb, hset, by rw [hcat]; exact hroom, hcm, ?_, upd_same _ _ _, hcatl, hcatE _ hmore⟩⟩, ?_⟩
            · exact ⟨rfl, rfl, rfl, by simp, fun k _ hk => setRow_other w b k _ (fun ek => hk (by rw [hv, ek]; rfl))⟩
            · intro k hk hne2
              exact upd_other _ _ _ _ (fun ek => hne2 (by rw [hv, ek]; rfl))
            · intro k m hk
              by_cases ek : k = b
              · subst ek
                rw [upd_same] at hk
                simp only [Option.some.injEq] at hk
                subst hk
                exact ⟨_, e, (0, 0), hset, by rw [List.append_assoc, ← List.append_assoc l, List.take_left]⟩
              · rw [upd_other _ _ _ _ ek] at hk
                obtain ⟨c3, e3, f3, hc3, ht3⟩ := hG k m hk
                exact ⟨c3, e3, f3, by rw [setRow_other w b k _ ek]; exact hc3, ht3⟩
            · simp only [List.size_toArray, List.length_append, List.length_drop, Array.length_toList]
              rw [hl]
              have h5 : (xs.length + ys.length) * sh.length ≤ cap * sh.length := Nat.mul_le_mul_right _ hroom
              rw [Nat.add_mul] at h5
              have e1 : cur.toList.length = cur.size := by simp
              omega
            · refine .inl ?_
              rw [hv]; rfl
          · -- a new row
            have holds : ∀ j v, l[j]? = some v → w.cell? ((⟨b, 0, none⟩ : Addr).add j) = some v := by
              intro j v hjv
              rw [Addr.add_mid, Nat.zero_add]
              exact known_cell hG hGb hjv
            have hr := Rg i zv hi hz hsz hne b xs.length cap l (by rw [hl, hsz]) holds (by omega) (by omega) (growslice_fits (by omega) hbytes)
            have hge := grownCap_ge w (xs.length + ys.length) cap e
            obtain ⟨G', hN, hF⟩ := own_new (e := e) (sh := sh) (xs := lcat xs ys) (cap := grownCap w (xs.length + ys.length) cap e) (c := l.toArray ++ news.toArray ++ Builtin.zeroCells zv.cells (grownCap w (xs.length + ys.length) cap e - (xs.length + ys.length)))
              (w' := w.drew.alloc (.cells (l.toArray ++ news.toArray ++ Builtin.zeroCells zv.cells (grownCap w (xs.length + ys.length) cap e - (xs.length + ys.length))) e)) hG (below_drew_alloc w _) (size_drew_alloc w _) h0 (by rw [hcat]; exact hge) (grownCap_maxLen (by omega)) (by
                simp only [Array.size_append, List.size_toArray, size_zeroCells, hzc, hlen, hl, ← Nat.add_mul]
                congr 1; omega) (by
                simp only [Array.toList_append, ← hcatl, List.take_left]
                exact hcatE _ (.refl _))
            obtain ⟨hb, hGs, hGk⟩ := hN
            refine ⟨ρ s, _, _, G', hOL, key _ _ (by rw [hv, hxv]; exact hr), ⟨hb.os, hb.tape, hb.output, hb.size, fun k hk _ => hb.block k hk⟩, fun k hk _ => hGs k hk, fun k m hk => ⟨m, by rw [hGs k (known_lt hG hk)]; exact hk, List.prefix_refl _⟩, hGk, ⟨hF.1, ?_⟩, .inr ?_⟩
            · rcases hF.2 with ⟨hF, _⟩ | ⟨b', cap', cur', l', hv', hBb', rest⟩
              · cases hF
              · rw [hcat] at hv'
                exact .inr ⟨b', cap', cur', l', by rw [hcat]; exact hv', ⟨hB.2 _ hBb', fun _ => Nat.le_trans hB.1 hBb'⟩, rest⟩
            · intro k hk
              simp [Value.ownBlock] at hk
              omega
  · cases h
theorem strCells_repE {G : Known} : ∀ l : List UInt8, repE G [.int .u8] (bytesV l) (Lib.strCells ⟨l.toArray⟩)
  | [] => repE_nil
  | c :: l => by
    have ih := strCells_repE (G := G) l
    unfold Lib.strCells bytesV at ih ⊢
    simp only [List.map_cons] at ih ⊢
    unfold repE
    exact ⟨rfl, ⟨.int .u8 c.toNat, by unfold rep; rfl, rfl⟩, ih⟩
theorem append_sound {c : Call} {s x : Operand} {S X : V} {eff : Eff} (ho : o.op = .call c) (hc : c.callee = .builtin .append) (ha : c.args.toList = [s, x]) (hG : GOk g.G w) (hO : OOk B g w) (hB : B.n ≤ w.heap.size ∧ ∀ b, w.heap.size ≤ b → B.m b)
    (hs : trep g S (ρ s)) (hx : trep g X (ρ x)) (h : appendV P c.argTypes.toList S X = some (true, eff)) : Does P ρ o B w g bx eff := by
  obtain ⟨callee, args, argTypes⟩ := c
  simp only at hc ha h
  subst hc
  obtain rfl : args = #[s, x] := by rw [← Array.toList_inj]; simpa using ha
  unfold appendV at h
  split at h
  · rename_i t u htu
    obtain rfl : argTypes = #[t, u] := by rw [← Array.toList_inj]; simpa using htu
    have key : ∀ v w', (Builtin.append_ #[t, u] o.type #[ρ s, ρ x]).run P w = .ok v w' → (execOp ρ o).run P w = .ok (.value v) w' := by
      intro v w' hu
      simp [execOp, ho, resolve, invoke, builtin, hu]
    split at h
    · cases h
    · rename_i e sh z hel
      obtain ⟨hu, i, zv, hi, hz, _, _, hsz, h0, hzc, hby, hfit⟩ := elemOf_spec hel
      have hsT : sizeT P e = some sh.length := by unfold sizeT; rw [hi]; simp [hsz]
      cases htu : t == u with
      | true =>
        rw [htu, cond_true] at h
        obtain rfl : t = u := by simpa using htu
        split at h
        · cases h
        · rename_i ys hty
          obtain ⟨q, cY, hxv, hrow⟩ := tail_row hx hty
          have hnews : ys ≠ [] → ∃ b off l, q = some ⟨b, off, none⟩ ∧ g.G b = some l ∧ repE g.G sh ys ((l.drop off).take (ys.length * sh.length)) ∧ ((l.drop off).take (ys.length * sh.length)).length = ys.length * sh.length ∧
              (∀ j v, ((l.drop off).take (ys.length * sh.length))[j]? = some v → w.cell? ((⟨b, off, none⟩ : Addr).add j) = some v) ∧ ∀ v ∈ (l.drop off).take (ys.length * sh.length), v.oneCell' = true := by
            intro hne
            rcases hrow with hrow | ⟨b, off, l, rfl, hl, hE⟩
            · exact absurd hrow hne
            · obtain ⟨k1, k2⟩ := repE_cells _ _ hE
              refine ⟨b, off, l, rfl, hl, k2, by rw [List.length_take]; omega, fun j v hv => ?_, repE_one _ _ hE⟩
              rw [Addr.add_mid]
              rw [List.getElem?_take] at hv
              split at hv
              · rw [List.getElem?_drop] at hv; exact known_cell hG hl hv
              · cases hv
          by_cases hne : ys = []
          · subst hne
            exact append_core (news := []) hxv hel key hG hO hB hs (fun h => absurd rfl h) (fun h => absurd rfl h) (fun _ p len cap hle => append_nothing hu hsT hle) (fun _ _ _ _ h => absurd rfl h) (fun _ _ _ h => absurd rfl h) (fun _ _ _ _ _ h => absurd rfl h) h
          · obtain ⟨b, off, l, rfl, hl, hE, hlen, hcell, hone⟩ := hnews hne
            generalize hcells : (l.drop off).take (ys.length * sh.length) = news at *
            have hpos : 0 < ys.length := List.length_pos_iff.2 hne
            refine append_core (news := news) hxv hel key hG hO hB hs (fun _ => hE) (fun _ => hlen) (fun h => absurd h hne) (fun i' zv' hi' hz' _ h48 h24 => ?_) (fun i' hi' hs' _ b' sLen sCap cur hb' hroom hfit' => ?_) (fun i' zv' hi' hz' hs' _ b' sLen sCap l' hl' hold hgt h24 h48 => ?_) h
            · exact run_append_nil (P := P) w t o.type e i' zv' hu hi' hz' ⟨b, off, none⟩ ys.length cY news (by
                rw [hi] at hi'
                simp only [Option.some.injEq] at hi'
                rw [hlen, ← hi', hsz]) hcell hpos (by omega) h48
            · have := run_append_room (P := P) w t o.type e i' hu hi' b' sLen sCap cur hb' ⟨b, off, none⟩ ys.length cY news (by rw [hlen, hs']) hcell hone hroom (by rw [hs']; exact hfit')
              rw [hs'] at this
              exact this
            · exact run_append_grow (P := P) w t o.type e i' zv' hu hi' hz' ⟨b', 0, none⟩ sLen sCap l' hl' hold ⟨b, off, none⟩ ys.length cY news (by rw [hlen, hs']) hcell hgt (by omega) h48
      | false =>
        rw [htu, cond_false] at h
        split at h
        · rename_i l hsu _
          have hxv := trep_str.1 hx
          have hcl : (Lib.strCells ⟨l.toArray⟩).length = l.length := by rw [Lib.strCells_length]; simp [ByteArray.size]
          have hsz1 : (⟨l.toArray⟩ : ByteArray).size = l.length := by simp [ByteArray.size]
          have hbl : (bytesV l).length = l.length := by simp [bytesV]
          have hE : repE g.G [.int .u8] (bytesV l) (Lib.strCells ⟨l.toArray⟩) := strCells_repE l
          refine append_core (news := Lib.strCells ⟨l.toArray⟩) hxv hel key hG hO hB hs (fun _ => hE) (fun _ => by rw [hcl, hbl]; simp) (fun h0' p len cap hle => ?_) (fun i' zv' hi' hz' hne h48 h24 => ?_) (fun i' hi' hs' hne b' sLen sCap cur hb' hroom hfit' => ?_) (fun i' zv' hi' hz' hs' hne b' sLen sCap l' hl' hold hgt h24 h48 => ?_) h
          · have hl0 : l = [] := by
              have := congrArg List.length h0'
              rw [hbl] at this
              exact List.eq_nil_of_length_eq_zero this
            subst hl0
            have hf : ∀ w, (Builtin.firstCells 1 0 (.string ⟨#[]⟩)).run P w = .ok #[] w := fun w => by simp [Builtin.firstCells]
            have hsT1 : sizeT P e = some 1 := hsT
            cases p <;> simp [Builtin.append_, run_underlying hu, run_underlying hsu, sizeT_run hsT1, Builtin.lenOf, hle, hf, storeCells, ByteArray.size]
          · rw [hbl] at h48 h24 ⊢
            have hne' : l.length ≠ 0 := fun e => hne (by rw [List.eq_nil_of_length_eq_zero e]; rfl)
            have hf := Lib.run_firstCells_string (P := P) w.drew 1 ⟨l.toArray⟩
            rw [hsz1] at hf
            have h63' : ¬ (9223372036854775807 < (l.length : Int)) := by omega
            have h48' : ¬ (281474976710656 < Builtin.nextslicecap l.length 0 * i'.bytes) := by rw [nextslicecap_zero (by omega)]; omega
            have hs1 : i'.size = 1 := by
              rw [hi] at hi'
              simp only [Option.some.injEq] at hi'
              rw [← hi', hsz]; rfl
            simp [Builtin.append_, run_underlying hu, run_underlying hsu, Go.sizeOf, typeInfo, zeroValue, hi', hz', hs1, Builtin.lenOf, hne', h63', h48', Question.forced, run_firstCells_none, hf, newRow, grownCap, hsz1]
          · have hs1 : i'.size = 1 := hs'
            have := Lib.run_append_room_string (P := P) w t u o.type e i' hu hsu hi' hs1 b' sLen sCap cur hb' ⟨l.toArray⟩ (by rw [hsz1, ← hbl]; exact hroom) (by rw [hsz1]; rw [hcl] at hfit'; simpa using hfit')
            rw [hsz1] at this
            rw [hbl, hcl]
            simpa using this
          · have := Lib.run_append_grow_string (P := P) w t u o.type e i' zv' hu hsu hi' hz' ⟨b', 0, none⟩ sLen sCap l' hl' hold ⟨l.toArray⟩ (by rw [hsz1, ← hbl]; exact hgt) (by rw [hsz1]; rw [hbl] at h24; omega) (by rw [hsz1, ← hbl]; exact h48)
            rw [hsz1] at this
            rw [hbl]
            exact this
        · cases h
  · cases h
end
end Nt.Ev

namespace Nt.Ev
open Go Go.RowKit
section
variable {P : Program} {ρ : Operand → Value} {o : Oper} {B : Own} {w : World} {g : Gh} {bx : List (Nat × List V)} {E : Env} {fr : List V} {ac : Act}
theorem repE_bytes {G : Known} : ∀ (l : List UInt8) (rest : List Value), repE G [.int .u8] (bytesV l) ((l.map fun c => Value.int .u8 (c.toNat : Int)) ++ rest)
  | [], rest => repE_nil
  | c :: l, rest => by
    unfold bytesV
    rw [List.map_cons, List.map_cons, List.cons_append]
    unfold repE
    refine ⟨rfl, ⟨.int .u8 (c.toNat : Int), by unfold rep; rfl, rfl⟩, ?_⟩
    exact repE_bytes l rest
theorem conv_sound {src dst : TypeId} {x : Operand} {X : V} {eff : Eff} (ho : o.op = .convert src dst x) (hG : GOk g.G w) (hx : trep g X (ρ x)) (h : convV P src dst X = some (true, eff)) : Does P ρ o B w g bx eff := by
  have he : execOp ρ o = (do pure (.value (← convert src dst (ρ x)))) := by simp only [execOp, ho]
  unfold convV at h
  split at h
  · rename_i k0 k k' n hs hd
    simp only [ok, Option.some.injEq, Prod.mk.injEq, true_and] at h
    subst h
    rw [trep_int] at hx
    refine does_val he (u := .int k (icnv k n)) ?_ (trep_int.2 rfl)
    rw [hx]
    simp [convert, run_underlying hs, run_underlying hd, Conv.intToInt, icnv]
  · rename_i l hs hd
    simp only [ok, Option.some.injEq, Prod.mk.injEq, true_and] at h
    subst h
    refine does_val he (u := ρ x) ?_ hx
    rw [trep_str] at hx
    rw [hx]
    simp [convert, run_underlying hs, run_underlying hd]
  · rename_i e l hs hd
    split at h
    · rename_i hue
      simp only [Option.some.injEq, Prod.mk.injEq] at h
      obtain ⟨hle, rfl⟩ := h
      have hle : l.length ≤ 1152921504606846976 := of_decide_eq_true hle
      rw [trep_str] at hx
      let cap := grownCap w l.length 0 e
      let cells : Array Value := ((⟨l.toArray⟩ : ByteArray).data.map fun b => Value.int .u8 b.toNat) ++ Array.replicate (cap - l.length) (.int .u8 0)
      have hge : l.length ≤ cap := grownCap_ge w l.length 0 e
      have hcells : cells.toList = (l.map fun c => Value.int .u8 (c.toNat : Int)) ++ List.replicate (cap - l.length) (.int .u8 0) := by
        simp [cells]
      have hnew := size_drew_alloc w (.cells cells e)
      have hrun : (convert src dst (ρ x)).run P w = .ok (.slice (some ⟨w.heap.size, 0, none⟩) l.length cap) ((w.drew.alloc (.cells cells e)).freeze { block := w.heap.size, off := cells.size } 1) := by
        rw [hx]
        have hsz : (⟨l.toArray⟩ : ByteArray).size = l.length := bs_size l
        have hms : (markStringish ⟨w.heap.size, 0, none⟩).run P (w.drew.alloc (.cells cells e)) = .ok () ((w.drew.alloc (.cells cells e)).freeze { block := w.heap.size, off := cells.size } 1) := by
          have hsh : (w.drew.alloc (.cells cells e)).shape? w.heap.size = some (e, cells.size) := by unfold World.shape?; rw [hnew]
          simp only [markStringish, Sem.run_bind, run_shape, hsh, Result.andThen_ok]
          rfl
        have hcs : (Conv.stringToBytes e ⟨l.toArray⟩).run P w = .ok (.slice (some ⟨w.heap.size, 0, none⟩) l.length cap) ((w.drew.alloc (.cells cells e)).freeze { block := w.heap.size, off := cells.size } 1) := by
          unfold Conv.stringToBytes
          rw [Sem.run_bind, run_choose, if_neg (by simp [Question.forced])]
          simp only [Result.andThen_ok, hsz]
          rw [Sem.run_bind]
          have hn : (newRow e (Array.map (fun (b : UInt8) => Value.int .u8 b.toNat) (⟨l.toArray⟩ : ByteArray).data ++ Array.replicate ((Question.appendCap l.length 0 e).cut (w.tape w.drawn (.appendCap l.length 0 e)) - l.length) (.int .u8 0))).run P { w with drawn := w.drawn + 1 } = .ok ⟨w.heap.size, 0, none⟩ (w.drew.alloc (.cells cells e)) := by
            simp only [newRow, Sem.run_bind, run_newObj, Result.andThen_ok, Sem.run_pure]
            rfl
          rw [hn]
          simp only [Result.andThen_ok]
          rw [Sem.run_bind, hms]
          rfl
        simp only [convert, Sem.run_bind, run_underlying hs, run_underlying hd, Result.andThen_ok, run_underlying hue, hcs]
      obtain ⟨f, hf⟩ : ∃ f : Obj → Obj, (w.drew.alloc (.cells cells e)).freeze { block := w.heap.size, off := cells.size } 1 = { w.drew.alloc (.cells cells e) with heap := (w.drew.alloc (.cells cells e)).heap.modify w.heap.size f } ∧ ∃ fr, f (.cells cells e) = .cells cells e fr :=
        ⟨_, by unfold World.freeze; rw [if_neg (by decide)], _, rfl⟩
      obtain ⟨hf, fr, hfr⟩ := hf
      rw [hf] at hrun
      have hB : Below w.heap.size w { w.drew.alloc (.cells cells e) with heap := (w.drew.alloc (.cells cells e)).heap.modify w.heap.size f } := by
        have h1 := below_drew_alloc w (.cells cells e)
        refine ⟨h1.os, h1.tape, h1.output, ?_, ?_⟩
        · show w.heap.size ≤ ((w.drew.alloc (.cells cells e)).heap.modify w.heap.size f).size
          rw [Array.size_modify]; exact h1.size
        · intro k hk
          show ((w.drew.alloc (.cells cells e)).heap.modify w.heap.size f)[k]? = _
          rw [Array.getElem?_modify, if_neg (by omega)]
          exact h1.block k hk
      have hh : ({ w.drew.alloc (.cells cells e) with heap := (w.drew.alloc (.cells cells e)).heap.modify w.heap.size f } : World).heap[w.heap.size]? = some (.cells cells e fr) := by
        show ((w.drew.alloc (.cells cells e)).heap.modify w.heap.size f)[w.heap.size]? = _
        rw [Array.getElem?_modify, if_pos rfl, hnew, Option.map_some, hfr]
      have hcsz : l.length ≤ cells.size := by
        have : cells.toList.length = cells.size := by simp
        rw [← this, hcells]
        simp
      refine ⟨.slice (some ⟨w.heap.size, 0, none⟩) l.length cap, _, upd g.G w.heap.size (cells.toList.take l.length), by rw [he]; simp only [Sem.run_bind, hrun, Result.andThen_ok, Sem.run_pure], new_row hG hB hh l.length hcsz, ?_⟩
      unfold rep
      refine ⟨some ⟨w.heap.size, 0, none⟩, cap, by unfold bytesV; simp, by unfold bytesV; simpa using hge, .inr ⟨w.heap.size, 0, _, rfl, upd_same _ _ _, ?_⟩⟩
      have e1 : cells.toList.take l.length = (l.map fun c => Value.int .u8 (c.toNat : Int)) := by
        rw [hcells, List.take_append_of_le_length (by simp)]
        exact List.take_of_length_le (by simp)
      rw [e1, List.drop_zero]
      have := repE_bytes (G := upd g.G w.heap.size (l.map fun c => Value.int .u8 (c.toNat : Int))) l []
      rwa [List.append_nil] at this
    · cases h
  · rename_i e sh ow xs hs hd
    split at h
    · rename_i hue
      simp only [ok, Option.some.injEq, Prod.mk.injEq, true_and] at h
      subst h
      have hr := trep_slice hx
      unfold rep at hr
      obtain ⟨p, cap, hv, hcap, hr⟩ := hr
      refine does_val he (u := .string ⟨(vbytes xs).toArray⟩) ?_ (trep_str.2 rfl)
      rw [hv]
      have e0 : ∀ y : Value, (convert src dst y).run P w = (Conv.bytesToString y).run P w ∨ True := fun _ => .inr trivial
      by_cases hne : xs = []
      · subst hne
        cases p with
        | none => simp [convert, run_underlying hs, run_underlying hd, run_underlying hue, Conv.bytesToString, vbytes]; rfl
        | some a =>
          have hl : (loadCells a 0).run P w = .ok (([] : List Int).map (Value.int .u8)).toArray w := by simp [loadCells, loadCellsFrom]
          have := run_bytesToString w a 0 cap [] hl
          simp only [List.length_nil]
          simp [convert, run_underlying hs, run_underlying hd, run_underlying hue, this, vbytes]
          rfl
      · rcases hr with hr | ⟨b, off, l, rfl, hG2, hE⟩
        · exact absurd hr hne
        · have hrow := bytes_row xs _ hE
          have hl : (loadCells ⟨b, off, none⟩ xs.length).run P w = .ok ((xs.map fun x => asInt (acell x 0)).map (Value.int .u8)).toArray w := by
            have := run_loadCells_list (P := P) w ⟨b, off, none⟩ ((xs.map fun x => asInt (acell x 0)).map (Value.int .u8)) (fun j v hv => by
              rw [← hrow, List.getElem?_take] at hv
              split at hv
              · rw [List.getElem?_drop] at hv
                rw [Addr.add_mid]
                exact known_cell hG hG2 hv
              · cases hv)
            simpa using this
          have h2 := run_bytesToString w ⟨b, off, none⟩ xs.length cap _ hl
          rw [fold_push] at h2
          simp [convert, run_underlying hs, run_underlying hd, run_underlying hue, h2, vbytes]
    · cases h
  · rename_i e hs hd
    split at h
    · rename_i hue
      simp only [ok, Option.some.injEq, Prod.mk.injEq, true_and] at h
      subst h
      rw [trep_nilsl] at hx
      refine does_val he (u := .string ⟨([] : List UInt8).toArray⟩) ?_ (trep_str.2 rfl)
      rw [hx]
      simp [convert, run_underlying hs, run_underlying hd, run_underlying hue, Conv.bytesToString]
      rfl
    · cases h
  · cases h
theorem opX_sound (hE : EOk E) (hP : E.P = P) (hG : GOk g.G w) (hO : OOk B g w) (hBx : BOk P B g bx w) (hB : B.n ≤ w.heap.size ∧ ∀ b, w.heap.size ≤ b → B.m b) {r : Operand → V} (hr : ∀ y, trep g (r y) (ac.eval y)) {eff : Eff} (h : opX P r bx o = some (true, eff)) : Does P ac.eval o B w g bx eff := by
  subst hP
  have hok : ∀ {v : V} {u : Value}, execOp ac.eval o = pure (.value u) → trep g v u → Does E.P ac.eval o B w g bx (.val v) := fun h1 h2 => ⟨_, by rw [h1]; rfl, h2⟩
  unfold opX at h
  simp only at h
  split at h
  · -- move
    rename_i x ho
    simp only [ok, Option.some.injEq, Prod.mk.injEq, true_and] at h
    subst h
    exact hok (by simp only [execOp, ho]) (hr x)
  · -- assign
    rename_i x ho
    have hx := hr x
    split at h
    · rename_i hX
      rw [hX, trep_nilsl] at hx
      split at h
      · rename_i e sh z hel
        simp only [Option.some.injEq, Prod.mk.injEq, true_and] at h
        subst h
        obtain ⟨_, _, _, _, _, _, _, _, h0, _⟩ := elemOf_spec hel
        exact ⟨.slice none 0 0, w, g.G, by simp only [execOp, ho, hx]; rfl, ⟨Below.refl _ _, fun _ _ => rfl, hG⟩, h0, .inl ⟨rfl, rfl⟩⟩
      · simp only [ok, Option.some.injEq, Prod.mk.injEq, true_and] at h
        subst h
        exact hok (by simp only [execOp, ho]) (trep_nilsl.2 hx)
    · simp only [ok, Option.some.injEq, Prod.mk.injEq, true_and] at h
      subst h
      exact hok (by simp only [execOp, ho]) hx
  · -- pick
    rename_i c x y ho
    have hc := hr c
    split at h
    · rename_i b hb
      simp only [Option.some.injEq, Prod.mk.injEq, true_and] at h
      subst h
      rw [hb, trep_bool] at hc
      refine ⟨if b then ac.eval x else ac.eval y, ?_, ?_⟩
      · simp only [execOp, ho, hc, Go.asBool, Sem.run_bind, Sem.run_pure, Result.andThen_ok]
      · cases b
        · exact hr y
        · exact hr x
    · cases h
  · -- alloc
    rename_i t ho
    split at h
    · rename_i i hi
      split at h
      · rename_i z hz
        split at h
        · rename_i cs hcs
          obtain ⟨h, hq⟩ := bld_of h
          simp only [Option.some.injEq, Prod.mk.injEq, true_and] at h
          subst h
          exact alloc_sound ho hi hz hcs hq
        · cases h
      · cases h
    · cases h
  · -- box
    rename_i t x ho
    split at h
    · rename_i cs hcs
      obtain ⟨h, hq⟩ := bld_of h
      simp only [Option.some.injEq, Prod.mk.injEq, true_and] at h
      subst h
      exact box_sound ho hr hcs hq
    · cases h
  · rename_i t parts ho
    split at h
    · rename_i vs hb
      simp only [ok, Option.some.injEq, Prod.mk.injEq, true_and] at h
      subst h
      exact arrB_sound ho hr hb
    · exact build_sound ho hr h
  · rename_i t n parts ho
    exact buildSlice_sound ho hG hr h
  · -- load
    rename_i t a ho
    have ha := hr a
    split at h
    · rename_i sh x off hX
      rw [hX] at ha
      exact loadV_sound ho hG ha h
    · rename_i L e sh xs i off hX
      rw [hX] at ha
      exact loadV_sound ho hG (eptr_rptr ha) h
    · rename_i k off hX
      rw [hX] at ha
      split at h
      · rename_i cells hl
        obtain ⟨l1, l2⟩ := loadBx_sound ho hBx ha hl
        split at h
        · rename_i n hag hs
          split at h
          · rename_i cs hcs
            simp only [ok, Option.some.injEq, Prod.mk.injEq, true_and] at h
            subst h
            exact l1 n cs hag hs hcs
          · cases h
        · rename_i hag
          have hh := cond_some h
          obtain ⟨h1, h2⟩ := hh
          simp only [ok, Option.some.injEq, Prod.mk.injEq, true_and] at h2
          subst h2
          exact l2 hag (by simpa [Nat.blt_eq] using h1)
        · cases h
      · cases h
    · cases h
  · -- store
    rename_i t a x ho
    split at h
    · rename_i k off vs hX hv
      split at h
      · rename_i cells n hl hs
        have hh := cond_some h
        obtain ⟨h1, h2⟩ := hh
        simp only [Option.some.injEq, Prod.mk.injEq, true_and] at h2
        subst h2
        simp only [Bool.and_eq_true, beq_iff_eq] at h1
        exact store_sound ho hBx hr hX hv hl hs h1.1 (Nat.le_of_ble_eq_true h1.2)
      · cases h
    · rename_i L e sh xs i off v hX hv
      split at h
      · rename_i hag hs
        have hh := cond_some h
        obtain ⟨h1, h2⟩ := hh
        simp only [Option.some.injEq, Prod.mk.injEq, true_and] at h2
        subst h2
        exact storeL_sound ho hO hr hX hv hs h1
      · cases h
    · cases h
  · -- nilCheck
    rename_i x ho
    have hx := hr x
    split at h
    · rename_i L e sh xs i off hX
      simp only [ok, Option.some.injEq, Prod.mk.injEq, true_and] at h
      subst h
      rw [hX] at hx
      obtain ⟨v0, b, _, _, _, _, _, hp⟩ := trep_eptr.1 hx
      exact hok (u := ac.eval x) (by simp only [execOp, ho, hp]) hx
    · rename_i sh v off hX
      simp only [ok, Option.some.injEq, Prod.mk.injEq, true_and] at h
      subst h
      rw [hX] at hx
      obtain ⟨b, q, l, hp, _⟩ := trep_rptr.1 hx
      exact hok (u := ac.eval x) (by simp only [execOp, ho, hp]) hx
    · rename_i k off hX
      simp only [ok, Option.some.injEq, Prod.mk.injEq, true_and] at h
      subst h
      rw [hX] at hx
      obtain ⟨b, _, hp⟩ := trep_box.1 hx
      exact hok (u := ac.eval x) (by simp only [execOp, ho, hp]) hx
    · cases h
  · -- binOp
    rename_i op t x y yt ho
    split at h
    · rename_i e1 e2
      have hx := hr x
      have hy := hr y
      rw [e1] at hx
      rw [e2] at hy
      exact nilT_sound ho hx hy h
    · rename_i u v e1 e2
      have hx := hr x
      have hy := hr y
      rw [e1] at hx
      rw [e2] at hy
      exact nilT_sound ho hx hy h
    refine binT_sound ho (hr x) (hr y) h ?_
    clear h
    intro eff h
    have hh := cond_some h
    clear h
    obtain ⟨h1, h⟩ := hh
    unfold resV at h
    split at h
    · rename_i c v hv
      simp only [Option.some.injEq, Prod.mk.injEq] at h
      obtain ⟨rfl, rfl⟩ := h
      refine binOp_sound ho (hr x) (hr y) hv ?_
      intro a b ha _
      rw [ha] at h1
      unfold boolOk at h1
      split at h1
      · split at h1
        · assumption
        · cases h1
      · rename_i hne; exact absurd rfl (hne _)
    · cases h
  · -- makeInterface
    rename_i t x ho
    split at h
    · cases h
    · rename_i d v hne hu hX
      simp only [ok, Option.some.injEq, Prod.mk.injEq, true_and] at h
      subst h
      exact makeIface_sound ho hu (fun ms e => hne ms e) hX (hr x)
    · cases h
  · -- typeAssert
    rename_i x xt t ho
    split at h
    · cases h
    · rename_i d z hne hu hz
      have hx := hr x
      obtain ⟨k1, k2, k3⟩ := typeAssert_sound (B := B) (bx := bx) (g := g) (w := w) (ρ := ac.eval) ho hu (fun ms e => hne ms e) hz hx
      split at h
      · rename_i hX
        simp only [ok, Option.some.injEq, Prod.mk.injEq, true_and] at h
        subst h
        exact k1 hX
      · rename_i u v hX
        cases hut : u == t with
        | true =>
          rw [hut, cond_true] at h
          have e : u = t := by simpa using hut
          have hh := cond_some h
          clear h
          obtain ⟨hv, h⟩ := hh
          simp only [ok, Option.some.injEq, Prod.mk.injEq, true_and] at h
          subst h
          exact k3 u _ hX e (by cases v <;> first | rfl | cases hv)
        | false =>
          rw [hut, cond_false] at h
          have e : u ≠ t := by simpa using hut
          simp only [ok, Option.some.injEq, Prod.mk.injEq, true_and] at h
          subst h
          exact k2 u v hX e
      · cases h
    · cases h
  · -- panic
    rename_i x ho
    have hx := hr x
    split at h
    · rename_i t v hX
      simp only [Option.some.injEq, Prod.mk.injEq, true_and] at h
      subst h
      rw [hX] at hx
      obtain ⟨u, hu, hru⟩ := trep_iface.1 hx
      refine ⟨.iface t u, ?_, by unfold rep; exact ⟨u, rfl, hru⟩⟩
      simp only [execOp, ho, hu, Instr.panic, Sem.run_bind, run_goPanic]
      rfl
    · cases h
  · -- unOp
    rename_i op t x ho
    have hx := hr x
    split at h
    · rename_i b hX
      simp only [ok, Option.some.injEq, Prod.mk.injEq, true_and] at h
      subst h
      rw [hX, trep_bool] at hx
      exact ⟨.bool (bnot b), by simp only [execOp, ho, hx, Op.unary, Sem.run_bind, Sem.run_pure, Result.andThen_ok]; rfl, trep_bool.2 rfl⟩
    · rename_i k n hX
      simp only [ok, Option.some.injEq, Prod.mk.injEq, true_and] at h
      subst h
      rw [hX, trep_int] at hx
      exact ⟨.int k (isub k 0 n), by simp only [execOp, ho, hx, Op.unary, Op.intArith, Sem.run_bind, Sem.run_pure, Result.andThen_ok]; rfl, trep_int.2 rfl⟩
    · cases h
  · rename_i src dst x ho
    exact conv_sound ho hG (hr x) h
  · -- makeFunc
    rename_i f first caps ho
    have hh := cond_some h
    obtain ⟨h1, h2⟩ := hh
    simp only [ok, Option.some.injEq, Prod.mk.injEq, true_and] at h2
    subst h2
    rw [Bool.and_eq_true, Bool.and_eq_true] at h1
    obtain ⟨⟨h1, hfA⟩, hsg⟩ := h1
    have hf0 : first = #[] := by
      have : first.size = 0 := by simpa using h1
      exact Array.eq_empty_of_size_eq_zero this
    subst hf0
    refine ⟨.func (.func f) #[] (caps.map ac.eval), by simp [execOp, ho, Instr.makeFunc], ?_⟩
    refine ⟨caps.toList.map ac.eval, by rw [cloV_lt hfA, ← Array.toList_map], by simp, fun i x v hx hv => ?_⟩
    rw [List.all_eq_true] at hsg
    have hxs := hsg x (List.mem_of_getElem? hx)
    simp only [List.getElem?_map] at hx hv
    cases hi : caps.toList[i]? with
    | none => rw [hi] at hx; cases hx
    | some y =>
      rw [hi] at hx hv
      simp only [Option.map_some, Option.some.injEq] at hx hv
      subst hx; subst hv
      exact trep_single hxs (hr y)
  · rename_i t l c ho
    exact makeV_sound ho hG (hr l) (hr c) h
  · rename_i t x lo hi ho
    exact slice_sound ho hr h
  · -- fieldAddr
    rename_i t x f ho
    split at h
    · rename_i fd hf
      split at h
      · cases h
      · rename_i n hn hs
        have hx := hr x
        have hn0 : n ≠ 0 := fun e => hn e
        split at h
        · rename_i sh v off hX
          simp only [ok, Option.some.injEq, Prod.mk.injEq, true_and] at h
          subst h
          rw [hX] at hx
          obtain ⟨b, q, l, hp, hG2, hfit, u, hu, hc⟩ := trep_rptr.1 hx
          exact ⟨.pointer (some ⟨b, q + off + fd.offset, none⟩), by simp only [execOp, ho, hp, Sem.run_bind, fieldAddr_run hf hs hn0, Result.andThen_ok, Sem.run_pure], trep_rptr.2 ⟨b, q, l, by rw [Nat.add_assoc], hG2, hfit, u, hu, hc⟩⟩
        · rename_i L e sh xs i off hX
          simp only [ok, Option.some.injEq, Prod.mk.injEq, true_and] at h
          subst h
          rw [hX] at hx
          obtain ⟨v0, b, q1, q2, q3, q4, q5, hp⟩ := trep_eptr.1 hx
          exact ⟨.pointer (some ⟨b, i.toNat * sh.length + off + fd.offset, none⟩), by simp only [execOp, ho, hp, Sem.run_bind, fieldAddr_run hf hs hn0, Result.andThen_ok, Sem.run_pure], trep_eptr.2 ⟨v0, b, q1, q2, q3, q4, q5, by rw [Nat.add_assoc]⟩⟩
        · rename_i k off hX
          simp only [ok, Option.some.injEq, Prod.mk.injEq, true_and] at h
          subst h
          rw [hX] at hx
          obtain ⟨b, hb, hp⟩ := trep_box.1 hx
          exact ⟨.pointer (some ⟨b, off + fd.offset, none⟩), by simp only [execOp, ho, hp, Sem.run_bind, fieldAddr_run hf hs hn0, Result.andThen_ok, Sem.run_pure], trep_box.2 ⟨b, hb, rfl⟩⟩
        · cases h
      · cases h
    · cases h
  · -- field
    rename_i t x f ho
    split at h
    · rename_i fd cs hf hX
      have hx := hr x
      rw [hX] at hx
      exact partOf_sound ho hf hx h
    · cases h
  · -- indexAddr
    rename_i t x i ho
    split at h
    · rename_i k n hX
      have hi := hr i
      rw [hX, trep_int] at hi
      have hx := hr x
      split at h
      · rename_i k off hB
        rw [hB] at hx
        exact boxAddr_sound ho hx hi h
      · exact indexAddr_sound ho hx hi h
    · cases h
  · -- index
    rename_i t x i ho
    split at h
    · rename_i k n hX
      have hi := hr i
      rw [hX, trep_int] at hi
      have hx := hr x
      split at h
      · rename_i cs hB
        rw [hB] at hx
        exact aggIndex_sound ho hx hi h
      · rename_i f vs hB
        rw [hB] at hx
        obtain ⟨hfv, h⟩ := cond_some h
        rw [Bool.and_eq_true, beq_iff_eq] at hfv
        rw [hfv.1] at hx
        exact arrIndex_sound ho hx hi hfv.2 h
      · exact index_sound ho hx hi h
    · cases h
  · -- extract
    rename_i x i ho
    split at h
    · rename_i vs hX
      have hx := hr x
      rw [hX] at hx
      have hh := cond_some h
      obtain ⟨h1, h2⟩ := hh
      simp only [ok, Option.some.injEq, Prod.mk.injEq, true_and] at h2
      subst h2
      rw [Bool.and_eq_true] at h1
      exact extract_sound ho hx (by simpa [Nat.blt_eq] using h1.1) h1.2
    · cases h
  · -- call
    rename_i c ho
    split at h
    · rename_i f hcal
      split at h
      · rename_i id caps hf
        split at h
        · rename_i args mb ml hargs
          have hh := cond_some h
          clear h
          obtain ⟨hb, h⟩ := hh
          simp only [Bool.and_eq_true] at hb
          obtain ⟨⟨hb, hfA⟩, hn⟩ := hb
          simp only [Option.some.injEq, Prod.mk.injEq, true_and] at h
          subst h
          have hfv := hr f
          rw [hf] at hfv
          obtain ⟨a, hfa, hpa⟩ := hfv
          rw [cloV_lt hfA] at hfa
          obtain ⟨callee, cargs, ctypes⟩ := c
          simp only at hcal hargs
          subst hcal
          have hps : PW (trep g) (cargs.toList.map (r)) (cargs.toList.map ac.eval) := ⟨by simp, fun i x v hx hv => by
            simp only [List.getElem?_map] at hx hv
            cases hi : cargs.toList[i]? with
            | none => rw [hi] at hx; cases hx
            | some y =>
              rw [hi] at hx hv
              simp only [Option.map_some, Option.some.injEq] at hx hv
              subst hx; subst hv
              exact hr y⟩
          refine ⟨cargs.toList.map ac.eval ++ a, cargs.toList.map (r) ++ caps, ?_, ?_, hargs, hn⟩
          · have hcf : ∀ args, (callFunc id args).run E.P w = .ok (.enter id args) w := by
              intro args
              unfold hasBody at hb
              split at hb
              · rename_i fn hfn
                have hname : fn.name ≠ "runtime.NumGoroutine" := by
                  have := Array.all_eq_true_iff_forall_mem.1 hE.names fn (Array.mem_of_getElem? hfn)
                  have hbn : fn.body.isNone = false := by cases hq : fn.body with | none => rw [hq] at hb; cases hb | some _ => rfl
                  rw [hbn] at this
                  simpa using this
                obtain ⟨bd, hbd⟩ := Option.isSome_iff_exists.1 hb
                simp [callFunc, hfn, hname, hbd]
              · cases hb
            simp only [execOp, ho, resolve, Deferred.ofValue, hfa, invoke, Sem.run_bind, Sem.run_pure, Result.andThen_ok, hcf]
            simp
          · exact (hps.mono fun _ _ _ => .inl).append (hpa.mono fun _ _ _ => .inr)
        · cases h
      · cases h
    · rename_i hcal
      split at h
      · rename_i x y ha
        exact minmax_sound (great := false) ho hcal ha (hr x) (hr y) h
      · cases h
    · rename_i hcal
      split at h
      · rename_i x y ha
        exact minmax_sound (great := true) ho hcal ha (hr x) (hr y) h
      · cases h
    · rename_i hcal
      split at h
      · rename_i t x ht hx
        exact len_sound ho hcal ht hx (hr x) h
      · cases h
    · rename_i hcal
      split at h
      · rename_i t x ht hx
        split at h
        · rename_i e' hu hX
          simp only [ok, Option.some.injEq, Prod.mk.injEq, true_and] at h
          subst h
          have hv := hr x
          rw [hX, trep_nilsl] at hv
          obtain ⟨callee, args, argTypes⟩ := c
          simp only at hcal ht hx
          subst hcal
          obtain rfl : args = #[x] := by rw [← Array.toList_inj]; simpa using hx
          obtain rfl : argTypes = #[t] := by rw [← Array.toList_inj]; simpa using ht
          refine ⟨.int .i64 0, ?_, trep_int.2 rfl⟩
          have hv2 : ac.eval x = .slice none 0 0 := hv
          have hu2 : (Builtin.cap_ #[t] o.type #[ac.eval x]).run E.P w = .ok (.int .i64 0) w := by
            rw [hv2]; simp [Builtin.cap_, run_underlying hu, goInt]
          simp [execOp, ho, resolve, invoke, builtin, hu2]
        · cases h
      · cases h
    · rename_i hcal
      split at h
      · rename_i s x ha
        exact append_sound ho hcal ha hG hO hB (hr s) (hr x) h
      · cases h
    · cases h
  · cases h
theorem own_none {B : Own} {g : Gh} {w : World} (h : g.O = fun _ => none) : OOk B g w := ⟨fun L v e sz hL => by (rw [h] at hL; cases hL), fun L L' v v' e e' sz sz' b hL => by (rw [h] at hL; cases hL)⟩
theorem opR_sound (hE : EOk E) (hP : E.P = P) (hG : GOk g.G w) (hO : OOk B g w) (hBx : BOk P B g bx w) (hB : B.n ≤ w.heap.size ∧ ∀ b, w.heap.size ≤ b → B.m b) (hm : More g.G1 g.G) (hr : ∀ y, trep g (evalO E fr y) (ac.eval y)) {eff : Eff} (h : opR E fr bx o = some (true, eff)) : Does P ac.eval o B w g bx eff := by
  subst hP
  unfold opR at h
  simp only at h
  have hun : ∀ {eff : Eff}, opX E.P (fun x => (evalO E fr x).unOld) bx o = some (true, eff) → Does E.P ac.eval o B w g bx eff := fun h => opX_sound hE rfl hG hO hBx hB (fun y => unOld_trep (hr y)) h
  cases ha : o.op.operands.toList.any fun x => (evalO E fr x).isOld with
  | false => rw [ha] at h; exact opX_sound hE rfl hG hO hBx hB hr h
  | true =>
    rw [ha, cond_true] at h
    split at h
    · rename_i c v hx
      cases hv : v.oldable with
      | false => rw [hv] at h; exact hun h
      | true =>
        rw [hv, cond_true] at h
        simp only [Option.some.injEq, Prod.mk.injEq] at h
        obtain ⟨rfl, rfl⟩ := h
        have hG1 : GOk g.g0.G w := fun b l hb => by
          obtain ⟨l', h1, h2⟩ := hm b l hb
          obtain ⟨c, e, f, h3, h4⟩ := hG b l' h1
          refine ⟨c, e, f, h3, ?_⟩
          obtain ⟨t, rfl⟩ := h2
          have h5 : (c.toList.take (l ++ t).length).take l.length = l := by rw [h4]; simp
          rw [List.take_take] at h5
          rwa [Nat.min_eq_left (by simp)] at h5
        obtain ⟨u, h1, h2⟩ := opX_sound (B := B) (g := g.g0) hE rfl hG1 (own_none rfl) (⟨fun k cs hk => (by cases hk), fun k k' cs cs' hk => (by cases hk)⟩ : BOk E.P B g.g0 [] w) hB (fun y => old0_trep (hr y)) hx
        exact ⟨u, h1, oldable_trep hv hm h2⟩
    · exact hun h
end
end Nt.Ev
