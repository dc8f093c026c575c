/-
  An evaluator of Go code over plain values (no world): integers, strings as byte lists, slices as lists. Its answers are proved right in a text of their own. What the evaluator's values stand for in a world: the known rows of memory, the labelled slices that the call owns, its boxes. Each operation that the evaluator takes does in the model what the evaluator says. The evaluator's operations, continued: cells, rows, fields. The evaluator's operations, continued: rows of elements, strings, new blocks. The evaluator's operations, continued: indexes, slices, lengths, boxes. The evaluator's operations, the last: what makes or writes memory; all of them together. More operations: structs held against each other, places of arrays that are told by a number, min and max.
-/
import Derived.WalkKit
import Derived.LoopN
import Derived.Orders
import Derived.Laws.AppendOwn
import Derived.Deep.MidRow
import Derived.Great.BuildSlice
import Derived.Laws.MakeOwn
import Derived.Laws.BytesString
import Derived.Laws.StructEq
import Derived.ChangeKeysEq
set_option linter.unusedVariables false
set_option linter.unusedSimpArgs false
set_option linter.unusedSectionVars false
namespace Nt.Ev
open Go
inductive Kd where
 |bool|int (k:IntKind)|str|sl (e:Nat) (sh:List Kd)|oth
mutual
def Kd.eq:Kd→Kd→Bool
 | .bool,.bool=>true
 | .int k,.int k'=>k==k'
 | .str,.str=>true
 | .sl e sh,.sl e' sh'=>e==e'&&Kd.qV sh sh'
 |_,_=>false
def Kd.qV:List Kd→List Kd→Bool
 |[],[]=>true
 |a::l,b::m=>Kd.eq a b&&Kd.qV l m
 |_,_=>false
end
inductive V where
 |any
 |bool (b:Bool)
 |int (k:IntKind) (n:Int)
 |str (l:List UInt8)
 |agg (cs:List V)
 |tup (vs:List V)
 |nilsl
 |sl (e:Nat) (sh:List Kd) (o:Option Nat) (xs:List V)
 |rptr (sh:List Kd) (x:V) (off:Nat)
 |box (k off:Nat)
 |eptr (L e:Nat) (sh:List Kd) (xs:List V) (i:Int) (off:Nat)
 |fn (f:Nat) (bJ:List V)
 |nilif
 |nilp
 |iface (t:Nat) (x:V)
 |bxa (off:Nat) (cs:List V)
 |out (oL:Bool) (x:V) (bs:List (List V))
 |qb (b:Bool) (x y:V)
 |old (x:V)
 |slz (L e:Nat) (sh:List Kd) (xs:List V) (o2:Option Nat) (i:Int) (c e2:Nat) (bG:List Kd) (ys:List V)
 |epz (L e sz:Nat) (i:Int) (off:Nat)
 |keep (oL:Bool) (x:V)
 deriving Inhabited
def HL:Nat:=1000000000
def sel {α:Type} (c:Bool) (a b:α):α:=match c with|true=>a|false=>b
def eu (k:IntKind) (a b:Int):Int:=k.wrap (a+b)
def jN (k:IntKind) (a b:Int):Int:=k.wrap (a-b)
def FD (k:IntKind) (a b:Int):Int:=k.wrap (a*b)
def oO (k:IntKind) (a b:Int):Int:=k.wrap (a.tdiv b)
def y7 (a b:Int):Int:=a.tmod b
def qh (k:IntKind) (n:Int):Int:=k.wrap n
def jY (op:BinOp) (k:IntKind) (x y:Int):Int:=
 match op with
 | .and=>k.wrap (BitVec.ofInt k.bits x&&& BitVec.ofInt k.bits y).toNat
 | .or=>k.wrap (BitVec.ofInt k.bits x|||BitVec.ofInt k.bits y).toNat
 | .xor=>k.wrap (BitVec.ofInt k.bits x ^^^ BitVec.ofInt k.bits y).toNat
 |_=>k.wrap (BitVec.ofInt k.bits x&&& ~~~BitVec.ofInt k.bits y).toNat
def ishl (k:IntKind) (x y:Int):Int:=k.wrap (x*2 ^ (min y.toNat k.bits))
def ishr (k:IntKind) (x y:Int):Int:=x.fdiv (2 ^ (min y.toNat k.bits))
def imin (a b:Int):Int:=min a b
def imax (a b:Int):Int:=max a b
def aU (a b:Int):Bool:=decide (a<b)
def ak (a b:Int):Bool:=decide (a≤b)
def ieq (a b:Int):Bool:=a==b
def nle (a b:Nat):Bool:=decide (a≤b)
def gz (a b:List UInt8):Bool:=nle (a.length+b.length) 1152921504606846976
def JZ (a:List UInt8):Bool:=nle a.length 1152921504606846976
def aK (a:Bool):Bool:=!a
def beq (a b:Bool):Bool:=a==b
def ai (a b:Bool):Bool:=match a with|true=>b|false=>false
def au (l:List UInt8):Int:=(l.length:Int)
def sat (l:List UInt8) (i:Int):Int:=((l.getD i.toNat 0).toNat:Int)
def dG (l:List UInt8) (a b:Int):List UInt8:=(l.drop a.toNat).take (b.toNat-a.toNat)
def gy (a b:List UInt8):List UInt8:=a++b
def seq (a b:List UInt8):Bool:=a==b
def slt (a b:List UInt8):Bool:=Op.bytesLess a b
def av (xs:List V):Int:=(xs.length:Int)
def aX (xs:List V) (i:Int):V:=xs.getD i.toNat .any
def dX (xs:List V) (a b:Int):List V:=(xs.drop a.toNat).take (b.toNat-a.toNat)
def om (xs:List V) (i:Int) (v:V):List V:=xs.set i.toNat v
def aM (xs ys:List V):List V:=xs++ys
def cO (xs ys:List V):Bool:=nle (xs.length+ys.length) 16777216
def q9 (ys:List V):Bool:=nle ys.length 16777216
def Ce (n:Int) (x:V):List V:=List.replicate n.toNat x
def aI (l:List UInt8):List V:=l.map fun c=> .int .u8 (c.toNat:Int)
def aH:V→List UInt8| .str l=>l|_=>[]
def asInt:V→Int| .int _ n=>n|_=>0
def asBool:V→Bool| .bool b=>b|_=>false
def ZW:V→List V| .sl _ _ _ xs=>xs|_=>[]
def ah (x:V) (j:Nat):V:=match x with| .agg cs=>cs.getD j .any|x=>x
def gD (xs:List V):List UInt8:=xs.map fun v=>UInt8.ofNat (asInt (ah v 0)).toNat
def eta:Kd→V→V
 | .bool,x=> .bool (asBool x)
 | .int k,x=> .int k (asInt x)
 | .str,x=> .str (aH x)
 | .sl e sh,x=> .sl e sh none (ZW x)
 | .oth,x=>x
def V.cells:V→List V
 | .agg cs=>cs
 |v=>[v]
def V.deep:V→Option V
 | .sl e sh _ xs=>some (.sl e sh none xs)
 | .bool b=>some (.bool b)
 | .int k n=>some (.int k n)
 | .str l=>some (.str l)
 | .agg cs=>some (.agg cs)
 | .nilsl=>some .nilsl
 | .rptr sh x off=>some (.rptr sh x off)
 | .nilif=>some .nilif
 | .nilp=>some .nilp
 | .iface t x=>some (.iface t x)
 | .fn f []=>some (.fn f [])
 |_=>none
def V.OX:V→Bool
 | .old _=>true
 |_=>false
def V.Dk:V→V
 | .old x=>x
 |v=>v
def V.fo:V→Bool
 | .sl _ _ none _=>true
 | .agg _=>true
 | .rptr _ _ _=>true
 | .iface _ _=>true
 |_=>false
def V.single:V→Bool
 | .tup _=>false
 | .fn _ _=>false
 |_=>true
def V.one:V→Bool
 | .bool _=>true
 | .int _ _=>true
 | .str _=>true
 | .nilsl=>true
 | .sl _ _ none _=>true
 | .rptr _ _ _=>true
 | .nilif=>true
 | .nilp=>true
 | .iface _ _=>true
 |_=>false
def yP:Nat:=1000000
def BM:Nat:=2000000
def AM:Nat:=3000000
def isIntA:V→Bool
 | .int _ n=>Nat.blt n.toNat yP
 |_=>false
def bmV (p:V):V→V
 | .int _ n=> .fn BM [.int .i64 n,p]
 |_=> .any
def dw:V→Option (List V)
 | .eptr _ _ _ _ _ _=>none
 | .epz _ _ _ _ _=>none
 | .keep _ _=>none
 | .agg cs=>bif cs.all V.one then some cs else none
 | .fn f c=>bif Nat.blt f yP then some [.fn f c] else bif f==AM then(match c with
  |p::l=>bif l.all isIntA then some (l.map (bmV p)) else none
  |[]=>none) else none
 | .any=>none
 | .tup _=>none
 | .bxa _ _=>none
 | .out _ _ _=>none
 | .qb _ _ _=>none
 | .old _=>none
 |v=>some [v]
def V.xJ:List V→Option (List V)
 |[]=>some []
 |v::l=>match v.deep,V.xJ l with
  |some v,some l=>some (v::l)
  |_,_=>none
def fits:Kd→V→Bool
 | .bool,.bool _=>true
 | .int k,.int k' _=>k==k'
 | .str,.str _=>true
 | .sl e sh,.sl e' sh' _ _=>e==e'&&Kd.qV sh sh'
 | .sl _ _,.nilsl=>true
 |_,_=>false
def flatK:Kd→Bool
 | .bool=>true
 | .int _=>true
 | .str=>true
 |_=>false
def bC:List Kd→List V→Bool
 |[],[]=>true
 |k::l,v::m=>ai (fits k v) (bC l m)
 |_,_=>false
def fJ (sh:List Kd) (v:V):Bool:=bC sh v.cells
def aset (x:V) (off:Nat) (v:V):V:=.agg (x.cells.set off v)
def xk (sh:List Kd) (x:V) (off:Nat) (v:V):V:=match sh with
 |[_]=>v
 |_=>aset x off v
def Dl (sh:List Kd) (off:Nat) (v:V):Bool:=match sh[off]? with
 |some k=>fits k v
 |none=>false
def J2 (sh:List Kd) (off:Nat) (v:V):Bool:=sh.all flatK&&Dl sh off v
def wh (sh:List Kd):List V→Bool
 |[]=>true
 |v::l=>ai (fJ sh v) (wh sh l)
def EI:Value→V
 | .bool b=> .bool b
 | .int k n=> .int k n
 | .string s=> .str s.data.toList
 | .slice none 0 0=> .nilsl
 | .nilIface=> .nilif
 | .pointer none=> .nilp
 |_=> .any
def qi:Value→V
 | .agg cs=> .agg (cs.toList.map EI)
 |v=>EI v
structure St where
 fr:List V
 bx:List (Nat×List V)
structure Env where
 P:Program
 glob:Nat→Option V
def slot (fr:List V) (t:Nat):V:=fr.getD t .any
def nu (E:Env) (fr:List V):Operand→V
 | .tmp t=>slot fr t
 | .const v=>qi v
 | .global g=>match E.glob g with|some v=>v|none=> .any
 | .func f=> .fn f []
def dn (P:Program) (t:TypeId):Option Nat:=match P.info? t with|some i=>some i.size|none=>none
def bM (P:Program) (t:TypeId):Option Bool:=
 match P.underlying t with
 |some (.struct _)=>some true
 |some (.array _ _)=>some true
 |some _=>some false
 |none=>none
def J3 (P:Program) (t:TypeId):Option TypeId:=match P.underlying t with|some (.slice e)=>some e|_=>none
def dQ (P:Program):Nat→TypeId→List Kd
 |0,_=>[.oth]
 |n+1,t=>match P.underlying t with
  |some .bool=>[.bool]
  |some (.int k)=>[.int k]
  |some .string=>[.str]
  |some (.slice e)=>[.sl e (dQ P n e)]
  |some (.struct fs)=>fs.toList.flatMap fun f=>dQ P n f.type
  |some (.array k e)=>(List.replicate k (dQ P n e)).flatten
  |_=>[.oth]
def J4 (P:Program) (t:TypeId):Option V:=match P.info? t with|some i=>(match i.zero with|some z=>(qi z).deep|none=>none)|none=>none
def elemOf (P:Program) (t:TypeId):Option (TypeId×List Kd×V):=
 match J3 P t with
 |none=>none
 |some e=>
  match P.info? e with
  |none=>none
  |some i=>
   match i.zero with
   |none=>none
   |some z=>
    let sh:=dQ P 8 e
    bif i.size==sh.length&&Nat.blt 0 i.size&&z.cells.size==i.size&&Nat.ble i.bytes 8388608&&fJ sh (qi z) then some (e,sh,qi z) else none
inductive Eff where
 |val (v:V)
 |own (e:Nat) (sh:List Kd) (xs:List V)
 |newSl (e:Nat) (sh:List Kd) (xs:List V)
 |nS (e:Nat) (cells:List V)
 |put (k off:Nat) (cells:List V)
 |app (L:Nat) (e:Nat) (sh:List Kd) (xs:List V)
 |call (f:Nat) (args:List V) (mb ml:List (Nat×Nat))
 |oL (v:V)
 |pick (b:Bool) (x y:V)
 |alts (i:Int) (vs:List V)
 |FE (L e:Nat) (sh:List Kd) (ys:List V)
 |ownz (e:Nat) (sh:List Kd) (xs:List V) (c e2:Nat) (bG:List Kd)
 |appz (L e:Nat) (sh:List Kd) (xs:List V) (i:Int) (c e2:Nat) (bG:List Kd)
 |FF (L e:Nat) (sh:List Kd) (xs:List V) (i:Int) (c L3 e2:Nat) (bG:List Kd) (ys:List V)
abbrev I1:=Option (Bool×Eff)
def ok (v:V):I1:=some (true,.val v)
def intV (op:BinOp) (k:IntKind) (a b:Int):Option (Bool×V):=
 match op with
 | .add=>some (true,.int k (eu k a b))
 | .sub=>some (true,.int k (jN k a b))
 | .mul=>some (true,.int k (FD k a b))
 | .quo=>some (aK (ieq b 0),.int k (oO k a b))
 | .rem=>some (aK (ieq b 0),.int k (y7 a b))
 | .and=>some (true,.int k (jY .and k a b))
 | .or=>some (true,.int k (jY .or k a b))
 | .xor=>some (true,.int k (jY .xor k a b))
 | .andNot=>some (true,.int k (jY .andNot k a b))
 | .eql=>some (true,.bool (ieq a b))
 | .neq=>some (true,.bool (aK (ieq a b)))
 | .lss=>some (true,.bool (aU a b))
 | .leq=>some (true,.bool (ak a b))
 | .gtr=>some (true,.bool (aU b a))
 | .geq=>some (true,.bool (ak b a))
 |_=>none
def lX (op:BinOp) (a b:List UInt8):Option (Bool×V):=
 match op with
 | .add=>some (gz a b,.str (gy a b))
 | .eql=>some (true,.bool (seq a b))
 | .neq=>some (true,.bool (aK (seq a b)))
 | .lss=>some (true,.bool (slt a b))
 | .geq=>some (true,.bool (aK (slt a b)))
 | .gtr=>some (true,.bool (ai (aK (slt a b)) (aK (seq a b))))
 | .leq=>some (true,.bool (aK (ai (aK (slt a b)) (aK (seq a b)))))
 |_=>none
def binV (op:BinOp) (x y:V):Option (Bool×V):=
 match x,y with
 | .int k a,.int k' b=>
  match op with
  | .shl=>some (ak 0 b,.int k (ishl k a b))
  | .shr=>some (ak 0 b,.int k (ishr k a b))
  |_=>bif decide (k=k') then intV op k a b else none
 | .str a,.str b=>lX op a b
 | .bool a,.bool b=>
  match op with
  | .eql=>some (true,.bool (beq a b))
  | .neq=>some (true,.bool (aK (beq a b)))
  |_=>none
 |_,_=>none
def resV:Option (Bool×V)→I1
 |some (c,v)=>some (c,.val v)
 |none=>none
def SL (P:Program) (t:TypeId):V→Bool
 | .bool _=>match P.underlying t with|some .bool=>true|_=>false
 |_=>true
def allEq {α:Type} (f:α→Option Bool):List α→Option Bool
 |[]=>some true
 |[a]=>f a
 |a::l=>match f a,allEq f l with
  |some p,some q=>some (ai p q)
  |_,_=>none
def eqT (P:Program):Nat→TypeId→List V→List V→Option Bool
 |0,_,_,_=>none
 |m+1,t,xs,ys=>match P.underlying t with
  |some .bool=>match xs,ys with
   |[.bool a],[.bool b]=>some (beq a b)
   |_,_=>none
  |some (.int _)=>match xs,ys with
   |[.int k a],[.int k' b]=>bif decide (k=k') then some (ieq a b) else none
   |_,_=>none
  |some .string=>match xs,ys with
   |[.str a],[.str b]=>some (seq a b)
   |_,_=>none
  |some (.struct fs)=>bif P.stoodInHeld t then none else
   allEq (fun f=>bif f.name== "_" then none else match dn P f.type with
    |some n=>eqT P m f.type ((xs.drop f.offset).take n) ((ys.drop f.offset).take n)
    |none=>none) fs.toList
  |some (.array k e)=>match dn P e with
   |some n=>allEq (fun i=>eqT P m e ((xs.drop (i*n)).take n) ((ys.drop (i*n)).take n)) (List.range k)
   |none=>none
  |_=>none
def binT (P:Program) (op:BinOp) (t:TypeId) (x y:V):I1:=
 match x,y with
 | .agg as,.agg bs=>bif P.eqGuardType P.depth t then none else
  match bM P t,op,eqT P 8 t as bs with
  |some true,.eql,some c=>ok (.bool c)
  |some true,.neq,some c=>ok (.bool (aK c))
  |_,_,_=>none
 |x,y=>bif SL P t x then resV (binV op x y) else none
def nilT (P:Program) (op:BinOp) (t:TypeId) (yc:Bool) (x y:V):I1:=
 match op,yc,P.underlying t,x,y with
 | .eql,true,some (.interface _),.nilif,.nilif=>ok (.bool true)
 | .eql,true,some (.interface _),.iface _ _,.nilif=>ok (.bool false)
 | .neq,true,some (.interface _),.nilif,.nilif=>ok (.bool false)
 | .neq,true,some (.interface _),.iface _ _,.nilif=>ok (.bool true)
 |_,_,_,_,_=>none
def okTA:V→Bool
 | .bool _=>true
 | .int _ _=>true
 | .str _=>true
 | .agg _=>true
 |_=>false
def Gc:Operand→Bool
 | .const .nilIface=>true
 |_=>false
def wm (P:Program) (t:TypeId) (f:Nat):Option Field:=
 match P.underlying t with
 |some (.struct fs)=>fs[f]?
 |_=>none
def over (cells:List V) (off:Nat) (new:List V):List V:=cells.take off++new++cells.drop (off+new.length)
def xK (place:Nat→Option (Nat×Nat)) (cells:List V):List (Nat×V)→Option (List V)
 |[]=>some cells
 |(i,v)::rest=>
  match place i,v.deep with
  |some (off,size),some v=>
   bif v.cells.length==size&&Nat.ble (off+size) cells.length then xK place (over cells off v.cells) rest else none
  |_,_=>none
def ax:List (Nat×List V)→Nat→Option (List V)
 |[],_=>none
 |(k,cs)::l,j=>bif k==j then some cs else ax l j
def gN:List (Nat×List V)→Nat→List V→List (Nat×List V)
 |[],_,_=>[]
 |(k,cs)::l,j,ds=>bif k==j then(k,ds)::l else(k,cs)::gN l j ds
def sQ:V→V
 | .agg _=> .any
 | .tup _=> .any
 |v=>v
def chunks (agg:Bool) (sz:Nat):Nat→List V→List V
 |0,_=>[]
 |n+1,cs=>(match agg with|true=>V.agg (cs.take sz)|false=>sQ (cs.getD 0 .any))::chunks agg sz n (cs.drop sz)
def U3 (P:Program) (t:TypeId) (sh:List Kd) (x:V) (off:Nat):I1:=
 match bM P t,dn P t with
 |some true,some n=>
  bif Nat.ble (off+n) sh.length then ok (.agg ((List.range n).map fun j=>eta (sh.getD (off+j) .oth) (ah x (off+j)))) else none
 |some false,_=>bif Nat.blt off sh.length then ok (eta (sh.getD off .oth) (ah x off)) else none
 |_,_=>none
def partOf (P:Program) (t:TypeId) (cs:List V) (off:Nat):I1:=
 match bM P t,dn P t with
 |some true,some n=>bif Nat.ble (off+n) cs.length then ok (.agg ((cs.drop off).take n)) else none
 |some false,_=>bif Nat.blt off cs.length then(match(cs.getD off .any).deep with|some v=>ok v|none=>none) else none
 |_,_=>none
def SN (P:Program) (t:TypeId) (x:V) (i:Int):I1:=
 match x with
 | .str l=>match P.underlying t with
  |some .string=>some (ai (ak 0 i) (aU i (au l)),.val (.int .u8 (sat l i)))
  |_=>none
 |_=>none
def zy (P:Program) (t:TypeId) (x:V) (i:Int):I1:=
 match x with
 | .sl e' sh o xs=>match J3 P t with
  |some e=>match dn P e with
   |some n=>bif n==sh.length then some (ai (ak 0 i) (aU i (av xs)),.val (match o with|some L=> .eptr L e' sh xs i 0|none=> .rptr sh (aX xs i) 0)) else none
   |none=>none
  |none=>none
 | .slz L e' sh xs _ _ _ _ _ _=>match J3 P t with
  |some e=>match dn P e with
   |some n=>bif n==sh.length then some (ai (ak 0 i) (aU i (av xs)),.val (.epz L e' sh.length i 0)) else none
   |none=>none
  |none=>none
 | .rptr sh (.agg cs) 0=>match P.underlying t with
  |some (.array n e)=>match dn P e,bM P e with
   |some sz,some ag=>
    bif n*sz==cs.length&&Nat.blt 0 sz&&(ag||sz==1)&&wh (sh.take sz) (chunks ag sz n cs) then
     some (ai (ak 0 i) (aU i n),.val (.rptr (sh.take sz) (aX (chunks ag sz n cs) i) 0)) else none
   |_,_=>none
  |_=>none
 |_=>none
def GD (P:Program) (t:TypeId) (k off:Nat) (i:Int):I1:=
 match P.underlying t with
 |some (.array n e)=>match dn P e with
  |some sz=>bif Nat.blt 0 sz then some (true,.alts i ((List.range n).map fun j=> .box k (off+j*sz))) else none
  |none=>none
 |_=>none
def Cu (P:Program) (t:TypeId) (cs:List V) (i:Int):I1:=
 match P.underlying t with
 |some (.array n e)=>match dn P e,bM P e with
  |some sz,some ag=>bif n*sz==cs.length&&Nat.blt 0 sz&&(ag||sz==1)&&cs.all V.one then some (true,.alts i (chunks ag sz n cs)) else none
  |_,_=>none
 |_=>none
def SQ (P:Program) (t:TypeId) (x:V) (lo hi:Option V):I1:=
 match x with
 | .str l=>
  match P.underlying t,lo,hi with
  |some .string,some (.int _ a),some (.int _ b)=>some (ai (ai (ak 0 b) (ak b (au l))) (ai (ak 0 a) (ak a b)),.val (.str (dG l a b)))
  |some .string,none,some (.int _ b)=>some (ai (ak 0 b) (ak b (au l)),.val (.str (dG l 0 b)))
  |some .string,some (.int _ a),none=>some (ai (ak 0 a) (ak a (au l)),.val (.str (dG l a (au l))))
  |some .string,none,none=>ok (.str l)
  |_,_,_=>none
 | .sl e sh _ xs=>
  match J3 P t with
  |none=>none
  |some e'=>match dn P e' with
   |none=>none
   |some n=>bif n==sh.length then
     match lo,hi with
     |some (.int _ a),some (.int _ b)=>some (ai (ai (ak 0 b) (ak b (av xs))) (ai (ak 0 a) (ak a b)),.val (.sl e sh none (dX xs a b)))
     |none,some (.int _ b)=>some (ai (ak 0 b) (ak b (av xs)),.val (.sl e sh none (dX xs 0 b)))
     |some (.int _ a),none=>some (ai (ak 0 a) (ak a (av xs)),.val (.sl e sh none (dX xs a (av xs))))
     |none,none=>ok (.sl e sh none xs)
     |_,_=>none
    else none
 | .rptr sh (.agg cs) 0=>
  match P.underlying t,lo,hi with
  |some (.array n e),none,none=>match dn P e,bM P e with
   |some sz,some ag=>bif n*sz==cs.length&&Nat.blt 0 sz&&Nat.blt 0 n&&(ag||sz==1)&&wh (sh.take sz) (chunks ag sz n cs) then ok (.sl e (sh.take sz) none (chunks ag sz n cs)) else none
   |_,_=>none
  |_,_,_=>none
 |_=>none
def lenV (P:Program) (t:TypeId) (x:V):I1:=
 match P.underlying t,x with
 |some .string,.str l=>ok (.int .i64 (au l))
 |some (.slice _),.sl _ _ _ xs=>ok (.int .i64 (av xs))
 |some (.slice _),.nilsl=>ok (.int .i64 0)
 |some (.slice _),.slz _ _ _ xs _ _ _ _ _ _=>ok (.int .i64 (av xs))
 |some (.array n _),_=>ok (.int .i64 (n:Int))
 |_,_=>none
def wo (great:Bool) (x y:V):I1:=
 match x,y with
 | .int k a,.int k' b=>bif decide (k=k') then ok (.int k (match great with|true=>imax a b|false=>imin a b)) else none
 |_,_=>none
def tailV (sh:List Kd):V→Option (List V)
 | .sl _ sh' _ ys=>bif Kd.qV sh sh' then some ys else none
 | .nilsl=>some []
 |_=>none
def ZX:List Kd→Nat→Option (Nat×Nat×List Kd)
 |[],_=>none
 | .sl e sh::l,i=>bif (sh.all flatK&&Nat.blt 0 sh.length)&&l.all flatK then some (i,e,sh) else none
 |k::l,i=>bif flatK k then ZX l (i+1) else none
def Xg (c:Nat):List V→Bool
 |[y]=>y.cells.all (fun v=>match v with
  | .bool _=>true
  | .int _ _=>true
  | .str _=>true
  | .nilsl=>true
  |_=>false)&&(match y.cells.getD c .any with
  | .nilsl=>true
  |_=>false)
 |_=>false
def Ja (e:Nat) (sh:List Kd) (ys:List V):Eff:=match ZX sh 0 with
 |some (c,e2,bG)=>bif Xg c ys then .ownz e sh ys c e2 bG else .own e sh ys
 |none=> .own e sh ys
def MQ (P:Program) (ts:List TypeId) (s x:V):I1:=
 match ts with
 |[t,u]=>match elemOf P t with
  |none=>none
  |some (e,sh,_)=>
   bif t==u then
    match tailV sh x with
    |none=>none
    |some ys=>
     match s with
     | .nilsl=>some (q9 ys,Ja e sh ys)
     | .sl e' sh' (some L) xs=>bif e==e'&&Kd.qV sh sh' then some (cO xs ys,.app L e sh (aM xs ys)) else none
     | .slz L e' sh' xs _ _ _ _ _ _=>match ZX sh 0 with
      |some (c,e2,bG)=>bif e==e'&&Kd.qV sh sh'&&Xg c ys then some (cO xs ys,.appz L e sh (aM xs ys) (av xs) c e2 bG) else none
      |none=>none
     |_=>none
   else match P.underlying u,sh,x with
    |some .string,[.int .u8],.str l=>
     match s with
     | .nilsl=>some (q9 (aI l),.own e [.int .u8] (aI l))
     | .sl e' sh' (some L) xs=>bif e==e'&&Kd.qV [.int .u8] sh' then some (cO xs (aI l),.app L e [.int .u8] (aM xs (aI l))) else none
     |_=>none
    |_,_,_=>none
 |_=>none
def makeV (P:Program) (t:TypeId) (l c:V):I1:=
 match l,c,elemOf P t with
 | .int .i64 n,.int .i64 m,some (e,sh,z)=>some (ai (ak 0 n) (ai (ak n m) (ak m 16777216)),.own e sh (Ce n z))
 |_,_,_=>none
def LZ (z:V) (n sz:Nat):List V:=(List.range (n*sz)).map fun i=>z.cells.getD (i%sz) .any
def vL (P:Program) (t:TypeId) (n:Nat) (parts:List (Nat×V)):I1:=
 match elemOf P t with
 |some (e,sh,z)=>
  bif n==0 then(match parts with|[]=>some (true,.own e sh [])|_=>none) else
  match bM P e,xK (fun i=>some (i*sh.length,sh.length)) (LZ z n sh.length) parts with
  |some ag,some cs=>
   bif (ag||sh.length==1)&&wh sh (chunks ag sh.length n cs)&&Nat.ble (n*sh.length) 16777216 then some (true,.own e sh (chunks ag sh.length n cs)) else none
  |_,_=>none
 |none=>none
def SS (P:Program) (fs:Array Field) (j:Nat):Option (Nat×Nat):=
 match fs[j]? with
 |some f=>(match dn P f.type with|some n=>some (f.offset,n)|none=>none)
 |none=>none
def SV (P:Program) (t:TypeId) (parts:List (Nat×V)):I1:=
 match P.info? t with
 |some i=>
  match i.zero,P.underlying t with
  |some (.agg z),some (.struct fs)=>
   match xK (SS P fs) (z.toList.map EI) parts with
   |some cs=>bif fs.all (fun f=>(dn P f.type).isSome) then ok (.agg cs) else none
   |none=>none
  |some (.agg z),some (.array _ e)=>
   match dn P e with
   |some n=>match xK (fun i=>some (i*n,n)) (z.toList.map EI) parts with
    |some cs=>ok (.agg cs)
    |none=>none
   |none=>none
  |_,_=>none
 |none=>none
def convV (P:Program) (src dst:TypeId) (x:V):I1:=
 match P.underlying src,P.underlying dst,x with
 |some (.int _),some (.int k),.int _ n=>ok (.int k (qh k n))
 |some .string,some .string,.str l=>ok (.str l)
 |some .string,some (.slice e),.str l=>match P.underlying e with
  |some (.int .u8)=>some (JZ l,.newSl e [.int .u8] (aI l))
  |_=>none
 |some (.slice e),some .string,.sl _ [.int .u8] _ xs=>match P.underlying e with
  |some (.int .u8)=>ok (.str (gD xs))
  |_=>none
 |some (.slice e),some .string,.nilsl=>match P.underlying e with
  |some (.int .u8)=>ok (.str [])
  |_=>none
 |_,_,_=>none
def Gf (cells:List V) (off n:Nat):Option (List V):=bif Nat.ble (off+n) cells.length then V.xJ ((cells.drop off).take n) else none
def lk:List (Nat×Nat)→Nat→Option Nat
 |[],_=>none
 |(k,v)::l,j=>bif k==j then some v else lk l j
def qR:List Nat→Bool
 |[]=>true
 |a::l=>bif l.contains a then false else qR l
def oZ (mb ml:List (Nat×Nat)):Bool:=qR (mb.map (·.1))&&qR (mb.map (·.2))&&qR (ml.map (·.1))&&qR (ml.map (·.2))
def xq (mb ml:List (Nat×Nat)):V→V
 | .sl e sh (some L) xs=> .sl e sh (lk ml L) xs
 | .eptr _ _ _ _ _ _=> .any
 | .slz L e sh xs o2 i c e2 bG ys=>match lk ml L with
  |some L'=> .slz L' e sh xs (o2.bind (lk ml)) i c e2 bG ys
  |none=> .any
 | .epz _ _ _ _ _=> .any
 | .box k off=>match lk mb k with|some k'=> .box k' off|none=> .any
 | .fn f bJ=>match bJ with|[]=> .fn f []|_=> .any
 | .old x=>bif x.fo then x else .any
 |v=>v
def V.ren (mb ml:List (Nat×Nat)):V→V
 | .tup vs=> .tup (vs.map (xq mb ml))
 |v=>xq mb ml v
def qp (nm:Nat→Nat→Nat):Nat→List V→List (Nat×Nat)
 |_,[]=>[]
 |i,.sl _ _ (some L) _::l=>(L,nm L i)::qp nm (i+1) l
 |i,.slz L _ _ _ (some L2) _ _ _ _ _::l=>(L,nm L i)::(L2,nm L2 (i+500))::qp nm (i+1) l
 |i,.slz L _ _ _ none _ _ _ _ _::l=>(L,nm L i)::qp nm (i+1) l
 |i,_::l=>qp nm (i+1) l
def ZY:Nat:=1000000000000
def jA:List V→List V
 |[]=>[]
 |v::l=>(match v with
  | .fn _ bJ=>bJ.filterMap fun c=>match c with
   | .box k 0=>some (.box k ZY)
   |_=>none
  |_=>[])++jA l
def qw:V→Bool
 | .bxa off _=>off==ZY
 |_=>false
def zh (bJ:List V):Bool:=bJ.all fun c=>match c with
 | .box _ 0=>true
 |_=>false
def rf (bx:List (Nat×List V)) (j:Nat):V→List (Nat×Nat)×List (Nat×Nat)
 | .box k _=>match ax bx k with
  |some cs=>([(k,HL+j)],qp (fun _ i=>HL+1000*(j+1)+1+i) 0 cs)
  |none=>([],[])
 | .sl _ _ (some L) _=>([],[(L,HL+1000*(j+1))])
 |_=>([],[])
def dR (bx:List (Nat×List V)):Nat→List V→List (Nat×Nat)×List (Nat×Nat)
 |_,[]=>([],[])
 |j,v::l=>((rf bx j v).1++(dR bx (j+1) l).1,(rf bx j v).2++(dR bx (j+1) l).2)
def uI (bx:List (Nat×List V)) (mb ml:List (Nat×Nat)):V→Option V
 | .box k off=>match ax bx k with
  |some cs=>some (.bxa off (cs.map (V.ren mb ml)))
  |none=>none
 | .sl e sh (some L) xs=>some (xq mb ml (.sl e sh (some L) xs))
 | .fn f (c::cs)=>bif Nat.blt f yP&&zh (c::cs) then some (.fn f ((c::cs).map (xq mb ml))) else none
 |v=>v.deep
def fT (bx:List (Nat×List V)) (mb ml:List (Nat×Nat)):List V→Option (List V)
 |[]=>some []
 |v::l=>match uI bx mb ml v,fT bx mb ml l with
  |some v,some l=>some (v::l)
  |_,_=>none
def Vw (bx:List (Nat×List V)) (j:Nat) (vs:List V):Option (List V×List (Nat×Nat)×List (Nat×Nat)):=
 match fT bx (dR bx j vs).1 (dR bx j vs).2 vs with
 |some args=>some (args,(dR bx j vs).1,(dR bx j vs).2)
 |none=>none
def L5:V→Bool
 | .box _ off=>off==ZY
 |_=>false
def o5 (bx:List (Nat×List V)) (j:Nat) (vs:List V):Option (List V×List (Nat×Nat)×List (Nat×Nat)):=bif vs.any L5 then none else Vw bx j (vs++jA vs)
def V.Aw:V→Bool
 | .bxa _ _=>true
 |_=>false
def V.xA:V→V
 | .sl e sh _ xs=> .sl e sh none xs
 | .old x=>bif x.fo then x else .any
 |v=>v
def iF (args:List V):Bool:=args.any V.Aw
def V.handed:V→Bool
 | .bxa _ _=>true
 | .sl _ _ (some _) _=>true
 |_=>false
def handed (args:List V):Bool:=args.any V.handed
def frArg (j:Nat):V→V
 | .bxa off _=> .box (HL+j) off
 |v=>v
def bI:Nat→List V→List V
 |_,[]=>[]
 |j,v::l=>bif qw v then bI (j+1) l else frArg j v::bI (j+1) l
def dH:Nat→List V→List (Nat×List V)
 |_,[]=>[]
 |j,.bxa _ cs::l=>(HL+j,cs)::dH (j+1) l
 |j,_::l=>dH (j+1) l
def fC:Nat→List V→List (List V)→List (Nat×List V)
 |_,[],_=>[]
 |j,.bxa _ _::l,cs::bs=>(HL+j,cs)::fC (j+1) l bs
 |j,.bxa _ _::l,[]=>fC (j+1) l []
 |j,_::l,bs=>fC (j+1) l bs
def Xh:V→Option V
 | .bxa off cs=>some (.bxa off cs)
 | .sl e sh o xs=>some (.sl e sh o xs)
 | .old x=>bif x.fo then some (.old x) else none
 | .fn f (c::cs)=>some (.fn f (c::cs))
 |v=>v.deep
def Ay:List V→Option (List V)
 |[]=>some []
 |v::l=>match Xh v,Ay l with
  |some v,some l=>some (v::l)
  |_,_=>none
def Ch:V→List V
 | .tup vs=>vs
 |v=>[v]
def jB:List V→Bool
 | .nilp::_::_=>true
 |_=>false
def bldN (P:Program):Nat→TypeId→Bool
 |0,_=>false
 |k+1,t=>match P.info? t with
  |some i=>(match P.underlying t with
   |some (.struct fs)=>(match fs.toList with
    |a::l=>(a.name== "addr" &&(match l with|[b]=>b.name== "buf" |_=>false)&&(match i.desc with| .named _ _=>true|_=>false))||(a.offset==0&&bldN P k a.type)
    |_=>false)
   |_=>false)
  |none=>false
def o6 (P:Program) (t:TypeId) (n:Nat):Bool:=match P.info? t with
 |some i=>(match i.desc with| .named _ _=>true|_=>false)&&(i.size==n&&bldN P 4 t)
 |none=>false
def jQ (P:Program) (f:Nat):Bool:=match P.funcs[f]? with|some fn=>fn.body.isSome|none=>false
def Dm:V→Bool
 | .any=>true
 | .bool _=>true
 | .int _ _=>true
 | .str _=>true
 | .nilsl=>true
 | .nilif=>true
 | .nilp=>true
 |_=>false
def J5:V→Bool
 | .sl _ sh (some _) _=>sh.all flatK
 | .eptr _ _ sh _ _ _=>sh.all flatK
 | .box _ _=>true
 | .old _=>true
 |v=>Dm v
def V.flat:V→Bool
 | .tup vs=>vs.all J5
 | .fn _ vs=>vs.all J5
 | .agg cs=>cs.all Dm
 |v=>J5 v
def V.forget (v:V):V:=bif v.flat then v else .any
def St.U4 (s:St):Bool:=s.fr.all V.flat&&s.bx.all fun(_,cs)=>cs.all V.flat
def St.forget (s:St):St:=⟨s.fr.map V.forget,s.bx.map fun(j,cs)=>(j,cs.map V.forget)⟩
def seqI:Nat→List (Nat×V)→Bool
 |_,[]=>true
 |k,p::l=>p.1==k&&seqI (k+1) l
def L6:V→Bool
 | .box _ _=>true
 |_=>false
def arrB (P:Program) (t:TypeId) (ps:List (Nat×V)):Option (List V):=match P.info? t,P.underlying t with
 |some i,some (.array n e)=>match i.zero,dn P e with
  |some (.agg z),some m=>bif m==1&&z.size==n&&n==ps.length&&Nat.blt 0 n&&seqI 0 ps&&ps.all (fun p=>L6 p.2) then some (ps.map fun p=>p.2) else none
  |_,_=>none
 |_,_=>none
def Cv (P:Program) (t:TypeId) (vs:List V) (n:Int):I1:=match P.underlying t with
 |some (.array m e)=>match dn P e,bM P e with
  |some k,some false=>bif k==1&&m==vs.length&&Nat.blt 0 m then some (true,.alts n vs) else none
  |_,_=>none
 |_=>none
def Ci (L off:Nat):List V→Option (Int×Nat×Nat×List Kd×List V)
 |[]=>none
 | .slz L' _ sh _ (some L2) i c e2 bG ys::l=>bif (L==L'&&c==off)&&Nat.blt off sh.length then some (i,L2,e2,bG,ys) else Ci L off l
 |_::l=>Ci L off l
def Gg (bx:List (Nat×List V)) (L off:Nat):List (Nat×List V)→Option (Int×Nat×Nat×List Kd×List V)
 |[]=>none
 |(k,_)::l=>match ax bx k with
  |some cs=>(match Ci L off cs with
   |some x=>some x
   |none=>Gg bx L off l)
  |none=>Gg bx L off l
def U5 (L off:Nat) (bx:List (Nat×List V)):Option (Int×Nat×Nat×List Kd×List V):=Gg bx L off bx
def Cj (L:Nat):List V→Option (List Kd×List V)
 |[]=>none
 | .slz L' _ sh xs _ _ _ _ _ _::l=>bif L==L' then some (sh,xs) else Cj L l
 |_::l=>Cj L l
def Gi (bx:List (Nat×List V)) (L:Nat):List (Nat×List V)→Option (List Kd×List V)
 |[]=>none
 |(k,_)::l=>match ax bx k with
  |some cs=>(match Cj L cs with
   |some x=>some x
   |none=>Gi bx L l)
  |none=>Gi bx L l
def U6 (L:Nat) (bx:List (Nat×List V)):Option (List Kd×List V):=Gi bx L bx
def U7 (k:Nat):V→Option V
 | .fn f [.int .i64 n,.box k' 0]=>bif (f==BM&&k==k')&&Nat.blt n.toNat yP then some (.int .i64 n) else none
 |_=>none
def Gj (k:Nat):List V→Option (List V)
 |[]=>some []
 |v::l=>match U7 k v,Gj k l with
  |some x,some r=>some (x::r)
  |_,_=>none
def arrC (P:Program) (t:TypeId) (ps:List (Nat×V)):Option (List V):=match P.info? t,P.underlying t with
 |some i,some (.array n e)=>match i.zero,dn P e with
  |some (.agg z),some m=>bif m==1&&z.size==n&&n==ps.length&&Nat.blt 0 n&&seqI 0 ps then(match ps with
   |(_,.fn _ [_,.box k 0])::_=>(match Gj k (ps.map fun p=>p.2) with
    |some l=>some (.box k 0::l)
    |none=>none)
   |_=>none) else none
  |_,_=>none
 |_,_=>none
def L8 (z:Value):Option (List V):=match dw (qi z) with
 |some cs=>some cs
 |none=>match z with
  | .agg a=>bif a.toList.all (fun u=>u.oneCell') then some (a.toList.map EI) else none
  |_=>none
def RU (P:Program) (r:Operand→V) (bx:List (Nat×List V)) (o:Oper):I1:=
 match o.op with
 | .move x=>ok (r x)
 | .assign x=>match r x with
  | .nilsl=>match elemOf P o.type with
   |some (e,sh,_)=>some (true,.own e sh [])
   |none=>ok .nilsl
  |v=>ok v
 | .pick c x y=>match r c with
  | .bool b=>some (true,.pick b (r x) (r y))
  |_=>none
 | .alloc t=>match P.info? t with
  |some i=>match i.zero with
   |some z=>match L8 z with
    |some cs=>bif jB cs&&aK (o6 P t cs.length) then none else some (true,.nS t cs)
    |none=>none
   |none=>none
  |none=>none
 | .box t x=>match dw (r x) with
  |some cs=>bif jB cs&&aK (o6 P t cs.length) then none else some (true,.nS t cs)
  |none=>none
 | .build t parts=>match arrB P t (parts.toList.map fun(i,x)=>(i,r x)) with
  |some vs=>ok (.fn yP vs)
  |none=>match arrC P t (parts.toList.map fun(i,x)=>(i,r x)) with
  |some vs=>ok (.fn AM vs)
  |none=>SV P t (parts.toList.map fun(i,x)=>(i,r x))
 | .buildSlice t n parts=>vL P t n (parts.toList.map fun(i,x)=>(i,r x))
 | .load t a=>match r a with
  | .rptr sh x off=>U3 P t sh x off
  | .eptr _ _ sh xs i off=>U3 P t sh (aX xs i) off
  | .epz L _ _ i off=>match U5 L off bx,bM P t with
   |some (j,L2,e2,bG,ys),some false=>some (ieq i j,.val (.sl e2 bG (some L2) ys))
   |_,_=>none
  | .box k off=>match ax bx k with
   |some cells=>match bM P t,dn P t with
    |some true,some n=>match Gf cells off n with
     |some cs=>ok (.agg cs)
     |none=>none
    |some false,_=>bif Nat.blt off cells.length then ok (cells.getD off .any) else none
    |_,_=>none
   |none=>none
  |_=>none
 | .store t a x=>match r a,dw (r x) with
  | .box k off,some vs=>match ax bx k,dn P t with
   |some cells,some n=>bif vs.length==n&&Nat.ble (off+n) cells.length then some (true,.put k off vs) else none
   |_,_=>none
  | .eptr L e sh xs i off,some [v]=>match bM P t,dn P t with
   |some false,some 1=>bif J2 sh off v then some (true,.FE L e sh (om xs i (xk sh (aX xs i) off v))) else none
   |_,_=>none
  | .epz L e sz i off,some [.sl e2 bG (some L3) ys]=>match U6 L bx,bM P t,dn P t with
   |some (sh,xs),some false,some 1=>bif sh.length==sz&&(match ZX sh 0 with
    |some (c,e2',mq)=>c==off&&e2==e2'&&Kd.qV bG mq
    |none=>false) then some (true,.FF L e sh (om xs i (xk sh (aX xs i) off (.sl e2 bG none ys))) i off L3 e2 bG ys) else none
   |_,_,_=>none
  |_,_=>none
 | .nilCheck x=>match r x with
  | .eptr L e sh xs i off=>ok (.eptr L e sh xs i off)
  | .epz L e sz i off=>ok (.epz L e sz i off)
  | .rptr sh v off=>ok (.rptr sh v off)
  | .box k off=>ok (.box k off)
  |_=>none
 | .binOp op t x y _=>match r x,r y with
  | .nilif,.nilif=>nilT P op t (Gc y) .nilif .nilif
  | .iface u v,.nilif=>nilT P op t (Gc y) (.iface u v) .nilif
  |x,y=>binT P op t x y
 | .makeInterface t x=>match P.underlying t,(r x).deep with
  |some (.interface _),_=>none
  |some _,some v=>ok (.iface t v)
  |_,_=>none
 | .typeAssert x _ t true=>match P.underlying t,J4 P t with
  |some (.interface _),_=>none
  |some _,some z=>match r x with
   | .nilif=>ok (.tup [z,.bool false])
   | .iface u v=>bif u==t then(bif okTA v then ok (.tup [v,.bool true]) else none) else ok (.tup [z,.bool false])
   |_=>none
  |_,_=>none
 | .panic x=>match r x with
  | .iface t v=>some (true,.oL (.iface t v))
  |_=>none
 | .unOp op _ x=>match op,r x with
  | .not,.bool b=>ok (.bool (aK b))
  | .neg,.int k n=>ok (.int k (jN k 0 n))
  |_,_=>none
 | .convert src dst x=>convV P src dst (r x)
 | .makeFunc (.func f) first bJ=>bif (bJ.size==0&&Nat.blt 0 first.size&&Nat.blt f yP)&&(first.toList.map r).all V.single then ok (.fn BM (.int .i64 (f:Int)::first.toList.map r)) else bif (first.size==0&&Nat.blt f yP)&&(bJ.toList.map r).all V.single then ok (.fn f (bJ.toList.map r)) else none
 | .makeSlice t l c=>makeV P t (r l) (r c)
 | .slice t x lo hi none=>SQ P t (r x) (lo.map r) (hi.map r)
 | .fieldAddr t x f=>match wm P t f with
  |some f=>match dn P f.type with
   |some 0=>none
   |some _=>match r x with
    | .rptr sh v off=>ok (.rptr sh v (off+f.offset))
    | .eptr L e sh xs i off=>ok (.eptr L e sh xs i (off+f.offset))
    | .epz L e sz i off=>ok (.epz L e sz i (off+f.offset))
    | .box k off=>ok (.box k (off+f.offset))
    |_=>none
   |none=>none
  |none=>none
 | .field t x f=>match wm P t f,r x with
  |some f,.agg cs=>partOf P f.type cs f.offset
  |_,_=>none
 | .indexAddr t x i=>match r i with
  | .int _ n=>match r x with
   | .box k off=>GD P t k off n
   |x=>zy P t x n
  |_=>none
 | .index t x i=>match r i with
  | .int _ n=>match r x with
   | .agg cs=>Cu P t cs n
   | .fn f vs=>bif f==yP&&vs.all L6 then Cv P t vs n else none
   |x=>SN P t x n
  |_=>none
 | .extract x i=>match r x with
  | .tup vs=>bif Nat.blt i vs.length&&(match vs.getD i .any with| .tup _=>false| .fn _ _=>false|_=>true) then ok (vs.getD i .any) else none
  |_=>none
 | .call c=>match c.callee with
  | .value f=>match r f with
   | .fn id bJ=>bif id==BM then(match bJ with
     | .int .i64 n::cs=>(match o5 bx 0 (cs++c.args.toList.map r) with
      |some (args,mb,ml)=>bif (jQ P n.toNat&&Nat.blt n.toNat yP)&&oZ mb ml then some (true,.call n.toNat args mb ml) else none
      |none=>none)
     |_=>none) else(match o5 bx 0 (c.args.toList.map r++bJ) with
    |some (args,mb,ml)=>bif (jQ P id&&Nat.blt id yP)&&oZ mb ml then some (true,.call id args mb ml) else none
    |none=>none)
   |_=>none
  | .builtin .min=>match c.args.toList with
   |[x,y]=>wo false (r x) (r y)
   |_=>none
  | .builtin .max=>match c.args.toList with
   |[x,y]=>wo true (r x) (r y)
   |_=>none
  | .builtin .len=>match c.argTypes.toList,c.args.toList with
   |[t],[x]=>lenV P t (r x)
   |_,_=>none
  | .builtin .cap=>match c.argTypes.toList,c.args.toList with
   |[t],[x]=>(match P.underlying t,r x with
    |some (.slice _),.nilsl=>ok (.int .i64 0)
    |_,_=>none)
   |_,_=>none
  | .builtin .append=>match c.args.toList with
   |[s,x]=>MQ P c.argTypes.toList (r s) (r x)
   |_=>none
  |_=>none
 |_=>none
def V.old0:V→V
 | .old x=>x
 |v=>bif Dm v then v else .any
def EA (E:Env) (fr:List V) (bx:List (Nat×List V)) (o:Oper):I1:=
 let r:=nu E fr
 bif o.op.operands.toList.any fun x=>(r x).OX then
  (match RU E.P (fun x=>(r x).old0) [] o with
   |some (c,.val v)=>bif v.fo then some (c,.val (.old v)) else RU E.P (fun x=>(r x).Dk) bx o
   |_=>RU E.P (fun x=>(r x).Dk) bx o)
 else RU E.P r bx o
def U8 (L:Nat):Option Nat→Option Nat
 |some L'=>bif L==L' then none else some L'
 |none=>none
def renO (L i:Nat):Option Nat→Option Nat
 |some L'=>bif L==L' then some i else some L'
 |none=>none
def lkO (L:Nat):Option Nat→Bool
 |some L'=>L==L'
 |none=>false
def xM (L:Nat):V→V
 | .sl e sh (some L') xs=>bif L==L' then .sl e sh none xs else .sl e sh (some L') xs
 | .eptr L' e sh xs i off=>bif L==L' then .any else .eptr L' e sh xs i off
 | .slz L' e sh xs o2 i c e2 bG ys=>bif L==L' then .any else .slz L' e sh xs (U8 L o2) i c e2 bG ys
 | .epz L' e sz i off=>bif L==L' then .any else .epz L' e sz i off
 |v=>v
def V.kill (L:Nat):V→V
 | .tup vs=> .tup (vs.map (xM L))
 | .fn f vs=> .fn f (vs.map (xM L))
 |v=>xM L v
def St.kill (s:St) (L:Nat):St:=⟨s.fr.map (V.kill L),s.bx.map fun(k,cs)=>(k,cs.map (V.kill L))⟩
def jc (L:Nat):V→Bool
 | .sl _ _ (some L') _=>L==L'
 | .eptr L' _ _ _ _ _=>L==L'
 | .slz L' _ _ _ o2 _ _ _ _ _=>L==L'||lkO L o2
 | .epz L' _ _ _ _=>L==L'
 |_=>false
def V.dI (L:Nat):V→Bool
 | .tup vs=>vs.any (jc L)
 | .fn _ vs=>vs.any (jc L)
 |v=>jc L v
def St.bA (s:St) (L:Nat):Bool:=s.fr.all (fun v=>aK (v.dI L))&&s.bx.all fun(_,cs)=>cs.all fun v=>aK (v.dI L)
def sS (k:Nat):V→Bool
 | .box j _=>k==j
 |_=>false
def V.gF (k:Nat):V→Bool
 | .tup vs=>vs.any (sS k)
 | .fn _ vs=>vs.any (sS k)
 |v=>sS k v
def St.mo (s:St) (k:Nat):Bool:=s.fr.all (fun v=>aK (v.gF k))&&s.bx.all fun(j,cs)=>aK (j==k)&&cs.all fun v=>aK (v.gF k)
def OC (L e:Nat) (k:List Kd) (ys:List V):V→V
 | .sl e' sh (some L') xs=>bif L==L' then .sl e k (some L) ys else .sl e' sh (some L') xs
 | .eptr L' e' sh xs i off=>bif L==L' then .eptr L e k ys i off else .eptr L' e' sh xs i off
 |v=>v
def V.upd (L e:Nat) (k:List Kd) (ys:List V):V→V
 | .tup vs=> .tup (vs.map (OC L e k ys))
 | .fn f vs=> .fn f (vs.map (OC L e k ys))
 |v=>OC L e k ys v
def St.upd (s:St) (L e:Nat) (k:List Kd) (ys:List V):St:=⟨s.fr.map (V.upd L e k ys),s.bx.map fun(j,cs)=>(j,cs.map (V.upd L e k ys))⟩
def U9 (L e:Nat) (sh:List Kd) (xs:List V) (i:Int) (c L3 e2:Nat) (bG:List Kd) (ys:List V):V→V
 | .slz L' e' sh' xs' o2 i' c' e2' mq ys'=>bif L==L' then .slz L e sh xs (some L3) i c e2 bG ys else .slz L' e' sh' xs' o2 i' c' e2' mq ys'
 |v=>v
def V.Cf (L e:Nat) (sh:List Kd) (xs:List V) (i:Int) (c L3 e2:Nat) (bG:List Kd) (ys:List V):V→V
 | .tup vs=> .tup (vs.map (U9 L e sh xs i c L3 e2 bG ys))
 | .fn f vs=> .fn f (vs.map (U9 L e sh xs i c L3 e2 bG ys))
 |v=>U9 L e sh xs i c L3 e2 bG ys v
def St.Cf (s:St) (L e:Nat) (sh:List Kd) (xs:List V) (i:Int) (c L3 e2:Nat) (bG:List Kd) (ys:List V):St:=⟨s.fr.map (V.Cf L e sh xs i c L3 e2 bG ys),s.bx.map fun(j,cs)=>(j,cs.map (V.Cf L e sh xs i c L3 e2 bG ys))⟩
def unzV (L:Nat):V→V
 | .slz L' e sh xs o2 i c e2 bG ys=>bif L==L' then .sl e sh (some L) xs else .slz L' e sh xs o2 i c e2 bG ys
 | .epz L' e sz i off=>bif L==L' then .any else .epz L' e sz i off
 |v=>v
def V.UR (L:Nat):V→V
 | .tup vs=> .tup (vs.map (unzV L))
 | .fn f vs=> .fn f (vs.map (unzV L))
 |v=>unzV L v
def St.UR (s:St) (L:Nat):St:=⟨s.fr.map (V.UR L),s.bx.map fun(k,cs)=>(k,cs.map (V.UR L))⟩
def isZ:V→Bool
 | .slz _ _ _ _ _ _ _ _ _ _=>true
 |_=>false
def zLabs:List V→List Nat
 |[]=>[]
 | .slz L _ _ _ _ _ _ _ _ _::l=>L::zLabs l
 |_::l=>zLabs l
def unzL (s:St):List Nat→St
 |[]=>s
 |L::l=>unzL (s.UR L) l
def deepKd:Kd→Bool
 | .sl _ sh=>!(sh.all flatK)
 |_=>false
def wantsU (P:Program) (o:Oper):Bool:=match o.op with
 | .load t _=>(match bM P t with|some true=>(dQ P 8 t).any deepKd|_=>false)
 |_=>false
def preZ (P:Program) (ops:List Oper) (s:St):St:=
 bif s.bx.any (fun(_,cs)=>cs.any isZ)&&ops.any (wantsU P) then unzL s (s.bx.flatMap fun(_,cs)=>zLabs cs) else s
def dz (d:Nat):Nat:=d+500000000
def St.put (s:St) (d:Option Nat) (v:V):St:=match d with|some d=>⟨s.fr.set d v,s.bx⟩|none=>s
def gG (d:Nat):Bool→List V→List V
 |_,[]=>[]
 |true,.sl e sh (some _) xs::l=> .sl e sh (some d) xs::gG d false l
 |b,.sl e sh _ xs::l=> .sl e sh none xs::gG d b l
 |b,v::l=>v::gG d b l
def V.OY (d:Nat):V→V
 | .sl e sh (some _) xs=> .sl e sh (some d) xs
 | .tup vs=> .tup (gG d true vs)
 |v=>v
section
variable {α:Type}
def altK (i:Int) (K:V→Option α):Nat→List V→Option α
 |_,[]=>none
 |j,v::l=>sel (ieq i (j:Int)) (K v) (altK i K (j+1) l)
abbrev Caller (α:Type):=Nat→List V→(V→Option α)→Option α
def fF (any:Bool) (L n:Nat):Nat:=bif any&&Nat.ble HL L then HL+n else n
def qx (s:St):List Nat→St
 |[]=>s
 |L::l=>qx (s.kill L) l
def J6 (mb ml:List (Nat×Nat)):List (Nat×Nat)→List (List V)→List (Nat×List V)→List (Nat×List V)
 |(k,_)::l,cs::bs,bx=>J6 mb ml l bs (gN bx k (cs.map (V.ren mb ml)))
 |_,_,bx=>bx
def FX (any:Bool) (d:Nat) (x:V):List (Nat×Nat)→List (List V)→List (Nat×Nat)
 |(k,_)::l,cs::bs=>qp (fun L i=>fF any L (10000*(k%HL+1)+i)) 0 cs++FX any d x l bs
 |_,_=>qp (fun L i=>fF any L (match i with|0=>d|_=>d+1000*i)) 0 (Ch x)
def o7:List Nat→List (Nat×Nat)→List (Nat×Nat)
 |_,[]=>[]
 |done,(L,n)::l=>bif done.contains L then o7 done l else(L,n)::o7 (L::done) l
def eU (l:List (Nat×Nat)):List (Nat×Nat):=l.map fun(a,b)=>(b,a)
def xN:List (Nat×Nat)→Bool
 |[]=>false
 |(L,_)::l=>Nat.ble HL L||xN l
def dOr:Option Nat→Nat
 |some d=>d
 |none=>0
def Vx (s:St) (d:Option Nat) (mb ml:List (Nat×Nat)) (x:V) (bs:List (List V)) (Ca:List (Nat×Nat)):Option St:=
 bif qR (Ca.map (·.2))&&bs.length==mb.length then
  let s1:=qx (qx s (ml.map (·.1))) (Ca.map (·.2))
  some (St.put ⟨s1.fr,J6 (eU mb) Ca mb bs s1.bx⟩ d (x.ren (eU mb) Ca))
 else none
def o8 (s:St) (d:Option Nat) (mb ml:List (Nat×Nat)) (x:V) (bs:List (List V)):Option St:=
 Vx s d mb ml x bs (o7 [] (FX (xN ml) (dOr d) x mb bs))
def nG:V→Option Value
 | .bool b=>some (.bool b)
 | .int k n=>some (.int k n)
 |_=>none
def nH:List V→Option (List Value)
 |[]=>some []
 |v::l=>match nG v,nH l with
  |some v,some l=>some (v::l)
  |_,_=>none
def cr:V→Option Value
 | .iface t (.agg cs)=>match nH cs with|some l=>some (.iface t (.agg l.toArray))|none=>none
 | .iface t v=>match nG v with|some v=>some (.iface t v)|none=>none
 |_=>none
def keepV:V→Bool
 | .tup []=>true
 | .bool _=>true
 | .int _ _=>true
 | .str _=>true
 |_=>false
def effK (dr:Bool) (call:Caller α) (s:St) (d:Option Nat) (eff:Eff) (K:St→Option α) (KP:V→St→Option α):Option α:=
 match eff with
 | .val v=>K (s.put d v)
 | .newSl e sh xs=>K (s.put d (.sl e sh none xs))
 | .own e sh xs=>match d with
  |some d=>bif (s.put (some d) .any).bA d&&Nat.blt d HL then K (s.put (some d) (.sl e sh (some d) xs)) else none
  |none=>none
 | .app L e sh xs=>match d with
  |some d=>bif (s.kill L).bA (fF true L d)&&Nat.blt d HL then K ((s.kill L).put (some d) (.sl e sh (some (fF true L d)) xs)) else none
  |none=>none
 | .nS _ cs=>match d with
  |some d=>bif s.mo d&&cs.all (fun v=>aK (v.gF d))&&Nat.blt d HL then K ⟨s.fr.set d (.box d 0),(d,cs)::s.bx⟩ else none
  |none=>none
 | .put k off cs=>match ax s.bx k with
  |some old=>bif jB (over old off cs)&&aK (jB old) then none else K (St.put ⟨s.fr,gN s.bx k (over old off cs)⟩ d (.tup []))
  |none=>none
 | .call f args mb ml=>call f args fun r=>match r with
  | .out p x bs=>bif dr then none else(match p with
   |true=>match o8 s none mb ml x bs with
    |some s'=>(match cr x with|some _=>KP x s'|none=>none)
    |none=>none
   |false=>match o8 s d mb ml x bs with
    |some s'=>K s'
    |none=>none)
  | .keep p x=>bif dr then none else(match p with
   |true=>(match cr x with|some _=>KP x s|none=>none)
   |false=>bif keepV x then K (s.put d x) else none)
  |r=>bif iF args then none else(match d with
   |some d=>bif s.bA d&&Nat.blt d HL then K (s.put (some d) (r.OY d)) else none
   |none=>K s)
 | .oL v=>bif dr then none else(match cr v with|some _=>KP v s|none=>none)
 | .pick b x y=>sel b (K (s.put d x)) (K (s.put d y))
 | .alts i vs=>altK i (fun v=>K (s.put d v)) 0 vs
 | .FE L e k ys=>bif Nat.blt L HL then K ((s.forget.upd L e k ys).put d (.tup [])) else none
 | .ownz e sh xs c e2 bG=>match d with
  |some d=>bif (s.put (some d) .any).bA d&&((s.put (some d) .any).bA (dz d)&&Nat.blt (dz d) HL) then K (s.put (some d) (.slz d e sh xs (some (dz d)) 0 c e2 bG [])) else none
  |none=>none
 | .appz L e sh xs i c e2 bG=>match d with
  |some d=>bif (s.kill L).bA (fF true L d)&&((s.kill L).bA (dz d)&&Nat.blt (dz d) HL) then K ((s.kill L).put (some d) (.slz (fF true L d) e sh xs (some (dz d)) i c e2 bG [])) else none
  |none=>none
 | .FF L e sh xs i c L3 e2 bG ys=>K ((s.Cf L e sh xs i c L3 e2 bG ys).put d (.tup []))
def L9:Eff→Bool
 | .put _ _ _=>true
 | .app _ _ _ _=>true
 | .FE _ _ _ _=>true
 | .oL _=>true
 | .ownz _ _ _ _ _ _=>true
 | .appz _ _ _ _ _ _ _ _=>true
 | .FF _ _ _ _ _ _ _ _ _ _=>true
 |_=>false
def evOp (E:Env) (call:Caller α) (dr:Option (List (Nat×List V))) (o:Oper) (s:St) (K:St→Option α) (KP:V→St→Option α):Option α:=
 match EA E s.fr (match dr with|some b=>b|none=>s.bx) o with
 |none=>none
 |some (c,eff)=>bif dr.isSome&&L9 eff then none else sel c (effK dr.isSome call s o.dst eff K KP) none
def guardV (ops:List Oper) (s:St) (o:Oper) (j:Nat) (want:Bool) (yes no:St→Option α):Option α:=
 match ops[j]? with
 |none=>none
 |some oj=>match oj.dst with
  |none=>none
  |some d=>match slot s.fr d with
   | .bool b=>sel b ((match want with|true=>yes|false=>no) ⟨s.fr.set d (.bool true),s.bx⟩) ((match want with|true=>no|false=>yes) ⟨s.fr.set d (.bool false),s.bx⟩)
   | .tup []=>no s
   |_=>none
def Ma {β:Type}:List V→(List V→β)→β
 |[],k=>k []
 |v::l,k=>Ma l fun l=>k (v::l)
def pf (K:St→Option α) (s:St):Option α:=Ma s.fr fun fr=>K ⟨fr,s.bx⟩
def ny (E:Env) (call:Caller α) (ops:List Oper) (bx:Option (List (Nat×List V))) (KP:V→St→Option α):List Oper→St→(St→Option α)→Option α
 |[],s,K=>K s
 |o::l,s,K=>
  match o.guard with
  |none=>evOp E call bx o s (pf fun s=>ny E call ops bx KP l s K) KP
  |some (j,want)=>guardV ops s o j want (pf fun s=>evOp E call bx o s (pf fun s=>ny E call ops bx KP l s K) KP)
   (pf fun s=>pf (fun s=>ny E call ops bx KP l s K) (s.put o.dst (.tup [])))
def tmpsOf (l:List Operand):List Nat:=l.filterMap fun| .tmp t=>some t|_=>none
def u6 (o:Oper):List Nat:=tmpsOf o.op.operands.toList
def ZZ:Code→List Nat
 | .region _ ops _=>ops.toList.flatMap u6
 | .seq a b=>ZZ a++ZZ b
 | .cond c a b=>tmpsOf [c]++ZZ a++ZZ b
 | .block _ b=>ZZ b
 | .loop b=>ZZ b
 | .scope b=>ZZ b
 | .rangeFunc f _ a b=>tmpsOf [f]++ZZ a++ZZ b
 |_=>[]
def wrC:Code→List Nat
 | .region _ ops _=>ops.toList.filterMap (·.dst)
 | .seq a b=>wrC a++wrC b
 | .cond _ a b=>wrC a++wrC b
 | .block _ b=>wrC b
 | .loop b=>wrC b
 | .scope b=>wrC b
 | .rangeFunc _ ps a b=>ps.toList++wrC a++wrC b
 |_=>[]
def exOps:List Oper→List Nat→List Nat×List Nat
 |[],W=>([],W)
 |o::l,W=>let r:=exOps l (o.dst.toList++W);((u6 o).filter (fun t=>!W.contains t)++r.1,r.2)
def exC:Code→List Nat→List Nat×List Nat
 | .region _ ops _,W=>exOps ops.toList W
 | .seq a b,W=>let x:=exC a W;let y:=exC b x.2;(x.1++y.1,y.2)
 | .cond c a b,W=>let x:=exC a W;let y:=exC b W;((tmpsOf [c]).filter (fun t=>!W.contains t)++x.1++y.1,x.2.filter y.2.contains)
 | .block _ b,W=>((exC b W).1,W)
 | .loop b,W=>((exC b W).1,W)
 | .scope b,W=>((exC b W).1,W)
 | .rangeFunc f _ a b,W=>((tmpsOf [f])++(exC a W).1++(exC b W).1,W)
 |_,W=>([],W)
def uncOps:List Oper→List Nat→List Nat
 |[],_=>[]
 |o::l,W=>(u6 o).filter (fun t=>!W.contains t)++uncOps l (o.dst.toList++W)
def FH:Code→List Nat
 | .region _ ops _=>uncOps ops.toList []
 | .seq a b=>FH a++FH b
 | .cond _ a b=>FH a++FH b
 | .block _ b=>FH b
 | .loop b=>FH b
 | .scope b=>FH b
 | .rangeFunc f _ a b=>tmpsOf [f]++FH a++FH b
 |_=>[]
def Ck (tot unc:List Nat) (n:Nat) (body:Code):List Nat:=
 let rd:=ZZ body
 let ex:=(exC body []).1
 let wr:=wrC body
 (List.range n).filter fun t=>!unc.contains t||(wr.contains t&& !ex.contains t&&tot.count t==rd.count t)
def sM (L i:Nat):V→V
 | .sl e sh (some L') xs=>bif L==L' then .sl e sh (some i) xs else .sl e sh (some L') xs
 | .eptr L' e sh xs j off=>bif L==L' then .eptr i e sh xs j off else .eptr L' e sh xs j off
 | .slz L' e sh xs o2 j c e2 bG ys=> .slz (bif L==L' then i else L') e sh xs (renO L i o2) j c e2 bG ys
 | .epz L' e sz j off=> .epz (bif L==L' then i else L') e sz j off
 |v=>v
def V.canon (L i:Nat):V→V
 | .tup vs=> .tup (vs.map (sM L i))
 | .fn f vs=> .fn f (vs.map (sM L i))
 |v=>sM L i v
def St.canon (s:St) (L i:Nat):St:=⟨s.fr.map (V.canon L i),s.bx.map fun(k,cs)=>(k,cs.map (V.canon L i))⟩
def jT:List V→Nat→List Nat→St→St
 |[],_,_,s=>s
 | .sl _ _ (some L) _::l,i,done,s=>bif done.contains L||L==fF true L i then jT l (i+1) (L::done) s else
  bif s.bA (fF true L i)&&Nat.blt i HL then jT l (i+1) (L::done) (s.canon L (fF true L i)) else jT l (i+1) (L::done) s
 |_::l,i,done,s=>jT l (i+1) done s
def Gl (n L:Nat) (s:St):St:=bif L==fF true L n||s.fr.any (fun v=>v.dI L) then s else
 bif s.bA (fF true L n)&&Nat.blt n HL then s.canon L (fF true L n) else s
def nU (b:Nat):List V→Nat→St→St
 |[],_,s=>s
 | .sl _ _ (some L) _::l,i,s=>bif L==fF true L (b+i)||s.fr.any (fun v=>v.dI L) then nU b l (i+1) s else
  bif s.bA (fF true L (b+i))&&Nat.blt (b+i) HL then nU b l (i+1) (s.canon L (fF true L (b+i))) else nU b l (i+1) s
 | .slz L _ _ _ o2 _ _ _ _ _::l,i,s=>
  nU b l (i+1) (match o2 with
   |some L2=>Gl (b+i+5000) L2 (Gl (b+i) L s)
   |none=>Gl (b+i) L s)
 |_::l,i,s=>nU b l (i+1) s
def Fa:List (Nat×List V)→St→St
 |[],s=>s
 |(k,cs)::l,s=>Fa l (nU (10000*(k%HL+1)) cs 0 s)
def Cm (mask:List Nat):List V→Nat→List V
 |[],_=>[]
 |v::l,i=>(bif mask.contains i then .any else v)::Cm mask l (i+1)
def Mb {β:Type}:List Nat→(List Nat→β)→β
 |[],k=>k []
 |a::l,k=>Mb l fun l=>k (a::l)
theorem Kl {β:Type}: ∀(l:List Nat) (k:List Nat→β),Mb l k=k l
 |[],_=>rfl
 |a::l,k=>by unfold Mb;exact Kl l _
def Gm (mask:List Nat) (s:St):St:=Mb mask fun mask=>
 let fr:=Cm mask s.fr 0
 let s1:=jT fr 0 [] ⟨fr,s.bx.filter fun(k,_)=>!mask.contains k||fr.any (V.gF k)⟩
 Fa s1.bx s1
inductive Ex where
 |norm|exit (id:Nat)|ret|oL (v:V)
def seqK (b:Code) (K:Ex→St→Option α) (next:St→Option α):Ex→St→Option α
 | .norm,s=>next s
 |e,s=>K e s
def blockK (id:Nat) (K:Ex→St→Option α):Ex→St→Option α
 | .exit i,s=>bif i==id then K .norm s else K (.exit i) s
 |e,s=>K e s
def nV (n:Nat) (ops:List Oper):Bool:=
 let idx:=ops.zipIdx
 idx.all fun(o,i)=>
  (match o.dst with|some d=>Nat.blt d n|none=>false)&&
  idx.all (fun(o',j)=>i==j||o.dst != o'.dst)&&
  o.after.toList.all (fun e=>!Region.binds .any e||Nat.blt e.on i)&&
  (u6 o).all (fun t=>idx.all fun(o',j)=>o'.dst != some t||(Nat.blt j i&&o.after.toList.any fun e=>Region.binds .any e&&e.on==j))&&
  (match o.guard with|none=>true|some (j,_)=>Nat.blt j i&&o.after.toList.any fun e=>Region.binds .any e&&e.on==j)
def waits (ops:List Oper):Nat→Nat→Nat→Bool
 |0,_,_=>false
 |n+1,j,i=>match ops[j]? with
  |some o=>o.after.toList.any fun e=>Region.binds .any e&&(e.on==i||waits ops n e.on i)
  |none=>false
def addN (l:List Nat):List Nat→List Nat
 |[]=>l
 |a::m=>bif l.contains a then addN l m else addN (a::l) m
def fM (o:Oper):List Nat:=(o.after.toList.filter fun e=>Region.binds .any e).map (·.on)
def zi:List Nat→(List Nat→Bool)→Bool
 |[],k=>k []
 |a::l,k=>zi l fun l=>k (a::l)
def Mc (ops:List Oper):Nat→List Nat→Bool
 |0,_=>true
 |i+1,S=>bif S.contains i then zi (addN S (match ops[i]? with|some o=>fM o|none=>[])) (fun S=>Mc ops i S) else false
def AJ (ops:List Oper) (j:Nat):Bool:=match ops[j]? with
 |some o=>(fM o).all (fun e=>Nat.blt e j)&&zi (fM o) fun S=>Mc ops j S
 |none=>false
def lJ:List Oper→Nat
 |[]=>0
 |o::l=>match o.dst with|some _=>lJ l+1|none=>0
def Md (ops:List Oper):Nat→Nat
 |0=>0
 |k+1=>bif AJ ops k then Md ops k else k+1
def fA (ops:List Oper):Nat:=Md ops (lJ ops)
def Me (ops:List Oper):Nat→Nat→Bool
 |_,0=>true
 |m,n+1=>AJ ops m&&Me ops (m+1) n
def mG (ops:List Oper) (m:Nat):Bool:=Me ops m (ops.length-m)
def OZ (ops:Array Oper) (l:Nat):Bool:=match ops[l]? with
 |some o=>(match o.op with| .extract _ _=>true|_=>false)&&(match o.guard with|none=>true|some _=>false)&&
  (List.range ops.size).all fun j=>j==l||(match ops[j]? with|some oj=>(fM o).contains j||(fM oj).contains l||o.apart ops oj|none=>true)
 |none=>false
def AL (ops:List Oper) (late:Nat→Bool):Nat→List Nat→Bool
 |0,_=>true
 |i+1,S=>bif S.contains i then zi (addN S (match ops[i]? with|some o=>fM o|none=>[])) (fun S=>AL ops late i S) else late i&&AL ops late i S
def GG (ops:List Oper) (late:Nat→Bool) (j:Nat):Bool:=match ops[j]? with
 |some o=>(fM o).all (fun e=>Nat.blt e j)&&zi (fM o) fun S=>AL ops late j S
 |none=>false
def AO (ops:List Oper) (late:Nat→Bool):Nat→Nat→Bool
 |_,0=>true
 |m,n+1=>GG ops late m&&AO ops late (m+1) n
def O0 (ops:Array Oper) (m i:Nat):Bool:=Nat.blt i m&&OZ ops i
def zz (ops:Array Oper) (m:Nat):Bool:=Region.noSelect ops&&AO ops.toList (O0 ops m) m (ops.toList.length-m)
def dN (ops:List Oper) (s:St):Bool:=ops.all fun o=>match o.dst with|some d=>s.bA d&&s.mo d|none=>false
def jR (ops:List Oper) (s:St):Bool:=
 let idx:=ops.zipIdx
 idx.all (fun(oi,i)=>match oi.dst with
  |none=>false
  |some di=>idx.all (fun(oj,j)=>match oj.dst with
    |none=>false
    |some dj=>i==j||(aK ((slot s.fr dj).dI di)&&aK ((slot s.fr dj).gF di))||waits ops ops.length j i)&&
   s.bx.all fun(k,cs)=>(cs.all fun v=>aK (v.dI di)&&aK (v.gF di))||idx.any fun(oj,j)=>oj.dst==some k&&waits ops ops.length j i)
def Mf (ops:List Oper) (m:Nat):Bool:=match ops[m]? with
 |some p=>(match p.dst with|none=>true|some _=>false)&&(match p.guard with|none=>true|some _=>false)&&p.after.toList.all (fun e=>!Region.binds .any e)&&
  (u6 p).all (fun t=>(ops.take m).all fun o=>o.dst != some t)
 |none=>false
def u7:List (Nat×List V)→Nat→List (Nat×List V)
 |[],_=>[]
 |(k,cs)::l,j=>bif k==j then u7 l j else(k,cs)::u7 l j
def Dn (b:Code) (body:St→(Ex→St→Option α)→Option α) (mask:List Nat) (K:Ex→St→Option α):Nat→St→Option α
 |0,_=>none
 |n+1,s=>body s fun e s'=>match e with
  | .norm=>pf (Dn b body mask K n) (Gm mask s')
  |e=>K e s'
def isSlT (P:Program) (t:TypeId):Bool:=match P.underlying t with|some (.slice _)=>true|_=>false
def fldNZ (P:Program) (t:TypeId) (f:Nat):Bool:=match P.underlying t with
 |some (.struct fs)=>match fs[f]? with
  |some fd=>match P.info? fd.type with
   |some i=>i.size != 0
   |none=>false
  |none=>false
 |_=>false
def AP (P:Program) (o:Oper):Bool:=
 (match o.op with| .move _=>true| .nilCheck _=>true| .slice t _ _ _ none=>isSlT P t| .makeFunc _ _ _=>true| .fieldAddr t _ f=>fldNZ P t f|_=>false)&&(match o.guard with|none=>true|some _=>false)&&(match o.dst with|some _=>true|none=>false)
def wu (P:Program) (ops:Array Oper) (L:List Nat) (l:Nat):Bool:=match ops[l]? with
 |some o=>AP P o&&(fM o).all (fun e=>L.contains e)&&
  (List.range ops.size).all fun j=>j==l||(match ops[j]? with|some oj=>(fM o).contains j||(fM oj).contains l||o.apart ops oj|none=>true)
 |none=>false
def o9 (P:Program) (ops:Array Oper):List Nat→List Nat→List Nat
 |[],L=>L
 |l::r,L=>bif wu P ops L l then o9 P ops r (L++[l]) else o9 P ops r L
def dD (P:Program) (ops:Array Oper):List Nat:=o9 P ops (List.range ops.size) []
def fK (ops:Array Oper) (L:List Nat):List Nat:=(List.range ops.size).filter fun i=>!L.contains i
def OD (p:List Nat) (o:Oper):Oper:=
 {o with after:=((o.after.toList.filter fun e=>p.contains e.on).map fun e=>{e with on:=p.idxOf e.on}).toArray,guard:=o.guard.map fun g=>(p.idxOf g.1,g.2)}
def dm (ops:Array Oper) (p:List Nat):Array Oper:=(p.map fun i=>OD p (ops.getD i default)).toArray
def J7 (ops:Array Oper) (p:List Nat):Bool:=
 ops.toList.all fun o=>(match o.guard with|some (j,_)=>p.contains j|none=>true)&&o.after.toList.all fun e=>Nat.blt e.on ops.size
def evH {α:Type} (E:Env):List Oper→St→(St→Option α)→Option α
 |[],s,K=>K s
 |o::l,s,K=>match EA E s.fr s.bx o with
  |some (c,.val v)=>sel c (evH E l (s.put o.dst v) K) none
  |_=>none
def plainO (o:Oper):Bool:=match o.op with
 | .call c=>(match c.callee with| .builtin .append=>false|_=>true)
 | .store _ _ _=>false
 |_=>true
def callsF (o:Oper):Bool:=match o.op with
 | .call c=>(match c.callee with| .value _=>true|_=>false)
 |_=>false
def isClo:V→Bool
 | .fn f (_::_)=>Nat.blt f yP
 |_=>false
def mkClo (o:Oper):Bool:=match o.op with
 | .makeFunc _ _ bJ=>bJ.size != 0
 |_=>false
def noClo (s:St) (l:List Oper):Bool:=!(l.any callsF&&l.any fun o=>mkClo o||(u6 o).any fun t=>isClo (slot s.fr t))
def Gn (s:St) (l:List Oper):Bool:=l.all plainO&&noClo s l
def SX (n:Nat) (ops:List Oper) (s:St):Bool:=Gn s (ops.take (fA ops))&&nV n (ops.take (fA ops))&&mG ops (fA ops)&&dN (ops.take (fA ops)) s
structure Rd where
 tot:List Nat
 unc:List Nat
 ord:Bool
def evReg (E:Env) (call:Caller α) (ops:Array Oper) (s:St) (K:Ex→St→Option α) (FB:St→Option α):Option α:=
 bif Gn s (ops.toList.take (fA ops.toList))&&(nV s.fr.length (ops.toList.take (fA ops.toList))&&mG ops.toList (fA ops.toList)&&dN (ops.toList.take (fA ops.toList)) s) then
   ny E call ops.toList (some s.bx) (fun _ _=>none) (ops.toList.take (fA ops.toList)) s fun s'=>bif jR (ops.toList.take (fA ops.toList)) s' then ny E call ops.toList none (fun v s=>K (.oL v) s) (ops.toList.drop (fA ops.toList)) s' fun s=>K .norm s else none
  else bif Gn s (ops.toList.take (fA ops.toList))&&(nV s.fr.length (ops.toList.take (fA ops.toList))&&zz ops (fA ops.toList)&&dN (ops.toList.take (fA ops.toList)) s) then
   ny E call ops.toList (some s.bx) (fun _ _=>none) (ops.toList.take (fA ops.toList)) s fun s'=>bif jR (ops.toList.take (fA ops.toList)) s' then ny E call ops.toList none (fun _ _=>none) (ops.toList.drop (fA ops.toList)) s' fun s=>K .norm s else none
  else bif Mf ops.toList (lJ ops.toList)&&nV s.fr.length (ops.toList.take (lJ ops.toList))&&mG ops.toList (lJ ops.toList+1) then
   (match ops.toList[lJ ops.toList]? with
   |some p=>match EA E s.fr s.bx p with
    |some (c,.put k off cs)=>sel c (match ax s.bx k with
     |some old=>bif (bif jB (over old off cs) then jB old else true)&&dN (ops.toList.take (lJ ops.toList)) s&&dN (ops.toList.take (lJ ops.toList)) ⟨s.fr,gN s.bx k (over old off cs)⟩ then
       ny E call ops.toList (some (u7 s.bx k)) (fun _ _=>none) (ops.toList.take (lJ ops.toList)) ⟨s.fr,gN s.bx k (over old off cs)⟩ fun s'=>
        bif jR (ops.toList.take (lJ ops.toList)) s'&&jR (ops.toList.take (lJ ops.toList)) ⟨s'.fr,gN s'.bx k old⟩ then ny E call ops.toList none (fun v s=>K (.oL v) s) (ops.toList.drop (lJ ops.toList+1)) s' fun s=>K .norm s else none
      else none
     |none=>none) none
    |_=>none
   |none=>none)
  else bif Region.noSelect ops&&J7 ops (fK ops (dD E.P ops)) then
   evH E ((dD E.P ops).map fun i=>ops.getD i default) s fun s=>bif SX s.fr.length (dm ops (fK ops (dD E.P ops))).toList s then
    ny E call (dm ops (fK ops (dD E.P ops))).toList (some s.bx) (fun _ _=>none) ((dm ops (fK ops (dD E.P ops))).toList.take (fA (dm ops (fK ops (dD E.P ops))).toList)) s fun s'=>
     bif jR ((dm ops (fK ops (dD E.P ops))).toList.take (fA (dm ops (fK ops (dD E.P ops))).toList)) s' then
      ny E call (dm ops (fK ops (dD E.P ops))).toList none (fun _ _=>none) ((dm ops (fK ops (dD E.P ops))).toList.drop (fA (dm ops (fK ops (dD E.P ops))).toList)) s' fun s=>K .norm s else none
    else FB s
  else none
noncomputable def both {α:Type} (a b:Option α):Option α:=@ite _ (a=b) (Classical.propDecidable _) a none
noncomputable def allK {α:Type} (f:Nat→Option α):List Nat→Option α
 |[]=>none
 |[i]=>f i
 |i::j::l=>both (f i) (allK f (j::l))
def Mg (ops:List Oper) (L:List Nat):List Nat:=(List.range ops.length).filter fun i=>!L.contains i&&(match ops[i]? with|some o=>(fM o).all (fun e=>L.contains e)|none=>false)
noncomputable def J8 (E:Env) (call:Caller α) (ops:List Oper) (K:St→Option α):Nat→List Nat→St→Option α
 |0,_,_=>none
 |n+1,L,s=>match Mg ops L with
  |[]=>K s
  |i::l=>allK (fun i=>match ops[i]? with|some o=>ny E call ops none (fun _ _=>none) [o] s fun s=>J8 E call ops K n (i::L) s|none=>none) (i::l)
noncomputable def ev (E:Env) (call:Caller α) (rd:Rd) (fuel:Nat):Code→St→(Ex→St→Option α)→Option α
 | .skip,s,K=>K .norm s
 | .region _ ops false,s,K=>ny E call ops.toList none (fun v s=>K (.oL v) s) ops.toList (preZ E.P ops.toList s) fun s=>K .norm s
 | .region _ ops true,s,K=>evReg E call ops (preZ E.P ops.toList s) K fun s=>bif rd.ord then J8 E call (dm ops (fK ops (dD E.P ops))).toList (K .norm) ((dm ops (fK ops (dD E.P ops))).size+1) [] s else none
 | .seq a b,s,K=>ev E call rd fuel a s (seqK b K fun s=>ev E call rd fuel b s K)
 | .cond c a b,s,K=>match nu E s.fr c with
  | .bool t=>sel t (ev E call rd fuel a s K) (ev E call rd fuel b s K)
  |_=>none
 | .block id b,s,K=>ev E call rd fuel b s (blockK id K)
 | .loop b,s,K=>Dn b (fun s K=>ev E call rd fuel b s K) (Ck rd.tot rd.unc s.fr.length b) K fuel (Gm (Ck rd.tot rd.unc s.fr.length b) s)
 | .exit id,s,K=>K (.exit id) s
 | .label _,s,K=>K .norm s
 | .ret,s,K=>K .ret s
 |_,_,_=>none
def loopC (b:Code) (body:St→(Ex→St→Option α)→Option α) (mask:List Nat) (K:Ex→St→Option α) (n:Nat):Ex→St→Option α
 | .norm,s=>pf (Dn b body mask K n) (Gm mask s)
 |e,s=>K e s
def cAt:List Nat→Code→Code
 |[],c=>c
 |i::p,c=>match c with
  | .seq a b=>cAt p (match i with|0=>a|_=>b)
  | .cond _ a b=>cAt p (match i with|0=>a|_=>b)
  | .block _ b=>cAt p b
  | .loop b=>cAt p b
  | .scope b=>cAt p b
  |c=>c
noncomputable def Xi (E:Env) (call:Caller α) (rd:Rd) (fuel nt:Nat):List Nat→Code→List Nat→(Ex→St→Option α)→(Ex→St→Option α)
 |[],_,_,K=>K
 |i::p,c,ns,K=>match c with
  | .seq a b=>match i with
   |0=>Xi E call rd fuel nt p a ns (seqK b K fun s=>ev E call rd fuel b s K)
   |_=>Xi E call rd fuel nt p b ns K
  | .cond _ a b=>Xi E call rd fuel nt p (match i with|0=>a|_=>b) ns K
  | .block id b=>Xi E call rd fuel nt p b ns (blockK id K)
  | .loop b=>match ns with
   |n::ns=>Xi E call rd fuel nt p b ns (loopC b (fun s K=>ev E call rd fuel b s K) (Ck rd.tot rd.unc nt b) K n)
   |[]=>K
  |_=>K
def A9 (fn:Func):List Nat:=fn.results.toList.map fun| .tmp t=>t| .cell a _=>a
def V.O1:V→Option V
 | .fn _ _=>none
 |v=>v.deep
def xO (P:Program) (s:St):ResultVar→Option V
 | .tmp t=>match(slot s.fr t).Dk with
  | .sl e sh o xs=>some (.sl e sh o xs)
  |v=>v.O1
 | .cell a t=>match slot s.fr a with
  | .box k off=>match ax s.bx k with
   |some cells=>match bM P t with
    |some true=>match dn P t with
     |some n=>match Gf cells off n with
      |some cs=>some (.agg cs)
      |none=>none
     |none=>none
    |some false=>bif Nat.blt off cells.length then(cells.getD off .any).O1 else none
    |none=>none
   |none=>none
  |_=>none
def rq (P:Program) (s:St):List ResultVar→Option (List V)
 |[]=>some []
 |x::l=>match xO P s x with
  |none=>none
  |some v=>match rq P s l with
   |none=>none
   |some r=>some (v::r)
def O3:List V→V
 |[v]=>v
 |vs=> .tup (gG 0 true vs)
def nZ (s:St):Nat→List V→Option (List (List V))
 |_,[]=>some []
 |j,.bxa _ _::l=>match ax s.bx (HL+j),nZ s (j+1) l with
  |some cs,some bs=>some (cs::bs)
  |_,_=>none
 |j,_::l=>nZ s (j+1) l
def Xj:Nat→List (List V)→List (Nat×Nat)
 |_,[]=>[]
 |j,cs::bs=>qp (fun L i=>fF true L (1000*(j+1)+1+i)) 0 cs++Xj (j+1) bs
def jO:Nat→List V→List (Nat×Nat)
 |_,[]=>[]
 |j,.bxa _ _::l=>(HL+j,HL+j)::jO (j+1) l
 |j,_::l=>jO (j+1) l
def qy (p:Bool) (x:V) (s:St) (args:List V) (K:V→Option α):Option α:=
 match nZ s 0 args with
 |some bs=>
  let ml:=o7 [] (qp (fun L i=>fF true L i) 0 (Ch x)++Xj 0 bs)
  let mb:=jO 0 args
  bif qR (ml.map (·.2)) then K (.out p (x.ren mb ml) (bs.map fun cs=>cs.map (V.ren mb ml))) else none
 |none=>none
def Va:List V→V
 |[v]=>v
 |vs=> .tup vs
def Sm:V→Option Kd
 | .bool _=>some .bool
 | .int k _=>some (.int k)
 | .str _=>some .str
 | .sl e sh _ _=>bif Kd.qV sh sh then some (.sl e sh) else none
 |_=>none
def J9:List V→Option (List Kd)
 |[]=>some []
 |v::l=>match Sm v,J9 l with
  |some k,some ks=>some (k::ks)
  |_,_=>none
def FY (s:St):List ResultVar→Option V
 |[.tmp t]=>match slot s.fr t with
  | .box k off=>bif off==0 then(match ax s.bx k with
   |some cells=>match J9 cells with
    |some sh=>match V.xJ cells with
     |some cs=>some (.rptr sh (.agg cs) 0)
     |none=>none
    |none=>none
   |none=>none) else none
  |_=>none
 |_=>none
def Jb (P:Program) (fn:Func) (args:List V) (K:V→Option α):Ex→St→Option α
 | .norm,s=>match rq P s fn.results.toList with|some vs=>(bif handed args then qy false (Va vs) s args K else K (O3 vs))|none=>bif handed args then none else(match FY s fn.results.toList with|some r=>K r|none=>none)
 | .ret,s=>match rq P s fn.results.toList with|some vs=>(bif handed args then qy false (Va vs) s args K else K (O3 vs))|none=>bif handed args then none else(match FY s fn.results.toList with|some r=>K r|none=>none)
 | .oL v,s=>match cr v with|some _=>qy true v s args K|none=>none
 |_,_=>none
abbrev aG:=List V→Option (Bool×V)
def rdOf (fn:Func) (c:Code):Rd:=⟨A9 fn++ZZ c,A9 fn++FH c,false⟩
def Sn (o:Bool) (fn:Func) (c:Code):Rd:=⟨A9 fn++ZZ c,A9 fn++FH c,o⟩
def fV:List (Nat×aG)→Nat→Option aG
 |[],_=>none
 |(f,s)::l,g=>bif f==g then some s else fV l g
def AQ (fn:Func) (args:List V):List V:=args++List.replicate (fn.ntmps-args.length) (.tup [])
def MR:Code→Option (Code×Oper×Oper×Code)
 | .seq a (.seq (.region _ ops false) b)=>match ops.toList with
  |[o1,o2]=>match o2.op with
   | .defer _=>some (a,o1,o2,b)
   |_=>none
  |_=>none
 |_=>none
noncomputable def O4 (o:Bool) (E:Env) (call:Caller α) (fuel f:Nat) (args:List V) (rec:V) (K:V→Option α):Option α:=
 match E.P.funcs[f]? with
 |none=>none
 |some fn=>match fn.body with
  |some c=>match c with
   | .seq (.region _ ops false) b=>match ops.toList with
    |[op]=>match op.op,op.guard,op.dst,fn.results.toList with
     | .call cl,none,some d,[]=>match cl.callee,cl.args.toList with
      | .builtin .recover,[]=>ev E call (Sn o fn c) fuel b (St.put ⟨AQ fn (bI 0 args),dH 0 args⟩ (some d) rec) fun e s=>match e with
       | .norm=>qy false (.tup []) s args K
       | .ret=>qy false (.tup []) s args K
       |_=>none
      |_,_=>none
     |_,_,_,_=>none
    |_=>none
   |_=>none
  |none=>none
noncomputable def dfK (o:Bool) (E:Env) (call:Caller α) (fuel:Nat) (fn:Func) (g:Nat) (bJ args:List V) (K:V→Option α) (rec:V) (s:St):Option α:=
 match o5 s.bx 0 bJ with
 |some (as,mb,ml)=>bif oZ mb ml then
   O4 o E call fuel g as rec fun r=>match r with
    | .out false x bs=>match o8 s none mb ml x bs with
     |some s'=>Jb E.P fn args K .ret s'
     |none=>none
    |_=>none
  else none
 |none=>none
noncomputable def dfEx (o:Bool) (E:Env) (call:Caller α) (fuel:Nat) (fn:Func) (g:Nat) (bJ args:List V) (K:V→Option α):Ex→St→Option α
 | .norm,s=>dfK o E call fuel fn g bJ args K .nilif s
 | .ret,s=>dfK o E call fuel fn g bJ args K .nilif s
 | .oL v,s=>match cr v with|some _=>dfK o E call fuel fn g bJ args K v s|none=>none
 |_,_=>none
def rbV (k k':Nat):V→V
 | .box j off=>bif j==k then .box k' off else .box j off
 |v=>v
def V.rb (k k':Nat):V→V
 | .tup vs=> .tup (vs.map (rbV k k'))
 | .fn f vs=> .fn f (vs.map (rbV k k'))
 |v=>rbV k k' v
def rbBx (k k':Nat):List (Nat×List V)→List (Nat×List V)
 |[]=>[]
 |(j,cs)::l=>(bif j==k then k' else j,cs.map (V.rb k k'))::rbBx k k' l
def St.rb (s:St) (k k':Nat):St:=⟨s.fr.map (V.rb k k'),rbBx k k' s.bx⟩
def qD:Nat→List V→St→Option St
 |_,[],s=>some s
 |j,.box k 0::l,s=>bif s.mo (HL+5000+j)&&Nat.blt k HL then qD (j+1) l (s.rb k (HL+5000+j)) else none
 |_,_,_=>none
def kQ:Nat→List V→List V
 |_,[]=>[]
 |j,_::l=> .box (HL+5000+j) 0::kQ (j+1) l
def qz (args:List V):List V:=bif handed args then args.map (fun v=>match v with| .bxa _ _=> .bxa 0 []| .sl e sh (some L) _=> .sl e sh (some L) []|_=> .nilsl) else[]
noncomputable def FZ (o:Bool) (E:Env) (call:Caller α) (fuel:Nat):Caller α:=fun f args K=>
 match E.P.funcs[f]? with
 |none=>none
 |some fn=>match fn.body,Ay args with
  |some c,some args=>match MR c with
   |none=>ev E call (Sn (o&& !handed args) fn c) fuel c ⟨AQ fn (bI 0 args),dH 0 args⟩ (Jb E.P fn (qz args) K)
   |some (a,o1,o2,b)=>match o1.op,o1.guard,o1.dst,o2.op,o2.guard,o2.dst with
    | .makeFunc (.func g) _ _,none,some t,.defer cl,none,none=>match cl.callee,cl.args.toList with
     | .value (.tmp t'),[]=>bif t==t' then
       ev E call (rdOf fn c) fuel a ⟨AQ fn (bI 0 args),dH 0 args⟩ fun e s=>match e with
        | .norm=>match EA E s.fr s.bx o1 with
         |some (true,.val (.fn g' bJ))=>bif g'==g&&Nat.blt t s.fr.length&&(Nat.blt args.length 5000&&Nat.blt g yP) then
           match qD 0 bJ (s.put (some t) (.fn g bJ)) with
           |some s2=>ev E call (Sn (o&& !handed args) fn c) fuel b s2 (dfEx (o&& !handed args) E call fuel fn g (kQ 0 bJ) (qz args) K)
           |none=>none
          else none
         |_=>none
        |_=>none
      else none
     |_,_=>none
    |_,_,_,_,_,_=>none
  |_,_=>none
noncomputable def bW (E:Env) (call:Caller α) (fuel:Nat):Caller α:=fun f args K=>FZ true E call fuel f args K
def GX:Nat:=1000000
def EJ (K:V→Option α):V→Option α
 | .qb b x y=>sel b (EJ K x) (EJ K y)
 |v=>K v
def KX:Nat:=2000000
noncomputable def bT (E:Env) (nA:List (Nat×aG)) (fuel:Nat):Nat→Caller α
 |0,f,args,K=>match fV nA (KX+f) with
  |some sp=>match sp args with|some (c,r)=>sel c (EJ (fun v=>match v with| .keep p x=>K (.keep p x)|_=>none) r) none|none=>none
  |none=>match fV nA (GX+f) with
  |some sp=>match sp args with|some (c,r)=>sel c (EJ (fun v=>match v with| .out p x bs=>K (.out p x bs)|_=>none) r) none|none=>none
  |none=>bif Nat.blt f GX then(match fV nA f with
   |some sp=>match sp (args.map V.xA) with|some (c,r)=>sel c (match r with| .out _ _ _=>none| .keep _ _=>none|r=>K r) none|none=>none
   |none=>none) else none
 |d+1,f,args,K=>match fV nA (KX+f) with
  |some sp=>match sp args with|some (c,r)=>sel c (EJ (fun v=>match v with| .keep p x=>K (.keep p x)|_=>none) r) none|none=>none
  |none=>match fV nA (GX+f) with
  |some sp=>match sp args with|some (c,r)=>sel c (EJ (fun v=>match v with| .out p x bs=>K (.out p x bs)|_=>none) r) none|none=>none
  |none=>bif Nat.blt f GX then(match fV nA f with
   |some sp=>match sp (args.map V.xA) with|some (c,r)=>sel c (match r with| .out _ _ _=>none| .keep _ _=>none|r=>K r) none|none=>none
   |none=>FZ false E (bT E nA fuel d) fuel f (bif iF args then args else args.map V.xA) K) else none
noncomputable def MS (o:Bool) (E:Env) (nA:List (Nat×aG)) (fuel d f:Nat) (p ns:List Nat) (KE:Func→Ex→St→Option α) (n:Nat) (s:St):Option α:=
 match E.P.funcs[f]? with
 |none=>none
 |some fn=>match fn.body with
  |none=>none
  |some c=>match cAt p c with
   | .loop b=>Dn b (fun s K=>ev E (bT E nA fuel d) (Sn o fn c) fuel b s K) (Ck (Sn o fn c).tot (Sn o fn c).unc fn.ntmps b) (Xi E (bT E nA fuel d) (Sn o fn c) fuel fn.ntmps p c ns (KE fn)) n s
   |_=>none
noncomputable def iG (E:Env) (nA:List (Nat×aG)) (fuel d f:Nat) (p ns:List Nat) (K:V→Option α) (n:Nat) (s:St):Option α:=
 MS true E nA fuel d f p ns (fun fn=>Jb E.P fn [] K) n s
noncomputable def Fb (E:Env) (nA:List (Nat×aG)) (fuel d f:Nat) (args:List V) (p ns:List Nat) (K:V→Option α) (n:Nat) (s:St):Option α:=
 MS (!handed args) E nA fuel d f p ns (fun fn=>Jb E.P fn args K) n s
noncomputable def Vy (E:Env) (nA:List (Nat×aG)) (fuel d f g:Nat) (bJ args:List V) (p ns:List Nat) (K:V→Option α) (n:Nat) (s:St):Option α:=
 MS (!handed args) E nA fuel d f p ns (fun fn=>dfEx (!handed args) E (bT E nA fuel d) fuel fn g bJ args K) n s
def atSlot:List (Nat×V)→Nat→V
 |[],_=> .any
 |(i,v)::l,j=>bif i==j then v else atSlot l j
def mY (n:Nat) (l:List (Nat×V)) (bx:List (Nat×List V)):St:=⟨(List.range n).map (atSlot l),bx⟩
end
open Go.RowKit
abbrev aP:=Nat→Option (List Value)
mutual
def aO (G:aP):V→Value→Prop
 | .any,_=>True
 | .bool b,v=>v=.bool b
 | .int k n,v=>v=.int k n
 | .str l,v=>v=.string ⟨l.toArray⟩
 | .agg cs,v=>∃a:List Value,v=.agg a.toArray∧jv G cs a
 | .tup vs,v=>∃a:List Value,v=.tuple a.toArray∧jv G vs a
 | .nilsl,v=>v=.slice none 0 0
 | .sl _ sh _ xs,v=>∃p cap,v=.slice p xs.length cap∧xs.length≤cap∧(xs=[]∨ ∃b off l,p=some ⟨b,off,none⟩∧G b=some l∧bX G sh xs (l.drop off))
 | .rptr sh x off,v=>∃b o l,v=.pointer (some ⟨b,o+off,none⟩)∧G b=some l∧fJ sh x=true∧ ∃u,aO G x u∧(l.drop o).take sh.length=u.cells.toList
 | .box _ _,_=>False
 | .eptr _ _ _ _ _ _,_=>False
 | .fn f bJ,v=>v=.func (.func f) #[] #[]∧bJ=[]
 | .nilif,v=>v=.nilIface
 | .nilp,v=>v=.pointer none
 | .iface t x,v=>∃u,v=.iface t u∧aO G x u
 | .bxa _ _,_=>False
 | .out _ _ _,_=>False
 | .qb _ _ _,_=>False
 | .old _,_=>False
 | .slz _ _ _ _ _ _ _ _ _ _,_=>False
 | .epz _ _ _ _ _,_=>False
 | .keep _ _,_=>False
def jv (G:aP):List V→List Value→Prop
 |[],vs=>vs=[]
 |x::xs,vs=>∃v t,vs=v::t∧aO G x v∧jv G xs t
def bX (G:aP) (sh:List Kd):List V→List Value→Prop
 |[],_=>True
 |x::xs,cells=>fJ sh x=true∧(∃u,aO G x u∧cells.take sh.length=u.cells.toList)∧bX G sh xs (cells.drop sh.length)
end
def PW (R:V→Value→Prop) (xs:List V) (vs:List Value):Prop:=xs.length=vs.length∧ ∀(i:Nat) x v,xs[i]? =some x→vs[i]? =some v→R x v
theorem PW.nil {R:V→Value→Prop}:PW R [] []:=⟨rfl,by simp⟩
theorem PW.cons {R:V→Value→Prop} {x:V} {v:Value} {xs:List V} {vs:List Value} (h:R x v) (t:PW R xs vs):PW R (x::xs) (v::vs):=by
 refine⟨by simp[t.1],fun i y u hy hu=>?_⟩
 cases i with
 |zero=>simp at hy hu;subst hy;subst hu;exact h
 |succ i=>exact t.2 i y u (by simpa using hy) (by simpa using hu)
theorem PW.head {R:V→Value→Prop} {x:V} {v:Value} {xs:List V} {vs:List Value} (h:PW R (x::xs) (v::vs)):R x v:=h.2 0 x v rfl rfl
theorem PW.tail {R:V→Value→Prop} {x:V} {v:Value} {xs:List V} {vs:List Value} (h:PW R (x::xs) (v::vs)):PW R xs vs:=
 ⟨by simpa using h.1,fun i y u hy hu=>h.2 (i+1) y u (by simpa using hy) (by simpa using hu)⟩
theorem PW.bU {R:V→Value→Prop} {vs:List Value} (h:PW R [] vs):vs=[]:=List.eq_nil_of_length_eq_zero h.1.symm
theorem PW.cons_inv {R:V→Value→Prop} {x:V} {xs:List V} {vs:List Value} (h:PW R (x::xs) vs): ∃v t,vs=v::t∧R x v∧PW R xs t:=by
 cases vs with
 |nil=>exact absurd h.1 (by simp)
 |cons v t=>exact⟨v,t,rfl,h.head,h.tail⟩
theorem PW.mono {R S:V→Value→Prop} {xs:List V} {vs:List Value} (h:PW R xs vs) (hm: ∀x∈xs,∀v,R x v→S x v):PW S xs vs:=
 ⟨h.1,fun i x v hx hv=>hm x (List.mem_of_getElem? hx) v (h.2 i x v hx hv)⟩
theorem PW.get {R:V→Value→Prop} {xs:List V} {vs:List Value} (h:PW R xs vs) {i:Nat} {x:V} (hx:xs[i]? =some x): ∃v,vs[i]? =some v∧R x v:=by
 have hi:i<vs.length:=by rw[←h.1];exact(List.getElem?_eq_some_iff.1 hx).1
 exact⟨vs[i],List.getElem?_eq_getElem hi,h.2 i x _ hx (List.getElem?_eq_getElem hi)⟩
theorem PW.set {R:V→Value→Prop} {xs:List V} {vs:List Value} (h:PW R xs vs) (i:Nat) {x:V} {v:Value} (hx:R x v):PW R (xs.set i x) (vs.set i v):=by
 refine⟨by simp[h.1],fun j y u hy hu=>?_⟩;rw[List.getElem?_set] at hy hu;by_cases e:i=j
 ·subst e
  simp only[if_true] at hy hu;split at hy<;>split at hu<;>simp_all
 ·rw[if_neg e] at hy hu
  exact h.2 j y u hy hu
theorem PW.append {R:V→Value→Prop} {xs ys:List V} {vs us:List Value} (h:PW R xs vs) (k:PW R ys us):PW R (xs++ys) (vs++us):=by
 refine⟨by simp[h.1,k.1],fun i x v hx hv=>?_⟩;by_cases hi:i<xs.length
 ·rw[List.getElem?_append_left hi] at hx
  rw[List.getElem?_append_left (by rw[←h.1];exact hi)] at hv;exact h.2 i x v hx hv
 ·rw[List.getElem?_append_right (by omega)] at hx
  rw[List.getElem?_append_right (by rw[←h.1];omega),←h.1] at hv;exact k.2 _ x v hx hv
theorem PW.drop {R:V→Value→Prop} {xs:List V} {vs:List Value} (h:PW R xs vs) (n:Nat):PW R (xs.drop n) (vs.drop n):=
 ⟨by simp[h.1],fun i x v hx hv=>h.2 (n+i) x v (by simpa using hx) (by simpa using hv)⟩
theorem PW.take {R:V→Value→Prop} {xs:List V} {vs:List Value} (h:PW R xs vs) (n:Nat):PW R (xs.take n) (vs.take n):=by
 refine⟨by simp[h.1],fun i x v hx hv=>?_⟩;rw[List.getElem?_take] at hx hv;split at hx
 ·rename_i hi;rw[if_pos hi] at hv;exact h.2 i x v hx hv
 ·cases hx
theorem dL {G:aP}: ∀(xs:List V) (vs:List Value),jv G xs vs↔PW (aO G) xs vs
 |[],vs=>by
  unfold jv;exact⟨fun h=>by rw[h];exact .nil,fun h=>h.bU⟩
 |x::xs,vs=>by
  unfold jv;constructor
  ·rintro⟨v,t,rfl,h,ht⟩
   exact .cons h ((dL xs t).1 ht)
  ·intro h
   obtain⟨v,t,rfl,h1,h2⟩:=h.cons_inv;exact⟨v,t,rfl,h1,(dL xs t).2 h2⟩
def lY (G G':aP):Prop:=∀b l,G b=some l→ ∃l',G' b=some l'∧l<+:l'
theorem lY.refl (G:aP):lY G G:=fun b l h=>⟨l,h,List.prefix_refl l⟩
theorem take_prefix {l l':List Value} {n:Nat} {u:List Value} (h:l.take n=u) (hn:u.length=n) (hp:l<+:l'):l'.take n=u:=by
 obtain⟨t,rfl⟩:=hp;have:n≤l.length:=by rw[←h] at hn;simp at hn;omega
 rw[List.take_append_of_le_length this,h]
theorem vM {l l':List Value} (n:Nat) (hp:l<+:l') (hn:n≤l.length):l.drop n<+:l'.drop n:=by
 obtain⟨t,rfl⟩:=hp;rw[List.drop_append_of_le_length hn];exact List.prefix_append _ _
theorem jd: ∀(sh:List Kd) (vs:List V),bC sh vs=true→sh.length=vs.length
 |[],[],_=>rfl
 |[],_::_,h=>by simp[bC] at h
 |_::_,[],h=>by simp[bC] at h
 |k::sh,v::vs,h=>by
  simp only[bC,ai] at h;split at h
  ·simp[jd sh vs h]
  ·cases h
theorem mH {G:aP} {x:V} {u:Value} (h:aO G x u) (hx:x≠.any):x.cells.length=u.cells.size∧PW (aO G) x.cells u.cells.toList:=by
 cases x with
 |agg cs=>
  unfold aO at h;obtain⟨a,rfl,h⟩:=h;rw[dL] at h;exact⟨by simp[V.cells,Value.cells,h.1],by simpa[V.cells,Value.cells] using h⟩
 |any=>exact absurd rfl hx
 |bool b=>unfold aO at h;subst h;exact⟨rfl,.cons (by unfold aO;rfl) .nil⟩
 |int k n=>unfold aO at h;subst h;exact⟨rfl,.cons (by unfold aO;rfl) .nil⟩
 |str l=>unfold aO at h;subst h;exact⟨rfl,.cons (by unfold aO;rfl) .nil⟩
 |nilsl=>unfold aO at h;subst h;exact⟨rfl,.cons (by unfold aO;rfl) .nil⟩
 |tup vs=>have h':=h;unfold aO at h';obtain⟨a,rfl,_⟩:=h';exact⟨rfl,.cons h .nil⟩
 |sl e sh o xs=>have h':=h;unfold aO at h';obtain⟨p,cap,rfl,_⟩:=h';exact⟨rfl,.cons h .nil⟩
 |rptr sh x off=>have h':=h;unfold aO at h';obtain⟨b,o,l,rfl,_⟩:=h';exact⟨rfl,.cons h .nil⟩
 |box k o=>unfold aO at h;exact h.elim
 |eptr _ _ _ _ _ _=>unfold aO at h;exact h.elim
 |fn f c=>have h':=h;unfold aO at h';obtain⟨rfl,_⟩:=h';exact⟨rfl,.cons h .nil⟩
 |nilif=>have h':=h;unfold aO at h';subst h';exact⟨rfl,.cons h .nil⟩
 |nilp=>have h':=h;unfold aO at h';subst h';exact⟨rfl,.cons h .nil⟩
 |iface t x=>have h':=h;unfold aO at h';obtain⟨u,rfl,_⟩:=h';exact⟨rfl,.cons h .nil⟩
 |bxa _ _=>unfold aO at h;exact h.elim
 |out _ _ _=>unfold aO at h;exact h.elim
 |qb _ _ _=>unfold aO at h;exact h.elim
 |old _=>unfold aO at h;exact h.elim
 |slz _ _ _ _ _ _ _ _ _ _=>unfold aO at h;exact h.elim
 |epz _ _ _ _ _=>unfold aO at h;exact h.elim
 |keep _ _=>unfold aO at h;exact h.elim
theorem lC {sh:List Kd}:fJ sh .any=false:=by
 unfold fJ V.cells
 cases sh with
 |nil=>rfl
 |cons k l=>cases k<;>rfl
theorem oG {G:aP} {sh:List Kd} {x:V} {u:Value} (hf:fJ sh x=true) (h:aO G x u):u.cells.toList.length=sh.length:=by
 have hx:x≠.any:=fun e=>by rw[e,lC] at hf;cases hf
 have h1:=(mH h hx).1;have h2:=jd _ _ hf;rw[Array.length_toList,←h1,h2]
theorem gW {G:aP} {sh:List Kd} {cells:List Value}:bX G sh [] cells:=by unfold bX;trivial
mutual
theorem gX {G G':aP} (hm:lY G G'): ∀(x:V) (v:Value),aO G x v→aO G' x v
 | .any,_,_=>by unfold aO;trivial
 | .bool b,v,h=>by unfold aO at h⊢;exact h
 | .int k n,v,h=>by unfold aO at h⊢;exact h
 | .str l,v,h=>by unfold aO at h⊢;exact h
 | .agg cs,v,h=>by
  unfold aO at h⊢;obtain⟨a,rfl,h⟩:=h;exact⟨a,rfl,Cw hm cs a h⟩
 | .tup vs,v,h=>by
  unfold aO at h⊢;obtain⟨a,rfl,h⟩:=h;exact⟨a,rfl,Cw hm vs a h⟩
 | .nilsl,v,h=>by unfold aO at h⊢;exact h
 | .sl e sh o xs,v,h=>by
  unfold aO at h⊢;obtain⟨p,cap,rfl,hcap,h⟩:=h;refine⟨p,cap,rfl,hcap,?_⟩;rcases h with h|⟨b,off,l,rfl,hG,h⟩
  ·exact .inl h
  ·obtain⟨l',hl',hp⟩:=hm b l hG
   by_cases hx:xs=[]
   ·exact .inl hx
   ·refine .inr ⟨b,off,l',rfl,hl',?_⟩
    by_cases hoff:off≤l.length
    ·exact iJ hm sh xs _ _ h (vM off hp hoff)
    ·have:l.drop off=[]:=List.drop_of_length_le (by omega)
     rw[this] at h;exact iJ hm sh xs _ _ h List.nil_prefix
 | .rptr sh x off,v,h=>by
  unfold aO at h⊢;obtain⟨b,o,l,rfl,hG,hf,u,hu,hc⟩:=h;obtain⟨l',hl',hp⟩:=hm b l hG;refine⟨b,o,l',rfl,hl',hf,u,gX hm x u hu,?_⟩;have hlen:=oG hf hu;by_cases ho:o≤l.length
  ·exact take_prefix hc hlen (vM o hp ho)
  ·have h0:l.drop o=[]:=List.drop_of_length_le (by omega)
   rw[h0] at hc;exact take_prefix hc hlen List.nil_prefix
 | .box _ _,_,h=>by unfold aO at h;exact h.elim
 | .eptr _ _ _ _ _ _,_,h=>by unfold aO at h;exact h.elim
 | .fn _ _,_,h=>by unfold aO at h⊢;exact h
 | .nilif,v,h=>by unfold aO at h⊢;exact h
 | .nilp,v,h=>by unfold aO at h⊢;exact h
 | .iface t x,v,h=>by
  unfold aO at h⊢;obtain⟨u,rfl,h⟩:=h;exact⟨u,rfl,gX hm x u h⟩
 | .bxa _ _,_,h=>by unfold aO at h;exact h.elim
 | .out _ _ _,_,h=>by unfold aO at h;exact h.elim
 | .qb _ _ _,_,h=>by unfold aO at h;exact h.elim
 | .old _,_,h=>by unfold aO at h;exact h.elim
 | .slz _ _ _ _ _ _ _ _ _ _,_,h=>by unfold aO at h;exact h.elim
 | .epz _ _ _ _ _,_,h=>by unfold aO at h;exact h.elim
 | .keep _ _,_,h=>by unfold aO at h;exact h.elim
theorem Cw {G G':aP} (hm:lY G G'): ∀(xs:List V) (vs:List Value),jv G xs vs→jv G' xs vs
 |[],_,h=>by unfold jv at h⊢;exact h
 |x::xs,vs,h=>by
  unfold jv at h⊢;obtain⟨v,t,rfl,h1,h2⟩:=h;exact⟨v,t,rfl,gX hm x v h1,Cw hm xs t h2⟩
theorem iJ {G G':aP} (hm:lY G G') (sh:List Kd): ∀(xs:List V) (c c':List Value),bX G sh xs c→c<+:c'→bX G' sh xs c'
 |[],_,_,_,_=>by unfold bX;trivial
 |x::xs,c,c',h,hp=>by
  unfold bX at h⊢;obtain⟨hf,⟨u,hu,hc⟩,ht⟩:=h;have hlen:=oG hf hu;refine⟨hf,⟨u,gX hm x u hu,take_prefix hc hlen hp⟩,iJ hm sh xs _ _ ht (vM _ hp ?_)⟩;rw[←hc] at hlen;simp at hlen;omega
end
def V.plain:V→Bool
 | .eptr _ _ _ _ _ _=>false
 | .box .. =>false
 | .fn _ bJ=>bJ.isEmpty
 | .sl _ _ (some _) _=>false
 | .tup _=>false
 | .bxa _ _=>false
 | .out _ _ _=>false
 | .qb _ _ _=>false
 | .old _=>false
 | .slz _ _ _ _ _ _ _ _ _ _=>false
 | .epz _ _ _ _ _=>false
 | .keep _ _=>false
 |_=>true
structure Gh where
 G:aP
 O:Nat→Option (Value×Nat×Nat)
 β:Nat→Option Nat
 G1:aP
 C:Nat→Option (List Value)
def uf (G:aP) (sh:List Kd) (xs:List V) (v:Value):Prop:=
 (v=.slice none 0 0∧xs=[])∨ ∃b cap l,v=.slice (some ⟨b,0,none⟩) xs.length cap∧xs.length≤cap∧G b=some l∧l.length=xs.length*sh.length∧bX G sh xs l
def ru (g:Gh) (l:List Value) (sz:Nat) (o2:Option Nat) (i:Int) (c e2:Nat) (bG:List Kd) (ys:List V):Prop:=
 match o2 with
 |none=>True
 |some L2=>∃v2,g.O L2=some (v2,e2,bG.length)∧uf g.G bG ys v2∧ ∀u,0≤i→l[i.toNat*sz+c]? =some u→u=v2
def zG (g:Gh) (sh:List Kd) (xs:List V) (v:Value) (l:List Value):Prop:=((v=.slice none 0 0∧xs=[])∨ ∃b cap,v=.slice (some ⟨b,0,none⟩) xs.length cap)∧l.length=xs.length*sh.length∧bX g.G sh xs l
def bH (g:Gh):V→Value→Prop
 | .box k off,v=>∃b,g.β k=some b∧v=.pointer (some ⟨b,off,none⟩)
 | .sl e sh (some L) xs,v=>g.O L=some (v,e,sh.length)∧uf g.G sh xs v
 | .eptr L e sh xs i off,v=>∃v0 b,g.O L=some (v0,e,sh.length)∧uf g.G sh xs v0∧0≤i∧i<(xs.length:Int)∧v0.ownBlock=some b∧v=.pointer (some ⟨b,i.toNat*sh.length+off,none⟩)
 | .old x,v=>aO g.G1 x v∧aO g.G x v∧x.plain=true
 | .slz L e sh xs o2 i c e2 bG ys,v=>∃l,g.O L=some (v,e,sh.length)∧g.C L=some l∧zG g sh xs v l∧ru g l sh.length o2 i c e2 bG ys
 | .epz L e sz i off,v=>∃v0 b l,g.O L=some (v0,e,sz)∧g.C L=some l∧0≤i∧i.toNat*sz+sz≤l.length∧v0.ownBlock=some b∧v=.pointer (some ⟨b,i.toNat*sz+off,none⟩)
 |x,v=>aO g.G x v
def O5 (p:Value):Value→Value
 | .int _ n=> .func (.func n.toNat) #[p] #[]
 |v=>v
def Jc (f:Nat) (a:List Value):Value:=bif f==yP&& !a.isEmpty then .agg a.toArray else bif f==BM then(match a with
 | .int _ n::l=> .func (.func n.toNat) l.toArray #[]
 |_=> .func (.func f) #[] a.toArray) else bif f==AM then(match a with
 |p::l=> .agg (l.map (O5 p)).toArray
 |[]=> .func (.func f) #[] #[]) else .func (.func f) #[] a.toArray
theorem AR {f:Nat} {a:List Value} (h:Nat.blt f yP=true):Jc f a=.func (.func f) #[] a.toArray:=by
 unfold Jc;rw[Nat.blt_eq] at h;have h:f<1000000:=h;have h1:(f==yP)=false:=by rw[beq_eq_false_iff_ne];show f≠1000000;omega
 have h2:(f==BM)=false:=by rw[beq_eq_false_iff_ne];show f≠2000000;omega
 have h3:(f==AM)=false:=by rw[beq_eq_false_iff_ne];show f≠3000000;omega
 rw[h1,h2,h3];rfl
theorem GH (f:Nat):Jc f []=.func (.func f) #[] #[]:=by
 unfold Jc
 cases f==yP<;>cases f==BM<;>cases f==AM<;>rfl
theorem Vz (k:IntKind) (n:Int) (a:List Value):Jc BM (.int k n::a)=.func (.func n.toNat) a.toArray #[]:=rfl
theorem VA (p:Value) (l:List Value):Jc AM (p::l)=.agg (l.map (O5 p)).toArray:=rfl
theorem Pj {a:List Value} (h:a≠[]):Jc yP a=.agg a.toArray:=by
 unfold Jc
 cases a with
 |nil=>exact absurd rfl h
 |cons x a=>rfl
def aN (g:Gh):V→Value→Prop
 | .tup vs,v=>∃a:List Value,v=.tuple a.toArray∧PW (bH g) vs a
 | .fn f bJ,v=>∃a:List Value,v=Jc f a∧PW (bH g) bJ a
 |x,v=>bH g x v
def LQ (g:Gh) (x:V) (v:Value):Prop:=aN g x v∨bH g x v
structure Ext (g g':Gh):Prop where
 G:lY g.G g'.G
 O: ∀L x,g.O L=some x→g'.O L=some x
 OG: ∀L v e sz b,g.O L=some (v,e,sz)→v.ownBlock=some b→g'.G b=g.G b
 β: ∀k b,g.β k=some b→g'.β k=some b
 G1:g'.G1=g.G1
 C: ∀L x,g.O L=some x→g'.C L=g.C L
theorem Ext.refl (g:Gh):Ext g g:=⟨.refl _,fun _ _ h=>h,fun _ _ _ _ _ _ _=>rfl,fun _ _ h=>h,rfl,fun _ _ _=>rfl⟩
theorem Ba {G G':aP} {sh:List Kd} {xs:List V} {v:Value} (h:uf G sh xs v) (hm:lY G G') (hb: ∀b,v.ownBlock=some b→G' b=G b):uf G' sh xs v:=by
 rcases h with h|⟨b,cap,l,rfl,hcap,hG,hl,hr⟩
 ·exact .inl h
 ·exact .inr ⟨b,cap,l,rfl,hcap,by rw[hb b rfl];exact hG,hl,iJ hm sh xs _ _ hr (List.prefix_refl _)⟩
theorem zG_more {g g':Gh} (hm:lY g.G g'.G) {sh:List Kd} {xs:List V} {v:Value} {l:List Value} (h:zG g sh xs v l):zG g' sh xs v l:=⟨h.1,h.2.1,iJ hm sh xs _ _ h.2.2 (List.prefix_refl _)⟩
theorem XG {g g':Gh} (he:Ext g g') {l:List Value} {sz:Nat} {o2:Option Nat} {i:Int} {c e2:Nat} {bG:List Kd} {ys:List V} (h:ru g l sz o2 i c e2 bG ys):ru g' l sz o2 i c e2 bG ys:=by
 cases o2 with
 |none=>trivial
 |some L2=>
  obtain⟨v2,h1,h2,h3⟩:=h;exact⟨v2,he.O _ _ h1,Ba h2 he.G fun b hb=>he.OG L2 _ _ _ b h1 hb,h3⟩
theorem GI {g g':Gh} (he:Ext g g') {x:V} {v:Value} (h:bH g x v):bH g' x v:=by
 cases x with
 |box k off=>obtain⟨b,hb,rfl⟩:=h;exact⟨b,he.β k b hb,rfl⟩
 |eptr L e sh xs i off=>obtain⟨v0,b,h1,h2,h3,h4,h5,h6⟩:=h;exact⟨v0,b,he.O L _ h1,Ba h2 he.G fun b hb=>he.OG L _ _ _ b h1 hb,h3,h4,h5,h6⟩
 |sl e sh o xs=>
  cases o with
  |none=>exact gX he.G _ _ h
  |some L=>obtain⟨h1,h2⟩:=h;exact⟨he.O L _ h1,Ba h2 he.G fun b hb=>he.OG L _ _ _ b h1 hb⟩
 |old x=>obtain⟨h1,h2,h3⟩:=h;exact⟨by rw[he.G1];exact h1,gX he.G _ _ h2,h3⟩
 |slz L e sh xs o2 i c e2 bG ys=>obtain⟨l,h1,h2,h3,h4⟩:=h;exact⟨l,he.O L _ h1,(he.C L _ h1).trans h2,zG_more he.G h3,XG he h4⟩
 |epz L e sz i off=>obtain⟨v0,b,l,h1,h2,h3⟩:=h;exact⟨v0,b,l,he.O L _ h1,(he.C L _ h1).trans h2,h3⟩
 |_=>exact gX he.G _ _ h
theorem rD {g g':Gh} (he:Ext g g') {x:V} {v:Value} (h:aN g x v):aN g' x v:=by
 cases x with
 |tup vs=>obtain⟨a,rfl,h⟩:=h;exact⟨a,rfl,h.mono fun _ _ _=>GI he⟩
 |fn f c=>obtain⟨a,rfl,h⟩:=h;exact⟨a,rfl,h.mono fun _ _ _=>GI he⟩
 |_=>simp only[aN] at h⊢;exact GI he h
theorem nI {G:aP} {e:Nat} {o:Option Nat} {sh:List Kd} {xs:List V} {v:Value} (h:uf G sh xs v):aO G (.sl e sh o xs) v:=by
 unfold aO;rcases h with⟨rfl,rfl⟩|⟨b,cap,l,rfl,hcap,hG,hl,hr⟩
 ·exact⟨none,0,rfl,Nat.le_refl _,.inl rfl⟩
 ·exact⟨some ⟨b,0,none⟩,cap,rfl,hcap,.inr ⟨b,0,l,rfl,hG,by simpa using hr⟩⟩
theorem wL {G:aP} {e:Nat} {o o':Option Nat} {sh:List Kd} {xs:List V} {v:Value} (h:aO G (.sl e sh o xs) v):aO G (.sl e sh o' xs) v:=by
 unfold aO at h⊢;exact h
theorem Cx {g:Gh} {x y:V} {v:Value} (h:bH g x v) (hd:x.deep=some y):aO g.G y v:=by
 cases x with
 |sl e sh o xs=>
  simp only[V.deep,Option.some.injEq] at hd;subst hd
  cases o with
  |none=>exact h
  |some L=>exact nI h.2
 |any=>simp[V.deep] at hd
 |tup vs=>simp[V.deep] at hd
 |box k o=>simp[V.deep] at hd
 |eptr _ _ _ _ _ _=>simp[V.deep] at hd
 |slz _ _ _ _ _ _ _ _ _ _=>simp[V.deep] at hd
 |epz _ _ _ _ _=>simp[V.deep] at hd
 |keep _ _=>simp[V.deep] at hd
 |fn f c=>
  cases c with
  |cons a c=>simp[V.deep] at hd
  |nil=>simp only[V.deep,Option.some.injEq] at hd;subst hd;exact h
 |bxa _ _=>simp[V.deep] at hd
 |out _ _ _=>simp[V.deep] at hd
 |qb _ _ _=>simp[V.deep] at hd
 |old _=>simp[V.deep] at hd
 |_=>simp only[V.deep,Option.some.injEq] at hd;subst hd;exact h
theorem oH {g:Gh} {x y:V} {v:Value} (h:aN g x v) (hd:x.deep=some y):aO g.G y v:=by
 cases x with
 |tup vs=>simp[V.deep] at hd
 |fn f c=>
  cases c with
  |cons a c=>simp[V.deep] at hd
  |nil=>
   simp only[V.deep,Option.some.injEq] at hd;subst hd;obtain⟨a,rfl,hp⟩:=h;rw[hp.bU];unfold aO;exact⟨GH f,rfl⟩
 |_=>simp only[aN] at h;exact Cx h hd
theorem bR {g:Gh} {x:V} {v:Value} (hx:x.plain=true) (h:aO g.G x v):aN g x v:=by
 cases x with
 |sl e sh o xs=>cases o with
  |none=>exact h
  |some L=>simp[V.plain] at hx
 |box k o=>simp[V.plain] at hx
 |eptr _ _ _ _ _ _=>simp[V.plain] at hx
 |slz _ _ _ _ _ _ _ _ _ _=>simp[V.plain] at hx
 |epz _ _ _ _ _=>simp[V.plain] at hx
 |keep _ _=>simp[V.plain] at hx
 |fn f c=>
  unfold aO at h;obtain⟨rfl,rfl⟩:=h;exact⟨[],(GH f).symm,.nil⟩
 |tup vs=>simp[V.plain] at hx
 |bxa _ _=>simp[V.plain] at hx
 |out _ _ _=>simp[V.plain] at hx
 |qb _ _ _=>simp[V.plain] at hx
 |old _=>simp[V.plain] at hx
 |_=>exact h
theorem jG {x y:V} (hd:x.deep=some y):y.plain=true:=by
 cases x with
 |fn f c=>cases c<;>simp[V.deep] at hd;subst hd;rfl
 |_=>simp[V.deep] at hd<;>subst hd<;>rfl
theorem GJ {g:Gh}: ∀(xs ys:List V) (vs:List Value),V.xJ xs=some ys→PW (aN g) xs vs→PW (aO g.G) ys vs
 |[],ys,vs,h,hp=>by
  simp[V.xJ] at h;subst h;rw[hp.bU];exact .nil
 |x::xs,ys,vs,h,hp=>by
  obtain⟨v,t,rfl,h1,h2⟩:=hp.cons_inv;simp only[V.xJ] at h;split at h
  ·rename_i a b ha hb
   simp only[Option.some.injEq] at h;subst h;exact .cons (oH h1 ha) (GJ xs b t hb h2)
  ·cases h
theorem aV {g:Gh} {x:V} {v:Value} (hs:x.single=true) (h:aN g x v):bH g x v:=by
 cases x with
 |tup vs=>cases hs
 |fn f c=>cases hs
 |_=>simp only[aN] at h;exact h
theorem bu {g:Gh} {x:V} {v:Value} (hs:x.single=true) (h:bH g x v):aN g x v:=by
 cases x with
 |tup vs=>cases hs
 |fn f c=>cases hs
 |_=>simp only[aN];exact h
def xB (G:aP) (w:World):Prop:=∀b l,G b=some l→ ∃c e fr,w.heap[b]? =some (.cells c e fr)∧c.toList.take l.length=l
structure Own where
 m:Nat→Prop
 n:Nat
 β:Nat→Option Nat
 df:List Deferred
def Own.ok (B:Own) (L b:Nat):Prop:=B.m b∧(L<HL→B.n≤b)
def mZ (g:Gh) (L b:Nat) (cur:Array Value) (l:List Value):Prop:=
 match g.C L with
 |none=>g.G b=some l
 |some l'=>g.G b=none∧l'=l∧cur.toList.take l.length=l
theorem mZ.known {g:Gh} {L b:Nat} {cur:Array Value} {l l':List Value} (h:mZ g L b cur l) (hG:g.G b=some l'):l'=l∧g.C L=none:=by
 unfold mZ at h;split at h
 ·rename_i hq;rw[hG] at h;exact⟨Option.some.inj h,hq⟩
 ·rw[hG] at h;cases h.1
theorem mZ.nested {g:Gh} {L b:Nat} {cur:Array Value} {l l':List Value} (h:mZ g L b cur l) (hC:g.C L=some l'):g.G b=none∧l'=l∧cur.toList.take l.length=l:=by
 unfold mZ at h;rw[hC] at h;exact h
theorem mZ.mk0 {g:Gh} {L b:Nat} {cur:Array Value} {l:List Value} (hC:g.C L=none) (hG:g.G b=some l):mZ g L b cur l:=by
 unfold mZ;rw[hC];exact hG
theorem mZ.mk1 {g:Gh} {L b:Nat} {cur:Array Value} {l:List Value} (hC:g.C L=some l) (hG:g.G b=none) (ht:cur.toList.take l.length=l):mZ g L b cur l:=by
 unfold mZ;rw[hC];exact⟨hG,rfl,ht⟩
theorem mZ.keep {g g':Gh} {L b:Nat} {cur:Array Value} {l:List Value} (h:mZ g L b cur l) (hC:g'.C L=g.C L) (hG:g'.G b=g.G b):mZ g' L b cur l:=by
 unfold mZ at h⊢;rw[hC,hG];exact h
def Oo (B:Own) (g:Gh) (w:World):Prop:=
 (∀L v e sz,g.O L=some (v,e,sz)→0<sz∧(v=.slice none 0 0∨ ∃b n cap cur l,v=.slice (some ⟨b,0,none⟩) n cap∧B.ok L b∧w.heap[b]? =some (.cells cur e (0,0))∧n≤cap∧cap≤maxLen∧cur.size=cap*sz∧mZ g L b cur l∧l.length=n*sz))∧
 (∀L L' v v' e e' sz sz' b,g.O L=some (v,e,sz)→g.O L'=some (v',e',sz')→v.ownBlock=some b→v'.ownBlock=some b→L=L')
theorem SY {p q:Bool} {α:Type} {x:Option α} {r:α} (h:(bif p&&aK q then none else x)=some r):x=some r∧(p=true→q=true):=by
 cases p with
 |false=>exact⟨h,fun h=>by cases h⟩
 |true=>cases q with
  |false=>cases h
  |true=>exact⟨h,fun _=>rfl⟩
theorem XH {f:V→V} (hf: ∀x,f x=.nilp→x=.nilp) {cs:List V} (h:jB (cs.map f)=true):jB cs=true:=by
 match cs,h with
 |a::b::l,h=>
  cases e:f a with
  |nilp=>rw[hf a e];rfl
  |_=>rw[List.map_cons,List.map_cons,e] at h;cases h
 |[],h=>cases h
 |[a],h=>
  rw[List.map_cons,List.map_nil] at h
  cases e:f a<;>rw[e] at h<;>cases h
theorem kM {P:Program} {e:TypeId} {f:V→V} {cs:List V} (hf: ∀x,f x=.nilp→x=.nilp) (q:jB cs=true→o6 P e cs.length=true):jB (cs.map f)=true→o6 P e (cs.map f).length=true:=fun h=>by
 rw[List.length_map];exact q (XH hf h)
theorem over_len {old vs:List V} {off:Nat} (h:off+vs.length≤old.length):(over old off vs).length=old.length:=by
 unfold over;rw[List.length_append,List.length_append,List.length_take,List.length_drop];omega
theorem XI (L:Nat): ∀x:V,x.kill L=.nilp→x=.nilp:=by
 intro x h
 cases x with
 |nilp=>rfl
 |sl e sh o xs=>
  cases o with
  |none=>cases h
  |some L'=>
   have h:(bif L==L' then V.sl e sh none xs else .sl e sh (some L') xs)=.nilp:=h
   cases hq:L==L'<;>rw[hq] at h<;>cases h
 |eptr L' e sh xs i off=>
  have h:(bif L==L' then V.any else .eptr L' e sh xs i off)=.nilp:=h
  cases hq:L==L'<;>rw[hq] at h<;>cases h
 |slz L' e sh xs o2 i c e2 bG ys=>
  have h:(bif L==L' then V.any else .slz L' e sh xs (U8 L o2) i c e2 bG ys)=.nilp:=h
  cases hq:L==L'<;>rw[hq] at h<;>cases h
 |epz L' e sz i off=>
  have h:(bif L==L' then V.any else .epz L' e sz i off)=.nilp:=h
  cases hq:L==L'<;>rw[hq] at h<;>cases h
 |_=>cases h
theorem TJ (L i:Nat): ∀x:V,x.canon L i=.nilp→x=.nilp:=by
 intro x h
 cases x with
 |nilp=>rfl
 |sl e sh o xs=>
  cases o with
  |none=>cases h
  |some L'=>
   have h:(bif L==L' then V.sl e sh (some i) xs else .sl e sh (some L') xs)=.nilp:=h
   cases hq:L==L'<;>rw[hq] at h<;>cases h
 |eptr L' e sh xs j off=>
  have h:(bif L==L' then V.eptr i e sh xs j off else .eptr L' e sh xs j off)=.nilp:=h
  cases hq:L==L'<;>rw[hq] at h<;>cases h
 |_=>cases h
theorem upd_nilp (L e:Nat) (k:List Kd) (ys:List V): ∀x:V,x.upd L e k ys=.nilp→x=.nilp:=by
 intro x h
 cases x with
 |nilp=>rfl
 |sl e' sh o xs=>
  cases o with
  |none=>cases h
  |some L'=>
   have h:(bif L==L' then V.sl e k (some L) ys else .sl e' sh (some L') xs)=.nilp:=h
   cases hq:L==L'<;>rw[hq] at h<;>cases h
 |eptr L' e' sh xs i off=>
  have h:(bif L==L' then V.eptr L e k ys i off else .eptr L' e' sh xs i off)=.nilp:=h
  cases hq:L==L'<;>rw[hq] at h<;>cases h
 |_=>cases h
theorem rb_nilp (k k':Nat): ∀x:V,x.rb k k'=.nilp→x=.nilp:=by
 intro x h
 cases x with
 |nilp=>rfl
 |box j off=>
  have h:(bif j==k then V.box k' off else .box j off)=.nilp:=h
  cases hq:j==k<;>rw[hq] at h<;>cases h
 |_=>cases h
theorem GK (mb ml:List (Nat×Nat)): ∀x:V,x.ren mb ml=.nilp→x=.nilp:=by
 intro x h
 cases x with
 |nilp=>rfl
 |sl e sh o xs=>
  cases o with
  |none=>cases h
  |some L=>cases h
 |box k off=>
  have h:(match lk mb k with|some k'=>V.box k' off|none=> .any)=.nilp:=h
  cases hq:lk mb k<;>rw[hq] at h<;>cases h
 |fn f bJ=>
  have h:(match bJ with|[]=>V.fn f []|_=> .any)=.nilp:=h
  cases bJ<;>cases h
 |slz L e sh xs o2 i c e2 bG ys=>
  have h:(match lk ml L with|some L'=>V.slz L' e sh xs (o2.bind (lk ml)) i c e2 bG ys|none=> .any)=.nilp:=h
  cases hq:lk ml L<;>rw[hq] at h<;>cases h
 |old x=>
  have h:(bif x.fo then x else .any)=.nilp:=h
  cases hq:x.fo<;>rw[hq] at h
  ·cases h
  ·have h:x=.nilp:=h
   subst h
   cases hq
 |_=>cases h
theorem unz_nilp (L:Nat): ∀x:V,x.UR L=.nilp→x=.nilp:=by
 intro x h
 cases x with
 |nilp=>rfl
 |slz L' e sh xs o2 i c e2 bG ys=>
  have h:(bif L==L' then V.sl e sh (some L) xs else .slz L' e sh xs o2 i c e2 bG ys)=.nilp:=h
  cases hq:L==L'<;>rw[hq] at h<;>cases h
 |epz L' e sz i off=>
  have h:(bif L==L' then V.any else .epz L' e sz i off)=.nilp:=h
  cases hq:L==L'<;>rw[hq] at h<;>cases h
 |_=>cases h
theorem XJ (L e:Nat) (sh:List Kd) (xs:List V) (i:Int) (c L3 e2:Nat) (bG:List Kd) (ys:List V): ∀x:V,x.Cf L e sh xs i c L3 e2 bG ys=.nilp→x=.nilp:=by
 intro x h
 cases x with
 |nilp=>rfl
 |slz L' e' sh' xs' o2 i' c' e2' mq ys'=>
  have h:(bif L==L' then V.slz L e sh xs (some L3) i c e2 bG ys else .slz L' e' sh' xs' o2 i' c' e2' mq ys')=.nilp:=h
  cases hq:L==L'<;>rw[hq] at h<;>cases h
 |_=>cases h
def Z0 (P:Program) (B:Own) (g:Gh) (bx:List (Nat×List V)) (w:World):Prop:=
 (∀k cs,ax bx k=some cs→ ∃b c e,g.β k=some b∧B.m b∧w.heap[b]? =some (.cells c e (0,0))∧PW (aN g) cs c.toList∧(∀u∈c.toList,u.oneCell'=true)∧g.G b=none∧(jB cs=true→o6 P e cs.length=true))∧
 (∀k k' cs cs',ax bx k=some cs→ax bx k'=some cs'→g.β k=g.β k'→k=k')
def nW (E:Env) (G:aP):Prop:=∀n v,E.glob n=some v→v.plain=true∧aO G v (.pointer (some ⟨n,0,none⟩))
theorem nW.more {E:Env} {G G':aP} (h:nW E G) (hm:lY G G'):nW E G':=fun n v hv=>⟨(h n v hv).1,gX hm _ _ (h n v hv).2⟩
structure kU (m:Nat→Prop) (w w':World):Prop where
 mg:Below 0 w w'
 row: ∀b,¬m b→w'.heap[b]? =w.heap[b]?
theorem kU.refl (m:Nat→Prop) (w:World):kU m w w:=⟨.refl _ _,fun _ _=>rfl⟩
theorem kU.trans {m:Nat→Prop} {a b c:World} (h:kU m a b) (k:kU m b c):kU m a c:=⟨h.mg.trans k.mg,fun j hj=>(k.row j hj).trans (h.row j hj)⟩
theorem kU.mono {m m':Nat→Prop} {a b:World} (h:kU m a b) (hm: ∀j,m j→m' j):kU m' a b:=⟨h.mg,fun j hj=>h.row j fun e=>hj (hm j e)⟩
theorem kU.of_below {m:Nat→Prop} {w w':World} (h:Below w.heap.size w w') (hm: ∀b,w.heap.size≤b→m b):kU m w w':=⟨h.mono (Nat.zero_le _),fun b hb=>h.block b (Nat.lt_of_not_le fun h=>hb (hm b h))⟩
theorem kU.below {w w':World} (h:kU (fun b=>w.heap.size≤b) w w'):Below w.heap.size w w':=⟨h.mg.os,h.mg.tape,h.mg.output,h.mg.size,fun b hb=>h.row b (Nat.not_le.2 hb)⟩
structure Inv (E:Env) (B:Own) (G0:aP) (w0:World) (s:St) (g:Gh) (a:Act) (w:World):Prop where
 fr:PW (aN g) s.fr a.tmps.toList
 df:a.defers=B.df
 gok:xB g.G w
 own:Oo B g w
 bxs:Z0 E.P B g s.bx w
 mg:kU B.m w0 w
 hB:B.n≤w.heap.size∧ ∀b,w.heap.size≤b→B.m b
 ext:(∀b,¬B.m b→g.G b=G0 b)∧lY G0 g.G∧ ∀k,HL≤k→g.β k=B.β k
 glob:nW E G0∧ ∀b l,G0 b=some l→b<B.n
 g1:lY g.G1 G0
 zb: ∀k cs L v e sz b,ax s.bx k=some cs→g.O L=some (v,e,sz)→v.ownBlock=some b→g.β k≠some b
theorem Inv.nD {E:Env} {B:Own} {G0:aP} {w0:World} {s:St} {g:Gh} {a:Act} {w:World} (h:Inv E B G0 w0 s g a w):nW E g.G:=
 h.glob.1.more h.ext.2.1
theorem lY.trans {G G' G'':aP} (h:lY G G') (k:lY G' G''):lY G G'':=fun b l hb=>by
 obtain⟨l',h1,h2⟩:=h b l hb;obtain⟨l'',h3,h4⟩:=k b l' h1;exact⟨l'',h3,h2.trans h4⟩
theorem Inv.m1 {E:Env} {B:Own} {G0:aP} {w0:World} {s:St} {g:Gh} {a:Act} {w:World} (h:Inv E B G0 w0 s g a w):lY g.G1 g.G:=h.g1.trans h.ext.2.1
theorem Fe {B:Own} {w w':World} (h:B.n≤w.heap.size∧ ∀b,w.heap.size≤b→B.m b) (hs:w.heap.size≤w'.heap.size):B.n≤w'.heap.size∧ ∀b,w'.heap.size≤b→B.m b:=
 ⟨Nat.le_trans h.1 hs,fun b hb=>h.2 b (Nat.le_trans hs hb)⟩
theorem QA {g:Gh} {x:V} {v:Value} (hx:x.plain=true) (h:aO g.G x v):bH g x v:=by
 cases x with
 |sl e sh o xs=>cases o with
  |none=>exact h
  |some L=>cases hx
 |box k o=>cases hx
 |eptr _ _ _ _ _ _=>cases hx
 |slz _ _ _ _ _ _ _ _ _ _=>cases hx
 |epz _ _ _ _ _=>cases hx
 |keep _ _=>cases hx
 |old _=>cases hx
 |_=>exact h
theorem zA {g:Gh} {x:V} {v:Value} (h:aN g x v):aN g x.Dk v:=by
 cases x with
 |old x=>exact bR h.2.2 h.2.1
 |_=>exact h
theorem iV {g g':Gh} {x:V} {v:Value} (hf:Dm x=true) (h:aN g x v):aN g' x v:=by
 cases x with
 |any=>exact(show aO g'.G .any v by unfold aO;trivial)
 |bool b=>exact h
 |int k n=>exact h
 |str l=>exact h
 |nilsl=>exact h
 |nilif=>exact h
 |nilp=>exact h
 |_=>cases hf
theorem iY {g:Gh} {v:Value}:aN g .any v:=show aO g.G .any v by unfold aO;trivial
def Gh.g0 (g:Gh):Gh:=⟨g.G1,fun _=>none,fun _=>none,fun _=>none,fun _=>none⟩
theorem Km {g:Gh} {x:V} {v:Value} (h:aN g x v):aN g.g0 x.old0 v:=by
 cases x with
 |old x=>exact bR h.2.2 h.1
 |any=>exact iY
 |bool b=>exact iV (g:=g) rfl h
 |int k n=>exact iV (g:=g) rfl h
 |str l=>exact iV (g:=g) rfl h
 |nilsl=>exact iV (g:=g) rfl h
 |nilif=>exact iV (g:=g) rfl h
 |nilp=>exact iV (g:=g) rfl h
 |_=>exact iY
theorem NH {g:Gh} {x:V} {v:Value} (hx:x.fo=true) (hm:lY g.G1 g.G) (h:aN g.g0 x v):aN g (.old x) v:=by
 have key:x.plain=true∧aO g.G1 x v:=by
  cases x with
  |sl e sh o xs=>cases o with
   |none=>exact⟨rfl,h⟩
   |some L=>cases hx
  |agg cs=>exact⟨rfl,h⟩
  |rptr sh y off=>exact⟨rfl,h⟩
  |iface t y=>exact⟨rfl,h⟩
  |_=>cases hx
 exact⟨key.2,gX hm _ _ key.2,key.1⟩
structure tY (E:Env):Prop where
 mixed:E.P.follows .mixedOrders=true
 names:(E.P.funcs.all fun fn=>fn.body.isNone||fn.name != "runtime.NumGoroutine")=true
def New (w w':World) (G G':aP):Prop:=Below w.heap.size w w'∧(∀b,b<w.heap.size→G' b=G b)∧xB G' w'
def iH (G:aP) (w:World) (B:Nat→Prop) (e:Nat) (sh:List Kd) (xs:List V) (u:Value):Prop:=
 0<sh.length∧((u=.slice none 0 0∧xs=[])∨ ∃b cap cur l,u=.slice (some ⟨b,0,none⟩) xs.length cap∧B b∧w.heap[b]? =some (.cells cur e (0,0))∧xs.length≤cap∧cap≤maxLen∧
  cur.size=cap*sh.length∧G b=some l∧l.length=xs.length*sh.length∧bX G sh xs l)
def zk (G:aP) (w:World) (B:Nat→Prop) (e sz n:Nat) (u:Value) (l:List Value):Prop:=
 0<sz∧l.length=n*sz∧((u=.slice none 0 0∧n=0)∨ ∃b cap cur,u=.slice (some ⟨b,0,none⟩) n cap∧B b∧w.heap[b]? =some (.cells cur e (0,0))∧n≤cap∧cap≤maxLen∧cur.size=cap*sz∧cur.toList.take l.length=l∧G b=none)
def Does (P:Program) (ρ:Operand→Value) (o:Oper) (B:Own) (w:World) (g:Gh) (bx:List (Nat×List V)):Eff→Prop
 | .val v=>∃u,(execOp ρ o).run P w=.ok (.value u) w∧aN g v u
 | .own e sh xs=>∃u w' G',(execOp ρ o).run P w=.ok (.value u) w'∧New w w' g.G G'∧iH G' w' (w.heap.size≤ ·) e sh xs u
 | .newSl e sh xs=>∃u w' G',(execOp ρ o).run P w=.ok (.value u) w'∧New w w' g.G G'∧aO G' (.sl e sh none xs) u
 | .nS e cs=>∃c,(execOp ρ o).run P w=.ok (.value (.pointer (some ⟨w.heap.size,0,none⟩))) (w.alloc (.cells c e))∧PW (aN g) cs c.toList∧(∀u∈c.toList,u.oneCell'=true)∧(jB cs=true→o6 P e cs.length=true)
 | .put k off cs=>∃b c e us old,g.β k=some b∧ax bx k=some old∧w.heap[b]? =some (.cells c e (0,0))∧PW (aN g) old c.toList∧
  (execOp ρ o).run P w=.ok .skip (w.setRow b (c.toList.take off++us++c.toList.drop (off+us.length)).toArray)∧PW (aN g) cs us∧(∀u∈us,u.oneCell'=true)∧off+cs.length≤old.length
 | .app L e sh xs=>∃v0 u w' G',g.O L=some (v0,e,sh.length)∧(execOp ρ o).run P w=.ok (.value u) w'∧w.grownBy w' v0.ownBlock∧(∀b,b<w.heap.size→some b≠v0.ownBlock→G' b=g.G b)∧lY g.G G'∧xB G' w'∧
  iH G' w' (B.ok L) e sh xs u∧(u.ownBlock=v0.ownBlock∨ ∀b,u.ownBlock=some b→w.heap.size≤b)
 | .call f args mb ml=>∃(vs:List Value) (as:List V),(execOp ρ o).run P w=.ok (.enter f vs.toArray) w∧PW (LQ g) as vs∧o5 bx 0 as=some (args,mb,ml)∧oZ mb ml=true
 | .oL v=>∃u,(execOp ρ o).run P w=.halt (.panic u) w∧aO g.G v u
 | .pick b x y=>∃u,(execOp ρ o).run P w=.ok (.value u) w∧aN g (match b with|true=>x|false=>y) u
 | .FE L e sh ys=>∃v0 b c l p u xs,g.O L=some (v0,e,sh.length)∧v0.ownBlock=some b∧w.heap[b]? =some (.cells c e (0,0))∧g.G b=some l∧p<l.length∧uf g.G sh xs v0∧ys.length=xs.length∧sh.all flatK=true∧
  bX g.G sh ys (l.set p u)∧u.oneCell'=true∧(execOp ρ o).run P w=.ok .skip (w.setRow b (c.toList.take p++[u]++c.toList.drop (p+1)).toArray)
 | .ownz e sh xs c e2 bG=>∃u w' l,(execOp ρ o).run P w=.ok (.value u) w'∧Below w.heap.size w w'∧zk g.G w' (w.heap.size≤ ·) e sh.length xs.length u l∧bX g.G sh xs l∧0<bG.length∧ ∀y,l[c]? =some y→y=.slice none 0 0
 | .appz L e sh xs i c e2 bG=>∃v0 u w' l,g.O L=some (v0,e,sh.length)∧(execOp ρ o).run P w=.ok (.value u) w'∧w.grownBy w' v0.ownBlock∧(∀b,v0.ownBlock=some b→g.G b=none)∧zk g.G w' (B.ok L) e sh.length xs.length u l∧bX g.G sh xs l∧
  (u.ownBlock=v0.ownBlock∨ ∀b,u.ownBlock=some b→w.heap.size≤b)∧0<bG.length∧ ∀y,0≤i→l[i.toNat*sh.length+c]? =some y→y=.slice none 0 0
 | .FF L e sh xs i c L3 e2 bG ys=>∃v0 b cur l u,g.O L=some (v0,e,sh.length)∧g.C L=some l∧v0.ownBlock=some b∧w.heap[b]? =some (.cells cur e (0,0))∧i.toNat*sh.length+c<l.length∧u.oneCell'=true∧zG g sh xs v0 (l.set (i.toNat*sh.length+c) u)∧
  g.O L3=some (u,e2,bG.length)∧uf g.G bG ys u∧(execOp ρ o).run P w=.ok .skip (w.setRow b (cur.toList.take (i.toNat*sh.length+c)++[u]++cur.toList.drop (i.toNat*sh.length+c+1)).toArray)
 | .alts i vs=>∀(j:Nat) v,i=(j:Int)→vs[j]? =some v→ ∃u,(execOp ρ o).run P w=.ok (.value u) w∧aN g v u
theorem vo (G:aP) (v:Value):aO G (EI v) v:=by
 unfold EI;split
 ·unfold aO;rfl
 ·unfold aO;rfl
 ·rename_i s;unfold aO;cases s;simp
 ·unfold aO;rfl
 ·unfold aO;rfl
 ·unfold aO;rfl
 ·unfold aO;trivial
theorem HV (v:Value):(EI v).plain=true:=by unfold EI;split<;>rfl
theorem vv (G:aP) (v:Value):aO G (qi v) v:=by
 unfold qi;split
 ·rename_i cs
  unfold aO;refine⟨cs.toList,by simp,(dL _ _).2 ⟨by simp,fun i x v hx hv=>?_⟩⟩;simp only[List.getElem?_map,hv,Option.map_some,Option.some.injEq] at hx;subst hx;exact vo G v
 ·exact vo G v
theorem H6 (v:Value):(qi v).plain=true:=by unfold qi;split;rfl;exact HV v
section
variable {E:Env} {B:Own} {G0:aP} {w0:World} {s:St} {g:Gh} {a:Act} {w:World}
theorem eF (hf:PW (aN g) s.fr a.tmps.toList) (hg:nW E g.G) (x:Operand):aN g (nu E s.fr x) (a.eval x):=by
 cases x with
 |tmp t=>
  show aN g (slot s.fr t) (a.tmps.getD t undef);unfold slot;by_cases h:t<s.fr.length
  ·have h':t<a.tmps.toList.length:=by rw[←hf.1];exact h
   have:=hf.2 t s.fr[t] a.tmps.toList[t] (List.getElem?_eq_getElem h) (List.getElem?_eq_getElem h');rw[List.getD_eq_getElem?_getD,List.getElem?_eq_getElem h];have h'':t<a.tmps.size:=by simpa using h'
   have e:a.tmps.getD t undef=a.tmps.toList[t]:=by simp[Array.getD,h'']
   rw[e];exact this
  ·have:s.fr.getD t .any=.any:=by rw[List.getD_eq_getElem?_getD,List.getElem?_eq_none (Nat.le_of_not_lt h)];rfl
   rw[this];simp only[aN,bH];unfold aO;trivial
 |const v=>exact bR (H6 v) (vv g.G v)
 |global n=>
  show aN g (match E.glob n with|some v=>v|none=> .any) (.pointer (some ⟨n,0,none⟩))
  cases h:E.glob n with
  |none=>simp only[aN,bH];unfold aO;trivial
  |some v=>exact bR (hg n v h).1 (hg n v h).2
 |func f=>exact⟨[],(GH _).symm,.nil⟩
end
section
variable {P:Program} {ρ:Operand→Value} {o:Oper} {B:Own} {w:World} {g:Gh} {bx:List (Nat×List V)}
theorem bg {v:V} {u:Value} {m:Sem Value} (h1:execOp ρ o=(do pure (.value (←m)))) (h2:m.run P w=.ok u w) (h3:aN g v u):Does P ρ o B w g bx (.val v):=
 ⟨u,by rw[h1];simp[h2],h3⟩
theorem dx {b:Bool} {v:Value}:aN g (.bool b) v↔v=.bool b:=by simp only[aN,bH];unfold aO;rfl
theorem bY {k:IntKind} {n:Int} {v:Value}:aN g (.int k n) v↔v=.int k n:=by simp only[aN,bH];unfold aO;rfl
theorem gZ {l:List UInt8} {v:Value}:aN g (.str l) v↔v=.string ⟨l.toArray⟩:=by simp only[aN,bH];unfold aO;rfl
theorem mO {g:Gh} {v:Value}:aN g .nilif v↔v=.nilIface:=by simp only[aN,bH];unfold aO;exact Iff.rfl
theorem XK {g:Gh} {v:Value}:aN g .nilp v↔v=.pointer none:=by simp only[aN,bH];unfold aO;exact Iff.rfl
theorem jH {g:Gh} {t:Nat} {x:V} {v:Value}:aN g (.iface t x) v↔ ∃u,v=.iface t u∧aO g.G x u:=by
 simp only[aN,bH];constructor
 ·intro h;unfold aO at h;exact h
 ·intro h;unfold aO;exact h
theorem iy {v:Value}:aN g .nilsl v↔v=.slice none 0 0:=by simp only[aN,bH];unfold aO;rfl
theorem iI {cs:List V} {v:Value}:aN g (.agg cs) v↔ ∃a:List Value,v=.agg a.toArray∧PW (aO g.G) cs a:=by simp only[aN,bH];unfold aO;simp only[dL]
theorem dM {k off:Nat} {v:Value}:aN g (.box k off) v↔ ∃b,g.β k=some b∧v=.pointer (some ⟨b,off,none⟩):=by simp only[aN,bH]
theorem mI {L e:Nat} {sh:List Kd} {xs:List V} {i:Int} {off:Nat} {v:Value}:aN g (.eptr L e sh xs i off) v↔ ∃v0 b,g.O L=some (v0,e,sh.length)∧uf g.G sh xs v0∧0≤i∧i<(xs.length:Int)∧v0.ownBlock=some b∧v=.pointer (some ⟨b,i.toNat*sh.length+off,none⟩):=by simp only[aN,bH]
theorem nJ {L e:Nat} {sh:List Kd} {xs:List V} {o2:Option Nat} {i:Int} {c e2:Nat} {bG:List Kd} {ys:List V} {v:Value}:aN g (.slz L e sh xs o2 i c e2 bG ys) v↔ ∃l,g.O L=some (v,e,sh.length)∧g.C L=some l∧zG g sh xs v l∧ru g l sh.length o2 i c e2 bG ys:=by simp only[aN,bH]
theorem pE {L e sz:Nat} {i:Int} {off:Nat} {v:Value}:aN g (.epz L e sz i off) v↔ ∃v0 b l,g.O L=some (v0,e,sz)∧g.C L=some l∧0≤i∧i.toNat*sz+sz≤l.length∧v0.ownBlock=some b∧v=.pointer (some ⟨b,i.toNat*sz+off,none⟩):=by simp only[aN,bH]
theorem iK {sh:List Kd} {x:V} {off:Nat} {v:Value}:aN g (.rptr sh x off) v↔ ∃b o l,v=.pointer (some ⟨b,o+off,none⟩)∧g.G b=some l∧fJ sh x=true∧ ∃u,aO g.G x u∧(l.drop o).take sh.length=u.cells.toList:=by
 show aO g.G (.rptr sh x off) v↔_;rw[aO]
theorem kX {e:Nat} {sh:List Kd} {ow:Option Nat} {xs:List V} {v:Value} (h:aN g (.sl e sh ow xs) v):aO g.G (.sl e sh none xs) v:=by
 cases ow with
 |none=>exact h
 |some L=>exact nI h.2
theorem zB (a b:List UInt8):((⟨a.toArray⟩:ByteArray).toList==(⟨b.toArray⟩:ByteArray).toList)=seq a b:=by
 rw[ByteArray.toList_eq,ByteArray.toList_eq];rfl
theorem XL (a b:List UInt8):(⟨a.toArray⟩:ByteArray)++⟨b.toArray⟩=⟨(gy a b).toArray⟩:=by
 apply ByteArray.ext
 simp[gy]
theorem QB (op:BinOp) (t:TypeId) (x y:Operand) (k k':IntKind) (a b:Int):(eqGuard op t x y (.int k a) (.int k' b)).run P w=.ok () w:=by
 unfold eqGuard;split<;>rfl
theorem QC (op:BinOp) (t:TypeId) (x y:Operand) (a b:ByteArray):(eqGuard op t x y (.string a) (.string b)).run P w=.ok () w:=by
 unfold eqGuard;split<;>rfl
theorem BH (op:BinOp) (t:TypeId) (x y:Operand) (a b:Bool):(eqGuard op t x y (.bool a) (.bool b)).run P w=.ok () w:=by
 unfold eqGuard;split<;>rfl
theorem QD {op : BinOp} {xt yt : TypeId} {x y : Operand} {X Y : V} (ho : o.op = .binOp op xt x y yt) (hx : aN g X (ρ x)) (hy : aN g Y (ρ y)) {v : V} (h : binV op X Y = some (true, v))
    (hbool : ∀ a b, X = .bool a → Y = .bool b → P.underlying xt = some .bool) : Does P ρ o B w g bx (.val v) := by
  have he : execOp ρ o = (do pure (.value (← (do eqGuard op xt x y (ρ x) (ρ y); binOp op xt (ρ x) (ρ y))))) := by simp only [execOp, ho]
  unfold binV at h
  split at h
  · rename_i k a k' b
    rw [bY] at hx hy
    have key : ∀ u, (binOp op xt (.int k a) (.int k' b)).run P w = .ok u w → aN g v u → Does P ρ o B w g bx (.val v) := by
      intro u hu ht
      refine bg he ?_ ht
      rw [hx, hy]
      simp only [Sem.run_bind, QB, Result.andThen_ok, hu]
    split at h
    · simp only [Option.some.injEq, Prod.mk.injEq] at h
      obtain ⟨h1, rfl⟩ := h
      unfold ak at h1
      have h1 := of_decide_eq_true h1
      refine key (.int k (ishl k a b)) ?_ (bY.2 rfl)
      simp [binOp, Op.shift, ishl, Int.not_lt.2 h1]
    · simp only [Option.some.injEq, Prod.mk.injEq] at h
      obtain ⟨h1, rfl⟩ := h
      unfold ak at h1
      have h1 := of_decide_eq_true h1
      refine key (.int k (ishr k a b)) ?_ (bY.2 rfl)
      simp [binOp, Op.shift, ishr, Int.not_lt.2 h1]
    · rename_i hn1 hn2
      simp only [cond_eq_ite, decide_eq_true_eq] at h
      split at h
      · rename_i hk
        subst hk
        unfold intV at h
        split at h
        all_goals first | (cases h; done) | skip
        all_goals
          simp only [Option.some.injEq, Prod.mk.injEq] at h
          obtain ⟨h1, rfl⟩ := h
          first
            | refine key _ (by simp only [binOp, ne_eq, not_true_eq_false, if_false, Op.intArith]; rfl) (bY.2 rfl)
            | refine key _ (by simp only [binOp, ne_eq, not_true_eq_false, if_false, Op.intBits]; rfl) (bY.2 rfl)
            | refine key _ (by simp only [binOp, ne_eq, not_true_eq_false, if_false, Op.intCmp]; rfl) (dx.2 rfl)
            | (have hb : b ≠ 0 := by
                 intro hb
                 subst hb
                 simp [aK, ieq] at h1
               refine key _ (by simp only [binOp, ne_eq, not_true_eq_false, if_false, Op.intDiv, hb]; rfl) (bY.2 rfl))
      · cases h
  · rename_i a b
    rw [gZ] at hx hy
    have key : ∀ u, (Op.stringOp op ⟨a.toArray⟩ ⟨b.toArray⟩).run P w = .ok u w → aN g v u → Does P ρ o B w g bx (.val v) := by
      intro u hu ht
      refine bg he ?_ ht
      rw [hx, hy]
      have e : binOp op xt (.string ⟨a.toArray⟩) (.string ⟨b.toArray⟩) = Op.stringOp op ⟨a.toArray⟩ ⟨b.toArray⟩ := by cases op <;> rfl
      simp only [Sem.run_bind, QC, Result.andThen_ok, e, hu]
    unfold lX at h
    split at h
    all_goals first | (cases h; done) | skip
    all_goals
      simp only [Option.some.injEq, Prod.mk.injEq] at h
      obtain ⟨h1, rfl⟩ := h
    · unfold gz nle at h1
      have h1 := of_decide_eq_true h1
      refine key (.string ⟨(gy a b).toArray⟩) ?_ (gZ.2 rfl)
      have hs : ¬ (((⟨a.toArray⟩ : ByteArray).size + (⟨b.toArray⟩ : ByteArray).size : Nat) : Int) > IntKind.i64.max := by
        have e1 : (⟨a.toArray⟩ : ByteArray).size = a.length := by simp [ByteArray.size]
        have e2 : (⟨b.toArray⟩ : ByteArray).size = b.length := by simp [ByteArray.size]
        rw [e1, e2]
        have : IntKind.i64.max = 9223372036854775807 := by decide
        rw [this]; omega
      simp only [Op.stringOp, hs, if_false, XL]
      rfl
    · refine key _ (by simp only [Op.stringOp, zB]; rfl) (dx.2 rfl)
    · refine key _ (by simp only [Op.stringOp, zB]; rfl) (dx.2 rfl)
    · refine key _ (by simp only [Op.stringOp, ByteArray.toList_eq]; rfl) (dx.2 rfl)
    · refine key _ (by simp only [Op.stringOp, ByteArray.toList_eq]; rfl) (dx.2 rfl)
    · refine key (.bool (ai (aK (slt a b)) (aK (seq a b)))) ?_ (dx.2 rfl)
      have e : (!(Op.bytesLess a b || a == b)) = ai (aK (slt a b)) (aK (seq a b)) := by
        unfold slt seq; cases Op.bytesLess a b <;> cases a == b <;> rfl
      rw [← e]
      simp only [Op.stringOp, ByteArray.toList_eq]; rfl
    · refine key (.bool (aK (ai (aK (slt a b)) (aK (seq a b))))) ?_ (dx.2 rfl)
      have e : (Op.bytesLess a b || a == b) = aK (ai (aK (slt a b)) (aK (seq a b))) := by
        unfold slt seq; cases Op.bytesLess a b <;> cases a == b <;> rfl
      rw [← e]
      simp only [Op.stringOp, ByteArray.toList_eq]; rfl
  · rename_i a b
    have hu := hbool a b rfl rfl
    rw [dx] at hx hy
    have hq : (Op.equal xt (.bool a) (.bool b)).run P w = .ok (a == b) w := by
      have e : Op.equal xt (.bool a) (.bool b) = Op.equalIn (9999 + 1) xt (.bool a) (.bool b) := rfl
      rw [e, Op.equalIn]
      simp only [Sem.run_bind, run_underlying hu, Result.andThen_ok]
      rfl
    split at h
    all_goals first | (cases h; done) | skip
    all_goals
      simp only [Option.some.injEq, Prod.mk.injEq] at h
      obtain ⟨h1, rfl⟩ := h
    · refine bg he (u := .bool (a == b)) ?_ (dx.2 rfl)
      rw [hx, hy]
      simp only [Sem.run_bind, BH, Result.andThen_ok, binOp, hq, Sem.run_pure]
    · refine bg he (u := .bool (!(a == b))) ?_ (dx.2 rfl)
      rw [hx, hy]
      simp only [Sem.run_bind, BH, Result.andThen_ok, binOp, hq, Sem.run_pure]
  · cases h
end
mutual
theorem Kd.eq_sound: ∀(a b:Kd),Kd.eq a b=true→a=b
 | .bool,.bool,_=>rfl
 | .int k,.int k',h=>by simp only[Kd.eq,beq_iff_eq] at h;rw[h]
 | .str,.str,_=>rfl
 | .sl e sh,.sl e' sh',h=>by
  simp only[Kd.eq,Bool.and_eq_true,beq_iff_eq] at h;rw[h.1,Kd.bK sh sh' h.2]
 | .oth,.oth,h=>by simp[Kd.eq] at h
 | .bool,.int _,h=>by simp[Kd.eq] at h
 | .bool,.str,h=>by simp[Kd.eq] at h
 | .bool,.sl _ _,h=>by simp[Kd.eq] at h
 | .bool,.oth,h=>by simp[Kd.eq] at h
 | .int _,.bool,h=>by simp[Kd.eq] at h
 | .int _,.str,h=>by simp[Kd.eq] at h
 | .int _,.sl _ _,h=>by simp[Kd.eq] at h
 | .int _,.oth,h=>by simp[Kd.eq] at h
 | .str,.bool,h=>by simp[Kd.eq] at h
 | .str,.int _,h=>by simp[Kd.eq] at h
 | .str,.sl _ _,h=>by simp[Kd.eq] at h
 | .str,.oth,h=>by simp[Kd.eq] at h
 | .sl _ _,.bool,h=>by simp[Kd.eq] at h
 | .sl _ _,.int _,h=>by simp[Kd.eq] at h
 | .sl _ _,.str,h=>by simp[Kd.eq] at h
 | .sl _ _,.oth,h=>by simp[Kd.eq] at h
 | .oth,.bool,h=>by simp[Kd.eq] at h
 | .oth,.int _,h=>by simp[Kd.eq] at h
 | .oth,.str,h=>by simp[Kd.eq] at h
 | .oth,.sl _ _,h=>by simp[Kd.eq] at h
theorem Kd.bK: ∀(a b:List Kd),Kd.qV a b=true→a=b
 |[],[],_=>rfl
 |[],_::_,h=>by simp[Kd.qV] at h
 |_::_,[],h=>by simp[Kd.qV] at h
 |a::l,b::m,h=>by
  simp only[Kd.qV,Bool.and_eq_true] at h;rw[Kd.eq_sound a b h.1,Kd.bK l m h.2]
end
theorem Cy: ∀(sh:List Kd) (vs:List V),bC sh vs=true→ ∀(j:Nat) k v,sh[j]? =some k→vs[j]? =some v→fits k v=true
 |[],_,_,j,_,_,h,_=>by simp at h
 |_::_,[],h,_,_,_,_,_=>by simp[bC] at h
 |k::sh,v::vs,h,0,k',v',h1,h2=>by
  simp only[bC,ai] at h;simp at h1 h2;subst h1;subst h2;split at h
  ·assumption
  ·cases h
 |k::sh,v::vs,h,j+1,k',v',h1,h2=>by
  simp only[bC,ai] at h;split at h
  ·exact Cy sh vs h j k' v' (by simpa using h1) (by simpa using h2)
  ·cases h
theorem fits_one {G:aP} {k:Kd} {v:V} {u:Value} (hf:fits k v=true) (h:aO G v u):u.oneCell'=true:=by
 cases v<;>cases k<;>simp[fits] at hf<;>unfold aO at h
 all_goals first|(subst h;rfl)|(obtain⟨p,cap,rfl,_⟩:=h;rfl)
theorem eta_rep {G:aP} {k:Kd} {v:V} {u:Value} (hf:fits k v=true) (h:aO G v u):aO G (eta k v) u:=by
 cases k with
 |bool=>cases v<;>simp[fits] at hf;exact h
 |int k=>
  cases v<;>simp[fits] at hf
  subst hf;exact h
 |str=>cases v<;>simp[fits] at hf;exact h
 |sl e sh=>
  cases v with
  |sl e' sh' o xs=>
   simp only[fits,Bool.and_eq_true,beq_iff_eq] at hf;obtain⟨rfl,h2⟩:=hf;obtain rfl:=Kd.bK _ _ h2;exact wL h
  |nilsl=>
   unfold aO at h;subst h;show aO G (.sl e sh none []) _;unfold aO;exact⟨none,0,rfl,Nat.le_refl _,.inl rfl⟩
  |_=>simp[fits] at hf
 |oth=>cases v<;>simp[fits] at hf
theorem XM {k:Kd} {v:V} (hf:fits k v=true):(eta k v).plain=true:=by
 cases k<;>first|rfl|(cases v<;>simp[fits] at hf)
theorem XN {x y:V} {j:Nat} (h:x.cells[j]? =some y):ah x j=y:=by
 cases x with
 |agg cs=>simp only[V.cells] at h;simp[ah,h]
 |_=>
  simp only[V.cells] at h
  cases j with
  |zero=>simp at h;subst h;rfl
  |succ j=>simp at h
section
variable {P:Program} {ρ:Operand→Value} {o:Oper} {B:Own} {w:World} {g:Gh} {bx:List (Nat×List V)}
theorem vN {t:TypeId} (h:bM P t=some true): ∃d,P.underlying t=some d∧d.isRow=true:=by
 unfold bM at h;split at h
 ·rename_i hd;exact⟨_,hd,rfl⟩
 ·rename_i hd;exact⟨_,hd,rfl⟩
 ·cases h
 ·cases h
theorem mP {t:TypeId} {b:Bool} (h:bM P t=some b):(isAgg t).run P w=.ok b w:=by
 unfold bM at h;split at h
 ·rename_i hd;simp only[Option.some.injEq] at h;subst h;simp[isAgg,run_underlying hd]
 ·rename_i hd;simp only[Option.some.injEq] at h;subst h;simp[isAgg,run_underlying hd]
 ·rename_i d h1 h2 hd
  simp only[Option.some.injEq] at h;subst h;simp only[isAgg,Sem.run_bind,run_underlying hd,Result.andThen_ok]
  cases d<;>first|rfl|exact absurd rfl (h1 _)|exact absurd rfl (h2 _ _)
 ·cases h
theorem kY {t:TypeId} {n:Nat} (h:dn P t=some n): ∃i,P.info? t=some i∧i.size=n:=by
 unfold dn at h;split at h
 ·rename_i i hi;exact⟨i,hi,by simpa using h⟩
 ·cases h
theorem dF {t:TypeId} {n:Nat} (h:dn P t=some n):(Go.sizeOf t).run P w=.ok n w:=by
 obtain⟨i,hi,rfl⟩:=kY h;simp[Go.sizeOf,typeInfo,hi]
theorem jI {G:aP} (hG:xB G w) {b:Nat} {l:List Value} (h:G b=some l) {j:Nat} {u:Value} (hu:l[j]? =some u):w.cell? ⟨b,j,none⟩=some u:=by
 obtain⟨c,e,fr,hc,ht⟩:=hG b l h;have:c.toList[j]? =some u:=by
  rw[←ht,List.getElem?_take] at hu;split at hu
  ·exact hu
  ·cases hu
 simp[World.cell?,hc,Array.getElem?_toList] at this⊢;simpa using this
theorem Pk {t:TypeId} {b o:Nat} {cs:List Value} (ha:bM P t=some true) (hs:dn P t=some cs.length) (hc: ∀j u,cs[j]? =some u→w.cell? ⟨b,o+j,none⟩=some u):
  (Instr.loadAt t (.pointer (some ⟨b,o,none⟩))).run P w=.ok (.agg cs.toArray) w:=by
 obtain⟨d,hd,hr⟩:=vN ha;obtain⟨i,hi,hn⟩:=kY hs;exact run_loadAt_mid w b o t cs d hc hd hr (by rw[hi];simp[hn])
theorem GL {t:TypeId} {b o:Nat} {u:Value} (ha:bM P t=some false) (hc:w.cell? ⟨b,o,none⟩=some u):
  (Instr.loadAt t (.pointer (some ⟨b,o,none⟩))).run P w=.ok u w:=by
 simp only[Instr.loadAt,Instr.sureAddr,loadVar,Sem.run_bind,Sem.run_pure,Result.andThen_ok,mP ha,Bool.false_eq_true,if_false,run_load,hc]
theorem Dy {t:TypeId} {a:Operand} {sh:List Kd} {x:V} {off:Nat} {eff:Eff} (ho:o.op=.load t a) (hG:xB g.G w) (ha:aN g (.rptr sh x off) (ρ a)) (h:U3 P t sh x off=some (true,eff)):Does P ρ o B w g bx eff:=by
 rw[iK] at ha;obtain⟨b,q,l,hp,hl,hf,u,hu,hc⟩:=ha;have he:execOp ρ o=(do pure (.value (←Instr.loadAt t (ρ a)))):=by simp only[execOp,ho]
 have hx:x≠.any:=fun e=>by rw[e,lC] at hf;cases hf
 obtain⟨hlen,hpw⟩:=mH hu hx;have Xk:=jd _ _ hf;have hcell: ∀j v,u.cells.toList[j]? =some v→w.cell? ⟨b,q+j,none⟩=some v:=by
  intro j v hv;refine jI hG hl ?_;rw[←hc,List.getElem?_take] at hv;split at hv
  ·rw[List.getElem?_drop] at hv;exact hv
  ·cases hv
 have heta: ∀j k v,sh[j]? =some k→u.cells.toList[j]? =some v→fits k (ah x j)=true∧aO g.G (eta k (ah x j)) v:=by
  intro j k v hk hv;have hj:j<x.cells.length:=by
   have:=(List.getElem?_eq_some_iff.1 hk).1;unfold fJ at hf;omega
  have hy:=List.getElem?_eq_getElem hj;rw[XN hy];have h1:=Cy sh x.cells hf j k _ hk hy;exact⟨h1,eta_rep h1 (hpw.2 j _ v hy hv)⟩
 unfold U3 at h;split at h
 ·rename_i n hagg hs
  simp only[cond_eq_ite] at h;split at h
  ·rename_i hle
   have hle:=Nat.le_of_ble_eq_true hle;simp only[ok,Option.some.injEq,Prod.mk.injEq,true_and] at h;subst h;have hcs:((u.cells.toList.drop off).take n).length=n:=by simp;omega
   refine bg he (u:=.agg ((u.cells.toList.drop off).take n).toArray) ?_ (iI.2 ⟨_,rfl,?_⟩)
   ·rw[hp]
    refine Pk hagg (by rw[hcs];exact hs) ?_;intro j v hv;rw[List.getElem?_take] at hv;split at hv
    ·rw[List.getElem?_drop] at hv
     rw[Nat.add_assoc];exact hcell _ _ hv
    ·cases hv
   ·refine⟨by simp;omega,fun j y v hy hv=>?_⟩
    rw[List.getElem?_take] at hv;split at hv
    ·rename_i hj
     rw[List.getElem?_drop] at hv;simp only[List.getElem?_map,List.getElem?_range hj,Option.map_some,Option.some.injEq] at hy;subst hy;have hk:off+j<sh.length:=by omega
     rw[List.getD_eq_getElem?_getD,List.getElem?_eq_getElem hk];exact(heta _ _ _ (List.getElem?_eq_getElem hk) hv).2
    ·cases hv
  ·cases h
 ·rename_i hagg
  simp only[cond_eq_ite] at h;split at h
  ·rename_i hlt
   have hlt:off<sh.length:=by simpa[Nat.blt_eq] using hlt
   simp only[ok,Option.some.injEq,Prod.mk.injEq,true_and] at h;subst h;have hj:off<u.cells.toList.length:=by simp;unfold fJ at hf;omega
   have hv:=List.getElem?_eq_getElem hj;have hk:=List.getElem?_eq_getElem hlt;obtain⟨h1,h2⟩:=heta off _ _ hk hv;refine bg he (u:=u.cells.toList[off]) ?_ ?_
   ·rw[hp];exact GL hagg (hcell _ _ hv)
   ·rw[List.getD_eq_getElem?_getD,hk]
    exact bR (XM h1) h2
  ·cases h
 ·cases h
theorem Kn {cells cs:List V} {us:List Value} {off n:Nat} (h:Gf cells off n=some cs) (hp:PW (aN g) cells us):off+n≤us.length∧PW (aO g.G) cs ((us.drop off).take n):=by
 unfold Gf at h;simp only[cond_eq_ite] at h;split at h
 ·rename_i hle
  have hle:=Nat.le_of_ble_eq_true hle;exact⟨by rw[←hp.1];exact hle,GJ _ _ _ h ((hp.drop off).take n)⟩
 ·cases h
theorem getD_some {l:List V} {i:Nat} (h:i<l.length):l[i]? =some (l.getD i .any):=by
 rw[List.getD_eq_getElem?_getD,List.getElem?_eq_getElem h];rfl
theorem NI {t:TypeId} {a:Operand} {k off:Nat} {cells:List V} (ho:o.op=.load t a) (hB:Z0 P B g bx w) (ha:aN g (.box k off) (ρ a)) (hl:ax bx k=some cells):
  (∀n cs,bM P t=some true→dn P t=some n→Gf cells off n=some cs→Does P ρ o B w g bx (.val (.agg cs)))∧
  (bM P t=some false→off<cells.length→Does P ρ o B w g bx (.val (cells.getD off .any))):=by
 have he:execOp ρ o=(do pure (.value (←Instr.loadAt t (ρ a)))):=by simp only[execOp,ho]
 obtain⟨b,hb,hp⟩:=dM.1 ha;obtain⟨b',c,e,hb',_,hh,hpw,_,_⟩:=hB.1 k cells hl;rw[hb] at hb';simp only[Option.some.injEq] at hb';subst hb';have hcell: ∀j v,c.toList[j]? =some v→w.cell? ⟨b,j,none⟩=some v:=by
  intro j v hv;simp only[World.cell?,hh];simpa using hv
 constructor
 ·intro n cs hagg hs hr
  obtain⟨h1,h2⟩:=Kn hr hpw;have hlen:((c.toList.drop off).take n).length=n:=by rw[List.length_take,List.length_drop];omega
  refine bg he (u:=.agg ((c.toList.drop off).take n).toArray) ?_ (iI.2 ⟨_,rfl,h2⟩);rw[hp];refine Pk hagg (by rw[hlen];exact hs) ?_;intro j v hv;rw[List.getElem?_take] at hv;split at hv
  ·rw[List.getElem?_drop] at hv;exact hcell _ _ hv
  ·cases hv
 ·intro hagg hlt
  obtain⟨v,hv,hr⟩:=hpw.get (getD_some hlt);refine bg he (u:=v) ?_ hr;rw[hp];exact GL hagg (hcell _ _ hv)
theorem BI {t:TypeId} {f:Nat} {fd:Field} (h:wm P t f=some fd): ∃fs,P.underlying t=some (.struct fs)∧fs[f]? =some fd:=by
 unfold wm at h;split at h
 ·rename_i fs hfs;exact⟨fs,hfs,h⟩
 ·cases h
theorem mV {t:TypeId} {f:Nat} {fd:Field} {n b q:Nat} (h:wm P t f=some fd) (hs:dn P fd.type=some n) (hn:n≠0):
  (Instr.fieldAt t (.pointer (some ⟨b,q,none⟩)) f).run P w=.ok (.pointer (some ⟨b,q+fd.offset,none⟩)) w:=by
 obtain⟨fs,hfs,hf⟩:=BI h;simp[Instr.fieldAt,run_underlying hfs,hf,Instr.sureAddr,fieldPlace,dF hs,hn,Addr.add_mid]
theorem Pm {G:aP} {x y:V} {v:Value} (h:aO G x v) (hd:x.deep=some y):aO G y v:=by
 cases x with
 |fn f c=>cases c with
  |nil=>simp only[V.deep,Option.some.injEq] at hd;subst hd;exact h
  |cons _ _=>simp[V.deep] at hd
 |iface t x=>simp only[V.deep,Option.some.injEq] at hd;subst hd;exact h
 |_=>simp[V.deep] at hd<;>subst hd<;>first|exact h|exact wL h
theorem NJ {t:TypeId} {x:Operand} {f:Nat} {fd:Field} {cs:List V} {eff:Eff} (ho:o.op=.field t x f) (hf:wm P t f=some fd) (hx:aN g (.agg cs) (ρ x)) (h:partOf P fd.type cs fd.offset=some (true,eff)):Does P ρ o B w g bx eff:=by
 obtain⟨a,ha,hpw⟩:=iI.1 hx;have he:execOp ρ o=(do pure (.value (←Instr.field t (ρ x) f))):=by simp only[execOp,ho]
 obtain⟨fs,hfs,hfd⟩:=BI hf;have hrun:(Instr.field t (ρ x) f).run P w=(part fd.type a.toArray fd.offset).run P w:=by
  rw[ha];simp[Instr.field,run_underlying hfs,hfd,asAgg]
 unfold partOf at h;split at h
 ·rename_i n hagg hs
  simp only[cond_eq_ite] at h;split at h
  ·rename_i hle
   simp only[ok,Option.some.injEq,Prod.mk.injEq,true_and] at h;subst h;refine bg he (u:=.agg ((a.drop fd.offset).take n).toArray) ?_ (iI.2 ⟨_,rfl,(hpw.drop _).take _⟩);rw[hrun];simp only[part,Sem.run_bind,mP hagg,Result.andThen_ok,if_true,dF hs,Sem.run_pure];have e:a.toArray.extract fd.offset (fd.offset+n)=(List.take n (List.drop fd.offset a)).toArray:=by
    rw[←Array.toList_inj];simp
   rw[e]
  ·cases h
 ·rename_i hagg
  simp only[cond_eq_ite] at h;split at h
  ·rename_i hlt
   have hlt:fd.offset<cs.length:=by simpa[Nat.blt_eq] using hlt
   split at h
   ·rename_i y hy
    simp only[ok,Option.some.injEq,Prod.mk.injEq,true_and] at h;subst h;obtain⟨v,hv,hr⟩:=hpw.get (getD_some hlt);refine bg he (u:=v) ?_ (bR (jG hy) (Pm hr hy));rw[hrun];simp[part,mP hagg,hv]
   ·cases h
  ·cases h
 ·cases h
end
theorem vw {G:aP} {sh:List Kd}: ∀(xs:List V) (cells:List Value),bX G sh xs cells→ ∀(i:Nat) x,xs[i]? =some x→fJ sh x=true∧ ∃u,aO G x u∧(cells.drop (i*sh.length)).take sh.length=u.cells.toList
 |[],_,_,i,_,h=>by simp at h
 |y::xs,cells,h,0,x,hx=>by
  unfold bX at h;simp at hx;subst hx;exact⟨h.1,by simpa using h.2.1⟩
 |y::xs,cells,h,i+1,x,hx=>by
  unfold bX at h;have:=vw xs _ h.2.2 i x (by simpa using hx);rw[List.drop_drop] at this;rw[show(i+1)*sh.length=sh.length+i*sh.length by rw[Nat.add_mul,Nat.one_mul,Nat.add_comm]];exact this
theorem Ko {G:aP} {sh:List Kd}: ∀(n:Nat) (xs:List V) (cells:List Value),bX G sh xs cells→bX G sh (xs.drop n) (cells.drop (n*sh.length))
 |0,xs,cells,h=>by simpa using h
 |n+1,[],cells,h=>by simp[gW]
 |n+1,y::xs,cells,h=>by
  unfold bX at h;have:=Ko n xs _ h.2.2;rw[List.drop_drop] at this;rw[show(n+1)*sh.length=sh.length+n*sh.length by rw[Nat.add_mul,Nat.one_mul,Nat.add_comm],List.drop_succ_cons];exact this
theorem Kq {G:aP} {sh:List Kd}: ∀(n:Nat) (xs:List V) (cells:List Value),bX G sh xs cells→bX G sh (xs.take n) cells
 |0,xs,cells,h=>by simp[gW]
 |n+1,[],cells,h=>by simp[gW]
 |n+1,y::xs,cells,h=>by
  unfold bX at h;rw[List.take_succ_cons];unfold bX;exact⟨h.1,h.2.1,Kq n xs _ h.2.2⟩
theorem vO {G:aP} {sh:List Kd}: ∀(xs ys:List V) (c d:List Value),bX G sh xs c→bX G sh ys d→c.length=xs.length*sh.length→bX G sh (xs++ys) (c++d)
 |[],ys,c,d,_,hy,hl=>by
  have:c=[]:=List.eq_nil_of_length_eq_zero (by simpa using hl);subst this;exact hy
 |x::xs,ys,c,d,hx,hy,hl=>by
  unfold bX at hx;rw[List.cons_append];unfold bX;have hl':sh.length≤c.length:=by rw[hl,List.length_cons,Nat.add_mul];omega
  refine⟨hx.1,?_,?_⟩
  ·rw[List.take_append_of_le_length hl'];exact hx.2.1
  ·rw[List.drop_append_of_le_length hl']
   exact vO xs ys _ d hx.2.2 hy (by rw[List.length_drop,hl,List.length_cons,Nat.add_mul];omega)
theorem zC {G:aP} {sh:List Kd}: ∀(xs:List V) (cells:List Value),bX G sh xs cells→xs.length*sh.length≤cells.length∧bX G sh xs (cells.take (xs.length*sh.length))
 |[],cells,h=>by simp[gW]
 |x::xs,cells,h=>by
  have h':=h;unfold bX at h;have ⟨i1,i2⟩:=zC xs _ h.2.2;obtain⟨u,hu,hc⟩:=h.2.1;have hlen:=oG h.1 hu;rw[←hc,List.length_take] at hlen;have e:(x::xs).length*sh.length=sh.length+xs.length*sh.length:=by rw[List.length_cons,Nat.add_mul,Nat.one_mul,Nat.add_comm]
  rw[List.length_drop] at i1;refine⟨by rw[e];omega,?_⟩;unfold bX;refine⟨h.1,⟨u,hu,?_⟩,?_⟩
  ·rw[List.take_take,e,Nat.min_eq_left (by omega)];exact hc
  ·rw[List.drop_take,e,Nat.add_sub_cancel_left];exact i2
theorem Pn {G:aP} {sh:List Kd}: ∀(xs:List V) (cells:List Value),bX G sh xs cells→ ∀u∈cells.take (xs.length*sh.length),u.oneCell'=true
 |[],cells,h,u,hu=>by simp at hu
 |x::xs,cells,h,u,hu=>by
  unfold bX at h;obtain⟨v,hv,hc⟩:=h.2.1;have e:(x::xs).length*sh.length=sh.length+xs.length*sh.length:=by rw[List.length_cons,Nat.add_mul,Nat.one_mul,Nat.add_comm]
  rw[e,List.take_add,List.mem_append] at hu;rcases hu with hu|hu
  ·rw[hc] at hu
   have hx:x≠.any:=fun e=>by have h1:=h.1;rw[e,lC] at h1;cases h1
   obtain⟨hl,hpw⟩:=mH hv hx;obtain⟨j,hj,rfl⟩:=List.getElem_of_mem hu;have hj':j<x.cells.length:=by rw[hpw.1];exact hj
   have hs:=jd _ _ h.1;exact fits_one (Cy sh x.cells h.1 j _ _ (List.getElem?_eq_getElem (by omega)) (List.getElem?_eq_getElem hj')) (hpw.2 j _ _ (List.getElem?_eq_getElem hj') (List.getElem?_eq_getElem hj))
  ·exact Pn xs _ h.2.2 u hu
theorem rQ (a:List Value):(Value.agg a.toArray).cells.toList=a:=by simp[Value.cells]
theorem qF {G:aP} {sh:List Kd} {ag:Bool} (hag:(ag||sh.length==1)=true): ∀(n:Nat) (cs:List V) (us:List Value),PW (aO G) cs us→cs.length=n*sh.length→0<sh.length→wh sh (chunks ag sh.length n cs)=true→
  bX G sh (chunks ag sh.length n cs) us
 |0,cs,us,_,_,_,_=>by unfold chunks;exact gW
 |n+1,cs,us,hp,hl,h0,hf=>by
  unfold chunks at hf⊢;simp only[wh,ai] at hf;split at hf
  ·rename_i hf1
   unfold bX;have e:(n+1)*sh.length=sh.length+n*sh.length:=by rw[Nat.add_mul,Nat.one_mul,Nat.add_comm]
   refine⟨hf1,?_,qF hag n _ _ (hp.drop _) (by rw[List.length_drop,hl,e];omega) h0 hf⟩
   cases ag with
   |true=>
    refine⟨.agg (us.take sh.length).toArray,?_,by rw[rQ]⟩;show aO G (.agg _) _;unfold aO;exact⟨_,rfl,(dL _ _).2 (hp.take _)⟩
   |false=>
    simp only[Bool.false_or,beq_iff_eq] at hag;have hlt:0<cs.length:=by rw[hl,e];omega
    obtain⟨v,hv,hr⟩:=hp.get (getD_some (l:=cs) (i:=0) hlt);generalize cs.getD 0 .any=x at hr hf1⊢;have hf2:fJ sh (sQ x)=true:=hf1;have hne:sQ x≠.any:=by
     intro e;rw[e,lC] at hf2;exact absurd hf2 (by decide)
    have hx:sQ x=x∧v.cells= #[v]:=by
     cases x with
     |agg ds=>exact absurd rfl hne
     |tup ds=>exact absurd rfl hne
     |any=>exact absurd rfl hne
     |bool b=>unfold aO at hr;subst hr;exact⟨rfl,rfl⟩
     |int k m=>unfold aO at hr;subst hr;exact⟨rfl,rfl⟩
     |str l=>unfold aO at hr;subst hr;exact⟨rfl,rfl⟩
     |nilsl=>unfold aO at hr;subst hr;exact⟨rfl,rfl⟩
     |sl e s2 o xs=>unfold aO at hr;obtain⟨p,cap,rfl,_⟩:=hr;exact⟨rfl,rfl⟩
     |rptr s2 x off=>unfold aO at hr;obtain⟨b,o,l,rfl,_⟩:=hr;exact⟨rfl,rfl⟩
     |box k o=>unfold aO at hr;exact hr.elim
     |eptr _ _ _ _ _ _=>unfold aO at hr;exact hr.elim
     |fn f c=>unfold aO at hr;obtain⟨rfl,_⟩:=hr;exact⟨rfl,rfl⟩
     |nilif=>unfold aO at hr;subst hr;exact⟨rfl,rfl⟩
     |nilp=>unfold aO at hr;subst hr;exact⟨rfl,rfl⟩
     |iface t y=>unfold aO at hr;obtain⟨u,rfl,_⟩:=hr;exact⟨rfl,rfl⟩
     |bxa _ _=>unfold aO at hr;exact hr.elim
     |out _ _ _=>unfold aO at hr;exact hr.elim
     |qb _ _ _=>unfold aO at hr;exact hr.elim
     |old _=>unfold aO at hr;exact hr.elim
     |slz _ _ _ _ _ _ _ _ _ _=>unfold aO at hr;exact hr.elim
     |epz _ _ _ _ _=>unfold aO at hr;exact hr.elim
     |keep _ _=>unfold aO at hr;exact hr.elim
    show∃u,aO G (sQ x) u∧_;refine⟨v,by rw[hx.1];exact hr,?_⟩;rw[hx.2,hag]
    cases us with
    |nil=>simp at hv
    |cons u us=>simp at hv;subst hv;rfl
  ·cases hf
section
variable {P:Program} {ρ:Operand→Value} {o:Oper} {B:Own} {w:World} {g:Gh} {bx:List (Nat×List V)}
theorem aR {a b:Bool} (h:ai a b=true):a=true∧b=true:=by
 cases a
 ·cases h
 ·exact⟨rfl,h⟩
theorem dJ {a b:Int} (h:ak a b=true):a≤b:=of_decide_eq_true h
theorem Bb {a b:Int} (h:aU a b=true):a<b:=of_decide_eq_true h
theorem tq {t e:TypeId} (h:J3 P t=some e):P.underlying t=some (.slice e):=by
 unfold J3 at h;split at h
 ·rename_i e' he;simp only[Option.some.injEq] at h;subst h;exact he
 ·cases h
theorem aD {α:Type} {c:Bool} {x:Option α} {y:α} (h:(bif c then x else none)=some y):c=true∧x=some y:=by
 cases c
 ·cases h
 ·exact⟨rfl,h⟩
theorem Cz {xs:List V} {i:Int} (h0:0≤i) (h1:i<xs.length):xs[i.toNat]? =some (aX xs i):=by
 unfold aX;exact getD_some (by omega)
theorem XO {L e:Nat} {sh:List Kd} {xs:List V} {i:Int} {off:Nat} {v:Value} (h:aN g (.eptr L e sh xs i off) v):aN g (.rptr sh (aX xs i) off) v:=by
 obtain⟨v0,b,h1,h2,h3,h4,h5,h6⟩:=mI.1 h;rcases h2 with⟨_,hnil⟩|⟨b',cap,l,hv,hcap,hG,hl,hE⟩
 ·rw[hnil] at h4;simp at h4;omega
 ·rw[hv] at h5
  simp only[Value.ownBlock,Option.some.injEq] at h5;subst h5;obtain⟨hf,u,hu,hc⟩:=vw xs _ hE _ _ (Cz h3 h4);exact iK.2 ⟨b',i.toNat*sh.length,l,h6,hG,hf,u,hu,hc⟩
theorem ET {t:TypeId} {x i:Operand} {X:V} {k:IntKind} {n:Int} {eff:Eff} (ho:o.op=.indexAddr t x i) (hx:aN g X (ρ x)) (hi:ρ i=.int k n) (h:zy P t X n=some (true,eff)):Does P ρ o B w g bx eff:=by
 have he:execOp ρ o=(do pure (.value (←Instr.indexAt t (ρ x) (ρ i)))):=by simp only[execOp,ho]
 unfold zy at h;split at h
 ·rename_i e sh ow xs
  split at h
  ·rename_i e' hel
   have hu:=tq hel;split at h
   ·rename_i m hs
    have hh:=aD h;clear h;obtain⟨hm,h⟩:=hh;obtain rfl:m=sh.length:=by simpa using hm
    clear hm;simp only[Option.some.injEq,Prod.mk.injEq] at h;obtain⟨hc,rfl⟩:=h;obtain⟨h0,h1⟩:=aR hc;have h0:=dJ h0;have h1:=Bb h1;unfold av at h1;have hget:=Cz h0 h1
    cases ow with
    |some L=>
     obtain⟨hL,ho1⟩:=hx;have ho2:=ho1;rcases ho1 with⟨_,hnil⟩|⟨b,cap,l,hv,_,_,_,_⟩
     ·rw[hnil] at h1;simp at h1;omega
     ·refine bg he (u:=.pointer (some ⟨b,0+n.toNat*sh.length,none⟩)) ?_ ?_
      ·rw[hv,hi]
       simp[Instr.indexAt,asIntOf,run_underlying hu,h0,h1,dF hs,Addr.add_mid]
      ·exact mI.2 ⟨ρ x,b,hL,ho2,h0,h1,by rw[hv];rfl,by rw[Nat.zero_add,Nat.add_zero]⟩
    |none=>
    have hr:=kX hx;unfold aO at hr;obtain⟨p,cap,hv,hcap,hr⟩:=hr;rcases hr with hr|⟨b,off,l,rfl,hG,hE⟩
    ·rw[hr] at h1;simp at h1;omega
    ·obtain⟨hf,u,hu',hcs⟩:=vw xs _ hE _ _ hget
     refine bg he (u:=.pointer (some ⟨b,off+n.toNat*sh.length,none⟩)) ?_ ?_
     ·rw[hv,hi]
      simp[Instr.indexAt,asIntOf,run_underlying hu,h0,h1,dF hs,Addr.add_mid]
     ·rw[iK]
      refine⟨b,off+n.toNat*sh.length,l,rfl,hG,hf,u,hu',?_⟩;rw[List.drop_drop] at hcs;exact hcs
   ·cases h
  ·cases h
 ·rename_i L e sh xs o2 i2 c2 e2 bG ys2
  split at h
  ·rename_i e' hel
   have hu:=tq hel;split at h
   ·rename_i m hs
    have hh:=aD h;clear h;obtain⟨hm,h⟩:=hh;obtain rfl:m=sh.length:=by simpa using hm
    clear hm;simp only[Option.some.injEq,Prod.mk.injEq] at h;obtain⟨hc,rfl⟩:=h;obtain⟨h0,h1⟩:=aR hc;have h0:=dJ h0;have h1:=Bb h1;unfold av at h1;obtain⟨l,hO,hC,⟨hv,hl,_⟩,_⟩:=nJ.1 hx;rcases hv with⟨_,hnil⟩|⟨b,cap,hv⟩
    ·rw[hnil] at h1;simp at h1;omega
    ·refine bg he (u:=.pointer (some ⟨b,0+n.toNat*sh.length,none⟩)) ?_ ?_
     ·rw[hv,hi]
      simp[Instr.indexAt,asIntOf,run_underlying hu,h0,h1,dF hs,Addr.add_mid]
     ·refine pE.2 ⟨ρ x,b,l,hO,hC,h0,?_,by rw[hv];rfl,by rw[Nat.zero_add,Nat.add_zero]⟩
      have h2:n.toNat+1≤xs.length:=by omega
      have h3:=Nat.mul_le_mul_right sh.length h2;rw[Nat.add_mul,Nat.one_mul] at h3;rw[hl];exact h3
   ·cases h
  ·cases h
 ·rename_i sh cs
  split at h
  ·rename_i m e hu
   split at h
   ·rename_i sz ag hs hag
    have hh:=aD h;clear h;obtain⟨hm,h⟩:=hh;simp only[Bool.and_eq_true,beq_iff_eq] at hm;obtain⟨⟨⟨hm1,hm2⟩,hm3⟩,hm4⟩:=hm;have hm2:0<sz:=by simpa[Nat.blt_eq] using hm2
    simp only[Option.some.injEq,Prod.mk.injEq] at h;obtain⟨hc,rfl⟩:=h;obtain⟨h0,h1⟩:=aR hc;have h0:=dJ h0;have h1:=Bb h1;rw[iK] at hx;obtain⟨b,q,l,hp,hG,hf,u,hr,hcs⟩:=hx;have hr':=hr;unfold aO at hr';obtain⟨a,rfl,hL⟩:=hr';rw[dL] at hL;have Xk:=jd _ _ hf;unfold V.cells at Xk;simp only at Xk;have htl:(sh.take sz).length=sz:=by
     rw[List.length_take];have:0<m:=by omega
     have:sz≤m*sz:=Nat.le_mul_of_pos_left _ this;omega
    have hcl:(chunks ag sz m cs).length=m:=by
     have: ∀(m:Nat) (cs:List V),(chunks ag sz m cs).length=m:=by
      intro m;induction m with
      |zero=>intro cs;rfl
      |succ m ih=>intro cs;unfold chunks;rw[List.length_cons,ih]
     exact this m cs
    have hE:=qF (sh:=sh.take sz) (ag:=ag) (by rw[htl];exact hm3) m cs a hL (by rw[htl];omega) (by rw[htl];exact hm2) (by rw[htl];exact hm4);rw[htl] at hE;have hget:=Cz (xs:=chunks ag sz m cs) h0 (by rw[hcl];exact h1);obtain⟨hf',u,hu',hcs'⟩:=vw _ _ hE _ _ hget;refine bg he (u:=.pointer (some ⟨b,q+n.toNat*sz,none⟩)) ?_ ?_
    ·rw[hp,hi]
     simp[Instr.indexAt,asIntOf,run_underlying hu,h0,h1,Instr.sureAddr,dF hs,Addr.add_mid]
    ·rw[iK]
     refine⟨b,q+n.toNat*sz,l,rfl,hG,hf',u,hu',?_⟩;rw[rQ] at hcs;rw[htl] at hcs'⊢;rw[←hcs',←hcs,←List.drop_drop];rw[List.drop_take,List.take_take];congr 1
     have:sz≤sh.length-n.toNat*sz:=by
      have h2:n.toNat+1≤m:=by omega
      have h3:=Nat.mul_le_mul_right sz h2;rw[Nat.add_mul,Nat.one_mul] at h3;omega
     omega
   ·cases h
  ·cases h
 ·cases h
theorem sat_get {l:List UInt8} {i:Int} (h0:0≤i) (h1:i<l.length):(⟨l.toArray⟩:ByteArray)[i.toNat]? =some (l.getD i.toNat 0):=by
 have hlt:i.toNat<l.length:=by omega
 have:i.toNat<(⟨l.toArray⟩:ByteArray).size:=by simpa[ByteArray.size] using hlt
 rw[getElem?_pos (⟨l.toArray⟩:ByteArray) i.toNat this];congr 1
 show l.toArray[i.toNat]=_;rw[List.getD_eq_getElem?_getD,List.getElem?_eq_getElem hlt];simp
theorem QE {t:TypeId} {x i:Operand} {X:V} {k:IntKind} {n:Int} {eff:Eff} (ho:o.op=.index t x i) (hx:aN g X (ρ x)) (hi:ρ i=.int k n) (h:SN P t X n=some (true,eff)):Does P ρ o B w g bx eff:=by
 have he:execOp ρ o=(do pure (.value (←Instr.index t (ρ x) (ρ i)))):=by simp only[execOp,ho]
 unfold SN at h;split at h
 ·rename_i l
  split at h
  ·rename_i hu
   simp only[Option.some.injEq,Prod.mk.injEq] at h;obtain⟨hc,rfl⟩:=h;obtain⟨h0,h1⟩:=aR hc;have h0:=dJ h0;have h1:=Bb h1;unfold au at h1;rw[gZ] at hx;refine bg he (u:=.int .u8 (sat l n)) ?_ (bY.2 rfl);rw[hx,hi];simp only[Instr.index,asIntOf,Sem.run_bind,Sem.run_pure,Result.andThen_ok,run_underlying hu,h0,if_true,sat_get h0 h1];rfl
  ·cases h
 ·cases h
theorem wB (l:List UInt8):(⟨l.toArray⟩:ByteArray).size=l.length:=by simp[ByteArray.size]
theorem S7 (l:List UInt8) (a b:Int):(⟨l.toArray⟩:ByteArray).extract a.toNat b.toNat=⟨(dG l a b).toArray⟩:=by
 apply ByteArray.ext
 simp[dG,List.drop_take]
theorem wM {y:Nat} {k:IntKind} {i:Int} {code:BoundsCode} (h0:0≤i) (h1:i≤y):(Instr.sliceBound (.int k i) y code).run P w=.ok i.toNat w:=by
 simp[Instr.sliceBound,asIntOf,h0,h1]
theorem H7 {isSl:Bool} {len cap:Nat} {lo hi:Option Value} {a b:Int} (ha:(lo=none∧a=0)∨ ∃k,lo=some (.int k a)) (hb:(hi=none∧b=len)∨ ∃k,hi=some (.int k b)) (h0:0≤a) (h1:a≤b) (h2:b≤cap):
  (Instr.sliceBounds isSl len cap lo hi none).run P w=.ok (a.toNat,b.toNat,cap) w:=by
 unfold Instr.sliceBounds;have hb0:0≤b:=by omega
 have hbn:(b.toNat:Int)=b:=Int.toNat_of_nonneg hb0;have h1':a≤(b.toNat:Int):=by omega
 rcases hb with⟨rfl,hb⟩|⟨kb,rfl⟩<;>rcases ha with⟨rfl,rfl⟩|⟨ka,rfl⟩
 ·have:len=b.toNat:=by omega
  simp[this]
 ·have:len=b.toNat:=by omega
  simp[wM h0 h1',this]
 ·simp[wM hb0 h2]
 ·simp[wM hb0 h2,wM h0 h1']
theorem JB {t:TypeId} {l:List UInt8} {lo hi:Option Value} {a b:Int} (hu:P.underlying t=some .string) (ha:(lo=none∧a=0)∨ ∃k,lo=some (.int k a)) (hb:(hi=none∧b=l.length)∨ ∃k,hi=some (.int k b))
  (h0:0≤a) (h1:a≤b) (h2:b≤l.length):(Instr.sliceAt t (.string ⟨l.toArray⟩) lo hi none).run P w=.ok (.string ⟨(dG l a b).toArray⟩) w:=by
 have e:(Instr.sliceAt t (.string ⟨l.toArray⟩) lo hi none).run P w=(Instr.slice t (.string ⟨l.toArray⟩) lo hi none).run P w:=by
  simp[Instr.sliceAt,run_underlying hu]
 rw[e];simp only[Instr.slice,Sem.run_bind,run_underlying hu,Result.andThen_ok,Option.isSome_none,Bool.false_eq_true,if_false,Sem.run_pure,
  H7 (P:=P) (w:=w) (isSl:=false) (len:=(⟨l.toArray⟩:ByteArray).size) (cap:=(⟨l.toArray⟩:ByteArray).size) ha (by rw[wB];exact hb) h0 h1 (by rw[wB];exact h2),S7]
theorem JC {t e:TypeId} {p:Option Addr} {len cap sz:Nat} {lo hi:Option Value} {a b:Int} (hu:P.underlying t=some (.slice e)) (hs:dn P e=some sz) (ha:(lo=none∧a=0)∨ ∃k,lo=some (.int k a)) (hb:(hi=none∧b=len)∨ ∃k,hi=some (.int k b))
  (h0:0≤a) (h1:a≤b) (h2:b≤cap):(Instr.sliceAt t (.slice p len cap) lo hi none).run P w=.ok (.slice (if cap=a.toNat then p else p.map (·.add (a.toNat*sz))) (b.toNat-a.toNat) (cap-a.toNat)) w:=by
 have e':(Instr.sliceAt t (.slice p len cap) lo hi none).run P w=(Instr.slice t (.slice p len cap) lo hi none).run P w:=by
  simp[Instr.sliceAt,run_underlying hu]
 rw[e'];simp only[Instr.slice,Sem.run_bind,run_underlying hu,Result.andThen_ok,Sem.run_pure,H7 (P:=P) (w:=w) (isSl:=true) (len:=len) (cap:=cap) ha hb h0 h1 h2,dF hs]
theorem rep_sub {G:aP} {e:Nat} {sh:List Kd} {ow:Option Nat} {xs:List V} {p:Option Addr} {len cap:Nat} {a b:Int} (h:aO G (.sl e sh ow xs) (.slice p len cap)) (h0:0≤a) (h1:a≤b) (h2:b≤xs.length):
  aO G (.sl e sh none (dX xs a b)) (.slice (if cap=a.toNat then p else p.map (·.add (a.toNat*sh.length))) (b.toNat-a.toNat) (cap-a.toNat)):=by
 unfold aO at h⊢;obtain⟨p',cap',hv,hcap,h⟩:=h;simp only[Value.slice.injEq] at hv;obtain⟨rfl,rfl,rfl⟩:=hv;have hlen:(dX xs a b).length=b.toNat-a.toNat:=by unfold dX;simp;omega
 refine⟨_,cap-a.toNat,by rw[hlen],by rw[hlen];omega,?_⟩;rcases h with h|⟨bb,off,l,rfl,hG,hE⟩
 ·refine .inl ?_
  rw[h];unfold dX;simp
 ·by_cases he:dX xs a b=[]
  ·exact .inl he
  ·refine .inr ⟨bb,off+a.toNat*sh.length,l,?_,hG,?_⟩
   ·have: ¬cap=a.toNat:=by
     intro hc;apply he
     apply List.eq_nil_of_length_eq_zero
     rw[hlen];omega
    rw[if_neg this,Option.map_some,Addr.add_mid]
   ·rw[←List.drop_drop]
    unfold dX;exact Kq _ _ _ (Ko a.toNat xs _ hE)
theorem optMap {r:Operand→V} {ac:Act} (hE: ∀y,aN g (r y) (ac.eval y)) (lo:Option Operand) (d:Int):
  (∀k n,lo.map r=some (.int k n)→ ∃k,lo.map ac.eval=some (.int k n))∧(lo.map r=none→lo.map ac.eval=none):=by
 cases lo with
 |none=>exact⟨fun _ _ h=>(by cases h),fun _=>rfl⟩
 |some y=>
  refine⟨fun k n h=>?_,fun h=>?_⟩
  case refine_2=>cases h
  simp only[Option.map_some,Option.some.injEq] at h;have:=hE y;rw[h,bY] at this;exact⟨k,by rw[Option.map_some,this]⟩
theorem QF {r:Operand→V} {ac:Act} {t:TypeId} {x:Operand} {lo hi:Option Operand} {eff:Eff} (ho:o.op=.slice t x lo hi none) (hE: ∀y,aN g (r y) (ac.eval y))
  (h:SQ P t (r x) (lo.map r) (hi.map r)=some (true,eff)):Does P ac.eval o B w g bx eff:=by
 have he:execOp ac.eval o=(do pure (.value (←Instr.sliceAt t (ac.eval x) (lo.map ac.eval) (hi.map ac.eval) none))):=by simp only[execOp,ho,Option.map_none]
 have hx:=hE x;obtain⟨l1,l2⟩:=optMap hE lo 0;obtain⟨r1,r2⟩:=optMap hE hi 0;unfold SQ at h;split at h
 ·rename_i l hX
  rw[hX,gZ] at hx;have key: ∀a b:Int,P.underlying t=some .string→((lo.map ac.eval=none∧a=0)∨ ∃k,lo.map ac.eval=some (.int k a))→((hi.map ac.eval=none∧b=l.length)∨ ∃k,hi.map ac.eval=some (.int k b))→0≤a→a≤b→b≤l.length→Does P ac.eval o B w g bx (.val (.str (dG l a b))):=by
   intro a b hu ha hb h0 h1 h2;refine bg he (u:=.string ⟨(dG l a b).toArray⟩) ?_ (gZ.2 rfl);rw[hx];exact JB hu ha hb h0 h1 h2
  split at h
  ·rename_i k a k' b hu e1 e2
   simp only[Option.some.injEq,Prod.mk.injEq] at h;obtain⟨hc,rfl⟩:=h;obtain⟨hc1,hc2⟩:=aR hc;obtain⟨c1,c2⟩:=aR hc1;obtain⟨c3,c4⟩:=aR hc2;exact key a b hu (.inr (l1 _ _ e1)) (.inr (r1 _ _ e2)) (dJ c3) (dJ c4) (dJ c2)
  ·rename_i k' b hu e1 e2
   simp only[Option.some.injEq,Prod.mk.injEq] at h;obtain⟨hc,rfl⟩:=h;obtain⟨c1,c2⟩:=aR hc;exact key 0 b hu (.inl ⟨l2 e1,rfl⟩) (.inr (r1 _ _ e2)) (Int.le_refl _) (dJ c1) (dJ c2)
  ·rename_i k a hu e1 e2
   simp only[Option.some.injEq,Prod.mk.injEq] at h;obtain⟨hc,rfl⟩:=h;obtain⟨c1,c2⟩:=aR hc;exact key a (au l) hu (.inr (l1 _ _ e1)) (.inl ⟨r2 e2,rfl⟩) (dJ c1) (dJ c2) (Int.le_refl _)
  ·rename_i hu e1 e2
   simp only[ok,Option.some.injEq,Prod.mk.injEq,true_and] at h;subst h;have:=key 0 l.length hu (.inl ⟨l2 e1,rfl⟩) (.inl ⟨r2 e2,rfl⟩) (Int.le_refl _) (by omega) (Int.le_refl _);have e:dG l 0 (l.length:Int)=l:=by unfold dG;simp
   rwa [e] at this
  ·cases h
 ·rename_i e sh ow xs hX
  rw[hX] at hx;have hr:=kX hx;have hr':=hr;unfold aO at hr';obtain⟨p,cap,hv,hcap,_⟩:=hr';rw[hv] at hr;split at h
  ·cases h
  ·rename_i e' hel
   have hu:=tq hel;split at h
   ·cases h
   ·rename_i n hs
    have hh:=aD h;clear h;obtain⟨hn,h⟩:=hh;obtain rfl:n=sh.length:=by simpa using hn
    clear hn;have key: ∀a b:Int,((lo.map ac.eval=none∧a=0)∨ ∃k,lo.map ac.eval=some (.int k a))→((hi.map ac.eval=none∧b=xs.length)∨ ∃k,hi.map ac.eval=some (.int k b))→0≤a→a≤b→b≤xs.length→Does P ac.eval o B w g bx (.val (.sl e sh none (dX xs a b))):=by
     intro a b ha hb h0 h1 h2;refine bg he (u:=.slice (if cap=a.toNat then p else p.map (·.add (a.toNat*sh.length))) (b.toNat-a.toNat) (cap-a.toNat)) ?_ (rep_sub hr h0 h1 h2);rw[hv];exact JC hu hs ha hb h0 h1 (by omega)
    split at h
    ·rename_i k a k' b e1 e2
     simp only[Option.some.injEq,Prod.mk.injEq] at h;obtain⟨hc,rfl⟩:=h;obtain⟨hc1,hc2⟩:=aR hc;obtain⟨c1,c2⟩:=aR hc1;obtain⟨c3,c4⟩:=aR hc2;exact key a b (.inr (l1 _ _ e1)) (.inr (r1 _ _ e2)) (dJ c3) (dJ c4) (dJ c2)
    ·rename_i k' b e1 e2
     simp only[Option.some.injEq,Prod.mk.injEq] at h;obtain⟨hc,rfl⟩:=h;obtain⟨c1,c2⟩:=aR hc;exact key 0 b (.inl ⟨l2 e1,rfl⟩) (.inr (r1 _ _ e2)) (Int.le_refl _) (dJ c1) (dJ c2)
    ·rename_i k a e1 e2
     simp only[Option.some.injEq,Prod.mk.injEq] at h;obtain⟨hc,rfl⟩:=h;obtain⟨c1,c2⟩:=aR hc;exact key a (av xs) (.inr (l1 _ _ e1)) (.inl ⟨r2 e2,rfl⟩) (dJ c1) (dJ c2) (Int.le_refl _)
    ·rename_i e1 e2
     simp only[ok,Option.some.injEq,Prod.mk.injEq,true_and] at h;subst h;have:=key 0 xs.length (.inl ⟨l2 e1,rfl⟩) (.inl ⟨r2 e2,rfl⟩) (Int.le_refl _) (by omega) (Int.le_refl _);have e:dX xs 0 (xs.length:Int)=xs:=by unfold dX;simp
     rwa [e] at this
    ·cases h
 ·rename_i sh cs hX
  rw[hX,iK] at hx;split at h
  ·rename_i m e hu e1 e2
   split at h
   ·rename_i sz ag hs hag
    have hh:=aD h;clear h;obtain⟨hm,h⟩:=hh;simp only[Bool.and_eq_true,beq_iff_eq] at hm;obtain⟨⟨⟨⟨hm1,hm2⟩,hm0⟩,hm3⟩,hm4⟩:=hm;have hm2:0<sz:=by simpa[Nat.blt_eq] using hm2
    have hm0:0<m:=by simpa[Nat.blt_eq] using hm0
    simp only[ok,Option.some.injEq,Prod.mk.injEq,true_and] at h;subst h;obtain⟨b,q,l,hp,hG,hf,u,hr,hcs⟩:=hx;have hr':=hr;unfold aO at hr';obtain⟨a,rfl,hL⟩:=hr';rw[dL] at hL;have Xk:=jd _ _ hf;unfold V.cells at Xk;simp only at Xk;have htl:(sh.take sz).length=sz:=by
     rw[List.length_take];have:sz≤m*sz:=Nat.le_mul_of_pos_left _ hm0;omega
    have hcl:(chunks ag sz m cs).length=m:=by
     have: ∀(m:Nat) (cs:List V),(chunks ag sz m cs).length=m:=by
      intro m;induction m with
      |zero=>intro cs;rfl
      |succ m ih=>intro cs;unfold chunks;rw[List.length_cons,ih]
     exact this m cs
    have hE:=qF (sh:=sh.take sz) (ag:=ag) (by rw[htl];exact hm3) m cs a hL (by rw[htl];omega) (by rw[htl];exact hm2) (by rw[htl];exact hm4);rw[htl] at hE;rw[rQ] at hcs;refine bg he (u:=.slice (some ⟨b,q,none⟩) m m) ?_ ?_
    ·rw[hp,l2 e1,r2 e2]
     have hm': ¬m=0:=by omega
     simp[Instr.sliceAt,run_underlying hu,Instr.sureAddr,Instr.sliceBounds,dF hs,hm',Addr.add_mid]
    ·refine bR rfl ?_
     unfold aO;refine⟨some ⟨b,q,none⟩,m,by rw[hcl],by rw[hcl];exact Nat.le_refl _,.inr ⟨b,q,l,rfl,hG,?_⟩⟩;exact iJ (.refl _) _ _ _ _ hE (by rw[←hcs];exact List.take_prefix _ _)
   ·cases h
  ·cases h
 ·cases h
theorem XP {t:TypeId} {x:Operand} {X:V} {c:Call} {eff:Eff} (ho:o.op=.call c) (hc:c.callee=.builtin .len) (ht:c.argTypes.toList=[t]) (ha:c.args.toList=[x]) (hx:aN g X (ρ x)) (h:lenV P t X=some (true,eff)):Does P ρ o B w g bx eff:=by
 obtain⟨callee,args,argTypes⟩:=c;simp only at hc ht ha;subst hc;obtain rfl:args= #[x]:=by rw[←Array.toList_inj];simpa using ha
 obtain rfl:argTypes= #[t]:=by rw[←Array.toList_inj];simpa using ht
 have key: ∀u,(Builtin.len_ #[t] o.type #[ρ x]).run P w=.ok u w→(execOp ρ o).run P w=.ok (.value u) w:=by
  intro u hu;simp[execOp,ho,resolve,invoke,builtin,hu]
 unfold lenV at h;split at h
 ·rename_i l hu
  simp only[ok,Option.some.injEq,Prod.mk.injEq,true_and] at h;subst h;rw[gZ] at hx;exact⟨_,key (.int .i64 (au l)) (by rw[hx];simp[Builtin.len_,run_underlying hu,goInt,au,wB]),bY.2 rfl⟩
 ·rename_i e' e sh ow xs hu
  simp only[ok,Option.some.injEq,Prod.mk.injEq,true_and] at h;subst h;have hr:=kX hx;unfold aO at hr;obtain⟨p,cap,hv,_⟩:=hr;exact⟨_,key (.int .i64 (av xs)) (by rw[hv];simp[Builtin.len_,run_underlying hu,goInt,av]),bY.2 rfl⟩
 ·rename_i e hu
  simp only[ok,Option.some.injEq,Prod.mk.injEq,true_and] at h;subst h;rw[iy] at hx;exact⟨_,key (.int .i64 0) (by rw[hx];simp[Builtin.len_,run_underlying hu,goInt]),bY.2 rfl⟩
 ·rename_i e' L e sh xs o2 i c e2 bG ys hu
  simp only[ok,Option.some.injEq,Prod.mk.injEq,true_and] at h;subst h;obtain⟨l,_,_,⟨hv,_⟩,_⟩:=nJ.1 hx;obtain⟨p,cap,hv⟩: ∃p cap,ρ x=.slice p xs.length cap:=by
   rcases hv with⟨hv,rfl⟩|⟨b,cap,hv⟩
   ·exact⟨_,_,hv⟩
   ·exact⟨_,_,hv⟩
  exact⟨_,key (.int .i64 (av xs)) (by rw[hv];simp[Builtin.len_,run_underlying hu,goInt,av]),bY.2 rfl⟩
 ·rename_i n e hu
  simp only[ok,Option.some.injEq,Prod.mk.injEq,true_and] at h;subst h;exact⟨_,key (.int .i64 n) (by simp[Builtin.len_,run_underlying hu,goInt]),bY.2 rfl⟩
 ·cases h
theorem JD {x:Operand} {i:Nat} {vs:List V} (ho:o.op=.extract x i) (hx:aN g (.tup vs) (ρ x)) (hi:i<vs.length) (hv:(match vs.getD i .any with| .tup _=>false| .fn _ _=>false|_=>true)=true):Does P ρ o B w g bx (.val (vs.getD i .any)):=by
 have he:execOp ρ o=(do pure (.value (←Instr.extract (ρ x) i))):=by simp only[execOp,ho]
 obtain⟨a,ha,hpw⟩:=hx;obtain⟨u,hu,hr⟩:=hpw.get (getD_some hi);refine bg he (u:=u) ?_ ?_
 ·rw[ha]
  simp[Instr.extract,hu]
 ·generalize vs.getD i .any=y at hr hv
  cases y with
  |tup _=>cases hv
  |fn _ _=>cases hv
  |_=>simp only[aN];exact hr
end
section
variable {P:Program} {ρ:Operand→Value} {o:Oper} {B:Own} {w:World} {g:Gh} {bx:List (Nat×List V)}
def upd (G:aP) (b:Nat) (l:List Value):aP:=fun k=>if k=b then some l else G k
theorem upd_same (G:aP) (b:Nat) (l:List Value):upd G b l b=some l:=by simp[upd]
theorem gI (G:aP) (b k:Nat) (l:List Value) (h:k≠b):upd G b l k=G k:=by simp[upd,h]
theorem d9 {G:aP} (hG:xB G w) {b:Nat} {l:List Value} (h:G b=some l):b<w.heap.size:=by
 obtain⟨c,e,fr,hc,_⟩:=hG b l h;exact(Array.getElem?_eq_some_iff.1 hc).1
theorem NK {G:aP} (hG:xB G w) (l:List Value):lY G (upd G w.heap.size l):=by
 intro b m h;have:=d9 hG h;exact⟨m,by rw[gI _ _ _ _ (by omega)];exact h,List.prefix_refl _⟩
theorem MU {G:aP} (hG:xB G w) {w':World} {c:Array Value} {e:TypeId} {fr:Nat×Nat} (hB:Below w.heap.size w w') (hh:w'.heap[w.heap.size]? =some (.cells c e fr)) (n:Nat) (hn:n≤c.size):
  New w w' G (upd G w.heap.size (c.toList.take n)):=by
 refine⟨hB,fun b hb=>gI _ _ _ _ (by omega),?_⟩;intro b l h;by_cases e':b=w.heap.size
 ·subst e'
  rw[upd_same] at h;simp only[Option.some.injEq] at h;subst h;refine⟨c,e,fr,hh,?_⟩;have e1:c.toList.length=c.size:=by simp
  rw[List.length_take,e1,Nat.min_eq_left hn]
 ·rw[gI _ _ _ _ e'] at h
  obtain⟨c',e2,fr',hc,ht⟩:=hG b l h;exact⟨c',e2,fr',by rw[hB.block b (d9 hG h)];exact hc,ht⟩
theorem ic (w:World) (o:Obj):Below w.heap.size w (w.alloc o):=(Below.refl _ _).alloc (Nat.le_refl _) o
theorem iO {t e:TypeId} {sh:List Kd} {z:V} (h:elemOf P t=some (e,sh,z)):P.underlying t=some (.slice e)∧ ∃i zv,P.info? e=some i∧i.zero=some zv∧z=qi zv∧sh=dQ P 8 e∧i.size=sh.length∧0<sh.length∧zv.cells.size=sh.length∧i.bytes≤8388608∧fJ sh z=true:=by
 unfold elemOf at h;split at h
 ·cases h
 ·rename_i e' he
  split at h
  ·cases h
  ·rename_i i hi
   split at h
   ·cases h
   ·rename_i zv hz
    have hh:=aD h;clear h;obtain⟨hc,h⟩:=hh;simp only[Option.some.injEq,Prod.mk.injEq] at h;obtain⟨rfl,rfl,rfl⟩:=h;simp only[Bool.and_eq_true,beq_iff_eq,Nat.blt_eq] at hc;obtain⟨⟨⟨⟨h1,h2⟩,h3⟩,h4⟩,h5⟩:=hc;exact⟨tq he,i,zv,hi,hz,rfl,rfl,h1,by omega,by omega,Nat.le_of_ble_eq_true h4,h5⟩
theorem oC {G:aP} {e:Nat} {sh:List Kd} {xs:List V} {cap:Nat} {c:Array Value} {w':World} (hG:xB G w) (hB:Below w.heap.size w w') (hh:w'.heap[w.heap.size]? =some (.cells c e (0,0))) (h0:0<sh.length)
  (hcap:xs.length≤cap) (hm:cap≤maxLen) (hc:c.size=cap*sh.length) (hE:bX G sh xs (c.toList.take (xs.length*sh.length))):
  ∃G',New w w' G G'∧iH G' w' (w.heap.size≤ ·) e sh xs (.slice (some ⟨w.heap.size,0,none⟩) xs.length cap):=by
 have hle:xs.length*sh.length≤c.size:=by rw[hc];exact Nat.mul_le_mul_right _ hcap
 refine⟨_,MU hG hB hh (xs.length*sh.length) hle,h0,.inr ⟨w.heap.size,cap,c,_,rfl,Nat.le_refl _,hh,hcap,hm,hc,upd_same _ _ _,?_,?_⟩⟩
 ·have e1:c.toList.length=c.size:=by simp
  rw[List.length_take,e1];omega
 ·exact iJ (NK hG _) sh xs _ _ hE (List.prefix_refl _)
theorem QG {t:TypeId} {l c:Operand} {L C:V} {eff:Eff} (ho:o.op=.makeSlice t l c) (hG:xB g.G w) (hl:aN g L (ρ l)) (hc:aN g C (ρ c)) (h:makeV P t L C=some (true,eff)):Does P ρ o B w g bx eff:=by
 have he:execOp ρ o=(do pure (.value (←Instr.makeSlice t (ρ l) (ρ c)))):=by simp only[execOp,ho]
 unfold makeV at h;split at h
 ·rename_i n m e sh z hel
  simp only[Option.some.injEq,Prod.mk.injEq] at h;obtain⟨hcd,rfl⟩:=h;obtain⟨c1,c23⟩:=aR hcd;obtain⟨c2,c3⟩:=aR c23;have c1:=dJ c1;have c2:=dJ c2;have c3:=dJ c3;obtain⟨hu,i,zv,hi,hz,rfl,_,hsz,h0,hzc,hby,hfit⟩:=iO hel;rw[bY] at hl hc;have hm64:m≤9223372036854775807:=by omega
  have hcells:m.toNat*i.size≤m.toNat*i.size:=Nat.le_refl _;have hbytes:(i.bytes:Int)*m≤281474976710656:=by
   have h1:(i.bytes:Int)≤8388608:=by omega
   calc (i.bytes:Int)*m≤8388608*m:=Int.mul_le_mul_of_nonneg_right h1 (by omega)
    _≤8388608*16777216:=by omega
    _≤281474976710656:=by decide
  have hr:=run_make (P:=P) w t e i zv hu hi hz .i64 .i64 n m c1 c2 hbytes hm64;have hzs:(madeCells zv.cells (m.toNat*i.size)).size=m.toNat*sh.length:=by rw[size_madeCells,hsz]
  have hE:bX g.G sh (Ce n (qi zv)) ((madeCells zv.cells (m.toNat*i.size)).toList.take ((Ce n (qi zv)).length*sh.length)):=by
   have hx:qi zv≠.any:=fun e=>by rw[e,lC] at hfit;cases hfit
   have key: ∀(k:Nat) (cells:List Value),k*sh.length≤cells.length→(∀j,j<k*sh.length→cells[j]? =some (zv.cells[j%zv.cells.size]!))→bX g.G sh (List.replicate k (qi zv)) cells:=by
    intro k;induction k with
    |zero=>intro cells _ _;exact gW
    |succ k ih=>
     intro cells hle hj;have e1:(k+1)*sh.length=sh.length+k*sh.length:=by rw[Nat.add_mul,Nat.one_mul,Nat.add_comm]
     rw[List.replicate_succ];unfold bX;refine⟨hfit,⟨zv,vv _ _,?_⟩,ih _ (by rw[List.length_drop];omega) ?_⟩
     ·apply List.ext_getElem?
      intro j;rw[List.getElem?_take];by_cases hjl:j<sh.length
      ·rw[if_pos hjl,hj j (by omega),Nat.mod_eq_of_lt (by omega)]
       have:j<zv.cells.size:=by omega
       simp[this]
      ·rw[if_neg hjl,List.getElem?_eq_none (by simp;omega)]
     ·intro j hjk
      rw[List.getElem?_drop,hj _ (by omega),hzc,Nat.add_mod_left]
   have hle:n.toNat≤m.toNat:=by omega
   have hlen:(Ce n (qi zv)).length=n.toNat:=by unfold Ce;simp
   rw[hlen];refine key n.toNat _ ?_ ?_
   ·have e1:(madeCells zv.cells (m.toNat*i.size)).toList.length=m.toNat*sh.length:=by rw[←hzs];simp
    rw[List.length_take,e1];have:=Nat.mul_le_mul_right sh.length hle;omega
   ·intro j hj
    rw[List.getElem?_take,if_pos hj];have hj2:j<m.toNat*i.size:=by
     have:=Nat.mul_le_mul_right sh.length hle;rw[hsz];omega
    simp[madeCells,hj2]
  have hlen:(Ce n (qi zv)).length=n.toNat:=by unfold Ce;simp
  have hap:=fun hE=>oC (e:=e) (sh:=sh) (xs:=Ce n (qi zv)) (cap:=m.toNat) (c:=madeCells zv.cells (m.toNat*i.size)) hG (ic w (.cells (madeCells zv.cells (m.toNat*i.size)) e)) (heap_alloc_new w _) h0 (by rw[hlen];omega) (by unfold maxLen;omega) hzs hE
  obtain⟨G',hN,hF⟩:=hap hE;refine⟨_,_,G',?_,hN,hF⟩;rw[he,hl,hc,hlen];simp only[Sem.run_bind,hr,Result.andThen_ok,Sem.run_pure]
 ·cases h
theorem H8: ∀(vs:List Value) (cells:Array Value) (off k:Nat),off+k+vs.length≤cells.size→
  ((vs.zipIdx k).foldl (fun cs (x:Value×Nat)=>cs.setIfInBounds (off+x.2) x.1) cells).toList=cells.toList.take (off+k)++vs++cells.toList.drop (off+k+vs.length)
 |[],cells,off,k,h=>by simp
 |v::vs,cells,off,k,h=>by
  simp only[List.length_cons] at h;rw[List.zipIdx_cons,List.foldl_cons,H8 vs _ off (k+1) (by simp;omega)];simp only[Array.toList_setIfInBounds];have h1:off+k<cells.toList.length:=by simp;omega
  rw[show off+(k+1)=off+k+1 by omega,List.take_add_one,List.getElem?_set_self h1,List.take_set_of_le (Nat.le_refl _),List.drop_set_of_lt (by omega)];simp only[Option.toList_some,List.length_cons];rw[show off+k+1+vs.length=off+k+(vs.length+1) by omega];simp
theorem VB {R:V→Value→Prop} {cs vs:List V} {us ws:List Value} (h:PW R cs us) (k:PW R vs ws) (off:Nat):PW R (over cs off vs) (us.take off++ws++us.drop (off+ws.length)):=by
 unfold over;rw[←k.1];exact((h.take off).append k).append (h.drop _)
theorem tu {G:aP} {place:Nat→Option (Nat×Nat)}: ∀(parts:List (Nat×V)) (zl:List (Nat×Value)) (cs out:List V) (cells:Array Value),parts.map (·.1)=zl.map (·.1)→(∀(i:Nat) (x:V) (v:Value),(parts[i]?).map (fun(p:Nat×V)=>p.2)=some x→(zl[i]?).map (fun(p:Nat×Value)=>p.2)=some v→ ∀y,x.deep=some y→aO G y v)→
  PW (aO G) cs cells.toList→xK place cs parts=some out→ ∃outs,Instr.fill place cells zl=some outs∧PW (aO G) out outs.toList
 |[],zl,cs,out,cells,hm,_,hp,h=>by
  cases zl with
  |nil=>simp only[xK,Option.some.injEq] at h;subst h;exact⟨cells,rfl,hp⟩
  |cons x l=>simp at hm
 |(i,x)::rest,zl,cs,out,cells,hm,hr,hp,h=>by
  cases zl with
  |nil=>simp at hm
  |cons y l=>
   obtain⟨i',v⟩:=y;simp only[List.map_cons,List.cons.injEq] at hm;obtain⟨rfl,hm⟩:=hm;simp only[xK] at h;split at h
   ·rename_i off size x' hpl hd
    have hh:=aD h;clear h;obtain⟨hc,h⟩:=hh;simp only[Bool.and_eq_true,beq_iff_eq] at hc;obtain⟨hc1,hc2⟩:=hc;have hc2:=Nat.le_of_ble_eq_true hc2;have hrep:=hr 0 x v rfl rfl x' hd;have hne:x'≠.any:=by
     intro e;subst e;have:=jG hd
     cases x with
     |fn f c=>cases c<;>simp[V.deep] at hd
     |_=>simp[V.deep] at hd
    obtain⟨hl,hpw⟩:=mH hrep hne;have hvs:v.cells.size=size:=by omega
    have hle:off+v.cells.size≤cells.size:=by
     have h1:=hp.1;have e1:cells.toList.length=cells.size:=by simp
     omega
    have hov:((v.cells.toList.zipIdx 0).foldl (fun cs (x:Value×Nat)=>cs.setIfInBounds (off+x.2) x.1) cells).toList=cells.toList.take off++v.cells.toList++cells.toList.drop (off+v.cells.toList.length):=by
     have:=H8 v.cells.toList cells off 0 (by simpa using hle);simpa using this
    have hfold:v.cells.zipIdx.foldl (fun cs (x:Value×Nat)=>cs.setIfInBounds (off+x.2) x.1) cells=(v.cells.toList.zipIdx 0).foldl (fun cs (x:Value×Nat)=>cs.setIfInBounds (off+x.2) x.1) cells:=by
     rw[←Array.foldl_toList];simp
    have hp2:PW (aO G) (over cs off x'.cells) (v.cells.zipIdx.foldl (fun cs (x:Value×Nat)=>cs.setIfInBounds (off+x.2) x.1) cells).toList:=by
     rw[hfold,hov];exact VB hp hpw off
    obtain⟨outs,ho,hpo⟩:=tu rest l _ out _ hm (fun j a b h1 h2=>hr (j+1) a b h1 h2) hp2 h;refine⟨outs,?_,hpo⟩;unfold Instr.fill;rw[hpl];simp only;split
    ·rename_i hbad
     exfalso;simp at hbad;omega
    ·exact ho
   ·cases h
end
section
variable {P:Program} {ρ:Operand→Value} {o:Oper} {B:Own} {w:World} {g:Gh} {bx:List (Nat×List V)}
theorem Po {t:TypeId} {arr:List Value} {off n:Nat} (ha:bM P t=some true) (hs:dn P t=some n):(part t arr.toArray off).run P w=.ok (.agg ((arr.drop off).take n).toArray) w:=by
 simp only[part,Sem.run_bind,mP ha,Result.andThen_ok,if_true,dF hs,Sem.run_pure];have e:arr.toArray.extract off (off+n)=(List.take n (List.drop off arr)).toArray:=by
  rw[←Array.toList_inj];simp
 rw[e]
theorem GM {t:TypeId} {arr:List Value} {off:Nat} {v:Value} (ha:bM P t=some false) (hv:arr[off]? =some v):(part t arr.toArray off).run P w=.ok v w:=by
 simp[part,mP ha,hv]
def cval (P:Program) (t:TypeId) (us:List Value) (u:Value):Prop:=(bM P t=some true∧u=.agg us.toArray)∨(bM P t=some false∧us=[u])
theorem Kr {t:TypeId} {arr:List Value} {off n:Nat} {b:Bool} (ha:bM P t=some b) (hs:dn P t=some n) (h1:b=false→((arr.drop off).take n).length=1):
  ∃u,(part t arr.toArray off).run P w=.ok u w∧cval P t ((arr.drop off).take n) u:=by
 cases b with
 |true=>exact⟨_,Po ha hs,.inl ⟨ha,rfl⟩⟩
 |false=>
  have h1:=h1 rfl
  cases hd:(arr.drop off).take n with
  |nil=>rw[hd] at h1;cases h1
  |cons u t'=>
   cases t' with
   |cons _ _=>rw[hd] at h1;simp at h1
   |nil=>
    refine⟨u,GM ha ?_,.inr ⟨ha,rfl⟩⟩;have h0:((arr.drop off).take n)[0]? =some u:=by rw[hd];rfl
    rw[List.getElem?_take] at h0;split at h0
    ·rw[List.getElem?_drop,Nat.add_zero] at h0;exact h0
    ·cases h0
theorem eqT_kind {m:Nat} {t:TypeId} {xs ys:List V} {c:Bool} (h:eqT P m t xs ys=some c): ∃b,bM P t=some b∧(b=false→xs.length=1∧ys.length=1):=by
 cases m with
 |zero=>cases h
 |succ m=>
  unfold eqT at h;unfold bM;split at h
  ·rename_i hu
   rw[hu];refine⟨false,rfl,fun _=>?_⟩;split at h
   ·exact⟨rfl,rfl⟩
   ·cases h
  ·rename_i k hu
   rw[hu];refine⟨false,rfl,fun _=>?_⟩;split at h
   ·exact⟨rfl,rfl⟩
   ·cases h
  ·rename_i hu
   rw[hu];refine⟨false,rfl,fun _=>?_⟩;split at h
   ·exact⟨rfl,rfl⟩
   ·cases h
  ·rename_i fs hu
   rw[hu];exact⟨true,rfl,fun h=>by cases h⟩
  ·rename_i k e hu
   rw[hu];exact⟨true,rfl,fun h=>by cases h⟩
  ·cases h
def EqOk (P:Program) (w:World) (m d:Nat):Prop:=∀(t:TypeId) (xs ys:List V) (c:Bool),eqT P m t xs ys=some c→ ∀(G:aP) (us vs:List Value) (u v:Value),PW (aO G) xs us→PW (aO G) ys vs→cval P t us u→cval P t vs v→
 (Op.equalIn (d+m) t u v).run P w=.ok c w
theorem step_ok {m d:Nat} (ih:EqOk P w m d) {t:TypeId} {n off:Nat} {xs ys:List V} {c:Bool} (hs:dn P t=some n) (h:eqT P m t ((xs.drop off).take n) ((ys.drop off).take n)=some c) {G:aP} {us vs:List Value} (hx:PW (aO G) xs us) (hy:PW (aO G) ys vs):
  ∃a b,(part t us.toArray off).run P w=.ok a w∧(part t vs.toArray off).run P w=.ok b w∧(Op.equalIn (d+m) t a b).run P w=.ok c w:=by
 obtain⟨b,hb,h1⟩:=eqT_kind h;have hx':=(hx.drop off).take n;have hy':=(hy.drop off).take n;obtain⟨u,hu,cu⟩:=Kr (w:=w) (arr:=us) (off:=off) hb hs (fun e=>by rw[←hx'.1];exact(h1 e).1);obtain⟨v,hv,cv⟩:=Kr (w:=w) (arr:=vs) (off:=off) hb hs (fun e=>by rw[←hy'.1];exact(h1 e).2);exact⟨u,v,hu,hv,ih t _ _ c h G _ _ u v hx' hy' cu cv⟩
theorem H9 {α:Type} {f:α→Option Bool} {a:α} {l:List α} {c:Bool} (h:allEq f (a::l)=some c): ∃p q,f a=some p∧allEq f l=some q∧c=(match p with|true=>q|false=>false):=by
 cases l with
 |nil=>
  simp only[allEq] at h;refine⟨c,true,h,rfl,?_⟩
  cases c<;>rfl
 |cons b l=>
  simp only[allEq] at h;split at h
  ·rename_i p q hp hq
   simp only[Option.some.injEq] at h;subst h;exact⟨p,q,hp,hq,rfl⟩
  ·cases h
theorem Ks {m d:Nat} (ih:EqOk P w m d) {xs ys:List V} {G:aP} {us vs:List Value} (hx:PW (aO G) xs us) (hy:PW (aO G) ys vs): ∀(fs:List Field) (c:Bool),
  allEq (fun f=>bif f.name== "_" then none else match dn P f.type with
    |some n=>eqT P m f.type ((xs.drop f.offset).take n) ((ys.drop f.offset).take n)
    |none=>none) fs=some c→(Op.eqFields (d+m) us.toArray vs.toArray fs).run P w=.ok c w
 |[],c,h=>by
  simp only[allEq,Option.some.injEq] at h;subst h;rfl
 |f::fs,c,h=>by
  obtain⟨p,q,h1,h2,rfl⟩:=H9 h;have h3:=Ks ih hx hy fs q h2
  cases hn:f.name== "_" with
  |true=>rw[hn] at h1;cases h1
  |false=>
   rw[hn,cond_false] at h1;have hne:f.name≠ "_" :=by simpa using hn
   split at h1
   ·rename_i n hs
    obtain⟨a,b,pa,pb,pe⟩:=step_ok ih hs h1 hx hy;simp only[Op.eqFields,hne,ne_eq,not_false_eq_true,if_true,Sem.run_bind,pa,pb,pe,Result.andThen_ok]
    cases p
    ·rfl
    ·simpa using h3
   ·cases h1
theorem Pp {m d:Nat} (ih:EqOk P w m d) {e:TypeId} {n:Nat} (hs:dn P e=some n) {xs ys:List V} {G:aP} {us vs:List Value} (hx:PW (aO G) xs us) (hy:PW (aO G) ys vs): ∀(is:List Nat) (c:Bool),
  allEq (fun i=>eqT P m e ((xs.drop (i*n)).take n) ((ys.drop (i*n)).take n)) is=some c→(Op.eqItems (d+m) e n us.toArray vs.toArray is).run P w=.ok c w
 |[],c,h=>by
  simp only[allEq,Option.some.injEq] at h;subst h;rfl
 |i::is,c,h=>by
  obtain⟨p,q,h1,h2,rfl⟩:=H9 h;have h3:=Pp ih hs hx hy is q h2;obtain⟨a,b,pa,pb,pe⟩:=step_ok ih hs h1 hx hy;simp only[Op.eqItems,Sem.run_bind,pa,pb,pe,Result.andThen_ok]
  cases p
  ·rfl
  ·simpa using h3
theorem CB (d:Nat): ∀m,EqOk P w m d
 |0=>fun t xs ys c h=>by cases h
 |m+1=>by
  intro t xs ys c h G us vs u v hx hy cu cv;have ih:=CB d m;show(Op.equalIn ((d+m)+1) t u v).run P w=.ok c w;unfold eqT at h;split at h
  ·rename_i hu
   have hk:bM P t=some false:=by unfold bM;rw[hu]
   split at h
   ·simp only[Option.some.injEq] at h
    subst h;obtain⟨u',t',rfl,hu1,ht'⟩:=hx.cons_inv;obtain⟨v',s',rfl,hv1,hs'⟩:=hy.cons_inv;rw[ht'.bU] at cu;rw[hs'.bU] at cv;unfold aO at hu1 hv1;rcases cu with⟨hk',_⟩|⟨_,cu⟩
    ·rw[hk] at hk';cases hk'
    ·rcases cv with⟨hk',_⟩|⟨_,cv⟩
     ·rw[hk] at hk';cases hk'
     ·simp only[List.cons.injEq,and_true] at cu cv
      rw[←cu,←cv,hu1,hv1];exact run_equalIn_bool' w _ t _ _ hu
   ·cases h
  ·rename_i k hu
   have hk:bM P t=some false:=by unfold bM;rw[hu]
   split at h
   ·have hh:=aD h
    clear h;obtain⟨hk1,h⟩:=hh;have hk2:=of_decide_eq_true hk1;clear hk1;subst hk2;simp only[Option.some.injEq] at h;subst h;obtain⟨u',t',rfl,hu1,ht'⟩:=hx.cons_inv;obtain⟨v',s',rfl,hv1,hs'⟩:=hy.cons_inv;rw[ht'.bU] at cu;rw[hs'.bU] at cv;unfold aO at hu1 hv1;rcases cu with⟨hk',_⟩|⟨_,cu⟩
    ·rw[hk] at hk';cases hk'
    ·rcases cv with⟨hk',_⟩|⟨_,cv⟩
     ·rw[hk] at hk';cases hk'
     ·simp only[List.cons.injEq,and_true] at cu cv
      rw[←cu,←cv,hu1,hv1];exact run_equalIn_int w _ t _ _ _ _ hu
   ·cases h
  ·rename_i hu
   have hk:bM P t=some false:=by unfold bM;rw[hu]
   split at h
   ·simp only[Option.some.injEq] at h
    subst h;obtain⟨u',t',rfl,hu1,ht'⟩:=hx.cons_inv;obtain⟨v',s',rfl,hv1,hs'⟩:=hy.cons_inv;rw[ht'.bU] at cu;rw[hs'.bU] at cv;unfold aO at hu1 hv1;rcases cu with⟨hk',_⟩|⟨_,cu⟩
    ·rw[hk] at hk';cases hk'
    ·rcases cv with⟨hk',_⟩|⟨_,cv⟩
     ·rw[hk] at hk';cases hk'
     ·simp only[List.cons.injEq,and_true] at cu cv
      rw[←cu,←cv,hu1,hv1,run_equalIn_string w _ t _ _ hu,zB]
   ·cases h
  ·rename_i fs hu
   have hk:bM P t=some true:=by unfold bM;rw[hu]
   cases hst:P.stoodInHeld t with
   |true=>rw[hst] at h;cases h
   |false=>
    rw[hst,cond_false] at h;rcases cu with⟨_,rfl⟩|⟨hk',_⟩
    ·rcases cv with⟨_,rfl⟩|⟨hk',_⟩
     ·have hfs:P.fieldsOf t=fs:=by unfold Program.fieldsOf;rw[hu]
      rw[run_equalIn_struct w _ t _ _ (by rw[hfs];exact hu) hst,hfs];exact Ks ih hx hy fs.toList c h
     ·rw[hk] at hk';cases hk'
    ·rw[hk] at hk';cases hk'
  ·rename_i k e hu
   have hk:bM P t=some true:=by unfold bM;rw[hu]
   split at h
   ·rename_i n hs
    obtain⟨i,hi,hin⟩:=kY hs;rcases cu with⟨_,rfl⟩|⟨hk',_⟩
    ·rcases cv with⟨_,rfl⟩|⟨hk',_⟩
     ·have hc:P.cellsOf e=n:=by simp[Program.cellsOf,hi,hin]
      rw[run_equalIn_array w _ _ _ hu hi,hc];exact Pp ih hs hx hy (List.range k) c h
     ·rw[hk] at hk';cases hk'
    ·rw[hk] at hk';cases hk'
   ·cases h
  ·cases h
theorem TK {op:BinOp} {xt yt:TypeId} {x y:Operand} {X Y:V} {eff:Eff} (ho:o.op=.binOp op xt x y yt) (hx:aN g X (ρ x)) (hy:aN g Y (ρ y)) (h:binT P op xt X Y=some (true,eff))
  (hother: ∀{eff:Eff},(bif SL P xt X then resV (binV op X Y) else none)=some (true,eff)→Does P ρ o B w g bx eff):Does P ρ o B w g bx eff:=by
 have he:execOp ρ o=(do pure (.value (←(do eqGuard op xt x y (ρ x) (ρ y);binOp op xt (ρ x) (ρ y))))):=by simp only[execOp,ho]
 unfold binT at h;split at h
 ·rename_i as bs
  cases hg:P.eqGuardType P.depth xt with
  |true=>rw[hg] at h;cases h
  |false=>
   rw[hg,cond_false] at h;obtain⟨us,hus,hpu⟩:=iI.1 hx;obtain⟨vs,hvs,hpv⟩:=iI.1 hy;split at h
   ·rename_i c hag hc
    simp only[ok,Option.some.injEq,Prod.mk.injEq,true_and] at h;subst h;have:=CB (P:=P) (w:=w) 9992 8 xt as bs c hc g.G us vs _ _ hpu hpv (.inl ⟨hag,rfl⟩) (.inl ⟨hag,rfl⟩);refine bg he (u:=.bool c) ?_ (dx.2 rfl);rw[hus,hvs];simp only[Sem.run_bind,run_eqGuard_agg w _ _ _ _ _ _ hg,Result.andThen_ok,run_eql_struct,this]
   ·rename_i c hag hc
    simp only[ok,Option.some.injEq,Prod.mk.injEq,true_and] at h;subst h;have:=CB (P:=P) (w:=w) 9992 8 xt as bs c hc g.G us vs _ _ hpu hpv (.inl ⟨hag,rfl⟩) (.inl ⟨hag,rfl⟩);refine bg he (u:=.bool (aK c)) ?_ (dx.2 rfl);rw[hus,hvs];simp only[Sem.run_bind,run_eqGuard_agg w _ _ _ _ _ _ hg,Result.andThen_ok,run_neq_struct,this];rfl
   ·cases h
 ·exact hother h
theorem JE {t:TypeId} {x i:Operand} {k off:Nat} {q:IntKind} {n:Int} {eff:Eff} (ho:o.op=.indexAddr t x i) (hx:aN g (.box k off) (ρ x)) (hi:ρ i=.int q n) (h:GD P t k off n=some (true,eff)):Does P ρ o B w g bx eff:=by
 have he:execOp ρ o=(do pure (.value (←Instr.indexAt t (ρ x) (ρ i)))):=by simp only[execOp,ho]
 unfold GD at h;split at h
 ·rename_i m e hu
  split at h
  ·rename_i sz hs
   obtain⟨h0,h⟩:=aD h;simp only[Option.some.injEq,Prod.mk.injEq,true_and] at h;subst h;obtain⟨b,hb,hp⟩:=dM.1 hx;intro j v hj hv;subst hj;rw[List.getElem?_map] at hv;obtain⟨j',hj',rfl⟩:=Option.map_eq_some_iff.1 hv;have hlt:j<m:=by
    have:=(List.getElem?_eq_some_iff.1 hj').1;simpa using this
   rw[List.getElem?_range hlt] at hj';simp only[Option.some.injEq] at hj';subst hj';obtain⟨u,hu1,hu2⟩:=(bg (B:=B) (bx:=bx) (v:=.box k (off+j*sz)) he (u:=.pointer (some ⟨b,off+j*sz,none⟩)) (by
    rw[hp,hi];have h1:(j:Int)<(m:Int):=by omega
    simp[Instr.indexAt,asIntOf,run_underlying hu,h1,Instr.sureAddr,dF hs,Addr.add_mid];intro hh;exact absurd hh (by omega)) (dM.2 ⟨b,hb,rfl⟩):Does P ρ o B w g bx (.val (.box k (off+j*sz))))
   exact⟨u,hu1,hu2⟩
  ·cases h
 ·cases h
theorem Ia {ag:Bool} {sz:Nat}: ∀(n:Nat) (cs:List V) (j:Nat) (v:V),(chunks ag sz n cs)[j]? =some v→j<n∧v=(match ag with|true=>V.agg ((cs.drop (j*sz)).take sz)|false=>sQ ((cs.drop (j*sz)).getD 0 .any))
 |0,cs,j,v,h=>by simp[chunks] at h
 |n+1,cs,j,v,h=>by
  unfold chunks at h
  cases j with
  |zero=>
   simp only[List.getElem?_cons_zero,Option.some.injEq] at h;subst h;refine⟨by omega,?_⟩
   cases ag<;>simp
  |succ j=>
   simp only[List.getElem?_cons_succ] at h;obtain⟨h1,h2⟩:=Ia n _ j v h;refine⟨by omega,?_⟩;rw[h2];rw[List.drop_drop,show sz+j*sz=(j+1)*sz by rw[Nat.add_mul];omega]
theorem XQ {v:V} (h:v.one=true):v.plain=true∧sQ v=v:=by
 cases v with
 |sl e sh ow xs=>cases ow<;>first|exact⟨rfl,rfl⟩|cases h
 |any=>cases h
 |agg _=>cases h
 |tup _=>cases h
 |box _ _=>cases h
 |eptr _ _ _ _ _ _=>cases h
 |fn _ _=>cases h
 |bxa _ _=>cases h
 |out _ _ _=>cases h
 |qb _ _ _=>cases h
 |old _=>cases h
 |slz _ _ _ _ _ _ _ _ _ _=>cases h
 |epz _ _ _ _ _=>cases h
 |keep _ _=>cases h
 |_=>exact⟨rfl,rfl⟩
theorem Kt {g:Gh} {x:V} {u:Value} (hx:L6 x=true) (h:bH g x u):u.cells= #[u]∧u.oneCell'=true:=by
 cases x with
 |box k off=>obtain⟨b,_,rfl⟩:=h;exact⟨rfl,rfl⟩
 |_=>cases hx
theorem GN: ∀(ps:List (Nat×Value)) (k:Nat) (cells:Array Value),(∀(i:Nat) (p:Nat×Value),ps[i]? =some p→p.1=k+i∧p.2.cells= #[p.2])→cells.size=k+ps.length→
  Instr.fill (fun i=>some (i*1,1)) cells ps=some (cells.toList.take k++ps.map (·.2)).toArray
 |[],k,cells,_,hs=>by
  simp only[Instr.fill,List.map_nil,List.append_nil,Option.some.injEq];rw[←Array.toList_inj];rw[List.length_nil,Nat.add_zero] at hs;show cells.toList=cells.toList.take k;rw[List.take_of_length_le (by rw[Array.length_toList];omega)]
 |p::ps,k,cells,h,hs=>by
  obtain⟨h1,h2⟩:=h 0 p rfl;rw[Nat.add_zero] at h1;rw[List.length_cons] at hs;obtain⟨i,v⟩:=p;simp only at h1 h2;subst h1;unfold Instr.fill;simp only[h2];rw[if_neg (by simp;omega)];have e1:((#[v]:Array Value).zipIdx.foldl (fun cs (c,j)=>cs.setIfInBounds (i*1+j) c) cells)=cells.setIfInBounds i v:=by simp[Array.zipIdx]
  rw[e1,GN ps (i+1) (cells.setIfInBounds i v) (fun j p hp=>by
   have:=h (j+1) p (by simpa using hp);exact⟨by omega,this.2⟩) (by simp;omega)]
  congr 2
  rw[Array.toList_setIfInBounds,List.map_cons];have hlt:i<cells.toList.length:=by rw[Array.length_toList];omega
  rw[List.take_set,List.take_succ_eq_append_getElem hlt,List.set_append_right _ _ (by rw[List.length_take];omega),List.append_assoc];have:(cells.toList.take i).length=i:=by rw[List.length_take];omega
  simp[this]
theorem CF: ∀(ps:List (Nat×V)) (k:Nat),seqI k ps=true→ ∀(i:Nat) (p:Nat×V),ps[i]? =some p→p.1=k+i
 |[],_,_,i,p,h=>by simp at h
 |q::ps,k,h,i,p,hp=>by
  unfold seqI at h;rw[Bool.and_eq_true,beq_iff_eq] at h
  cases i with
  |zero=>
   simp only[List.getElem?_cons_zero,Option.some.injEq] at hp;subst hp;rw[Nat.add_zero];exact h.1
  |succ i=>
   have:=CF ps (k+1) h.2 i p (by simpa using hp);omega
theorem TL {r:Operand→V} {ac:Act} {t:TypeId} {parts:Array (Nat×Operand)} {vs:List V} (ho:o.op=.build t parts) (hE: ∀y,aN g (r y) (ac.eval y))
  (h:arrB P t (parts.toList.map fun(i,x)=>(i,r x))=some vs):Does P ac.eval o B w g bx (.val (.fn yP vs)):=by
 have he:execOp ac.eval o=(do pure (.value (←Instr.build t (parts.map fun(i,x)=>(i,ac.eval x))))):=by simp only[execOp,ho]
 unfold arrB at h;split at h
 ·rename_i i n e hi hu
  split at h
  ·rename_i z m hz hs
   obtain⟨hc,h⟩:=aD h;simp only[Option.some.injEq] at h;subst h;simp only[Bool.and_eq_true,beq_iff_eq] at hc;obtain⟨⟨⟨⟨⟨rfl,hzs⟩,hnl⟩,hn0⟩,hseq⟩,hbx⟩:=hc;have hn0:0<n:=by simpa[Nat.blt_eq] using hn0
   rw[List.length_map,Array.length_toList] at hnl;rw[List.all_eq_true] at hbx;have hpw:PW (bH g) ((parts.toList.map fun(i,x)=>(i,r x)).map fun p=>p.2) (parts.toList.map fun p=>ac.eval p.2):=⟨by simp,fun j x v hx hv=>by
    simp only[List.getElem?_map] at hx hv
    cases hj:parts.toList[j]? with
    |none=>rw[hj] at hx;cases hx
    |some p=>
     obtain⟨q,y⟩:=p;rw[hj] at hx hv;simp only[Option.map_some,Option.some.injEq] at hx hv;subst hx;subst hv;have hb:=hbx (q,r y) (List.mem_map.2 ⟨(q,y),List.mem_of_getElem? hj,rfl⟩);have:=hE y;simp only at hb
     cases hy:r y with
     |box k off=>rw[hy] at this;exact this
     |_=>rw[hy] at hb;cases hb⟩
   have hfill:Instr.fill (fun i=>some (i*1,1)) z (parts.toList.map fun p=>(p.1,ac.eval p.2))=some (parts.toList.map fun p=>ac.eval p.2).toArray:=by
    rw[GN _ 0 z (fun j p hp=>?_) (by rw[Nat.zero_add,List.length_map,Array.length_toList];omega)]
    ·simp
    ·simp only[List.getElem?_map] at hp
     cases hj:parts.toList[j]? with
     |none=>rw[hj] at hp;cases hp
     |some q=>
      rw[hj] at hp;simp only[Option.map_some,Option.some.injEq] at hp;subst hp;have h1:=CF _ 0 hseq j (q.1,r q.2) (by rw[List.getElem?_map,hj];rfl);have h2:=hpw.2 j (r q.2) (ac.eval q.2) (by rw[List.getElem?_map,List.getElem?_map,hj];rfl) (by rw[List.getElem?_map,hj];rfl);have hb:=hbx (q.1,r q.2) (List.mem_map.2 ⟨q,List.mem_of_getElem? hj,rfl⟩);exact⟨h1,(Kt hb h2).1⟩
   have hne:(parts.toList.map fun p=>ac.eval p.2)≠[]:=fun e=>by
    have:=congrArg List.length e;rw[List.length_map,Array.length_toList,List.length_nil] at this;omega
   refine bg he (u:=.agg (parts.toList.map fun p=>ac.eval p.2).toArray) ?_ ⟨_,(Pj hne).symm,hpw⟩;have hzr:(zeroValue t).run P w=.ok (.agg z) w:=by simp[zeroValue,typeInfo,hi,hz]
   have hpt:(parts.map fun(i,x)=>(i,ac.eval x)).toList=parts.toList.map fun p=>(p.1,ac.eval p.2):=by simp
   simp only[Instr.build,Sem.run_bind,hzr,Result.andThen_ok,run_underlying hu,dF hs,Value.cells,hpt,hfill,Sem.run_pure]
  ·cases h
 ·cases h
theorem IQ {t:TypeId} {x i:Operand} {vs:List V} {q:IntKind} {n:Int} {eff:Eff} (ho:o.op=.index t x i) (hx:aN g (.fn yP vs) (ρ x)) (hi:ρ i=.int q n) (hb:vs.all L6=true) (h:Cv P t vs n=some (true,eff)):Does P ρ o B w g bx eff:=by
 have he:execOp ρ o=(do pure (.value (←Instr.index t (ρ x) (ρ i)))):=by simp only[execOp,ho]
 unfold Cv at h;split at h
 ·rename_i m e hu
  split at h
  ·rename_i k hs hag
   obtain⟨hc,h2⟩:=aD h;clear h;simp only[Option.some.injEq,Prod.mk.injEq,true_and] at h2;subst h2;simp only[Bool.and_eq_true,beq_iff_eq] at hc;obtain⟨⟨hk1,hm⟩,hm0⟩:=hc;subst hk1;have hm0:0<m:=by simpa[Nat.blt_eq] using hm0
   obtain⟨a,ha,hpw⟩:=hx;have hal:a.length=vs.length:=hpw.1.symm;have hne:a≠[]:=fun e=>by rw[e,List.length_nil] at hal;omega
   rw[Pj hne] at ha;intro j v hj hv;subst hj;have hjl:j<vs.length:=(List.getElem?_eq_some_iff.1 hv).1;have h1:(j:Int)<(m:Int):=by omega
   have hrun:(Instr.index t (.agg a.toArray) (.int q (j:Int))).run P w=(part e a.toArray (j*1)).run P w:=by
    simp[Instr.index,asIntOf,run_underlying hu,h1,dF hs];intro hh;exact absurd hh (by omega)
   obtain⟨u,hu',hr⟩:=hpw.get hv;have hone:=Kt (List.all_eq_true.1 hb v (List.mem_of_getElem? hv)) hr;have htr:aN g v u:=by
    have:=List.all_eq_true.1 hb v (List.mem_of_getElem? hv)
    cases v with
    |box k off=>exact hr
    |_=>cases this
   have hpart:(part e a.toArray (j*1)).run P w=.ok u w:=by
    rw[Nat.mul_one];exact GM hag hu'
   obtain⟨u2,q1,q2⟩:Does P ρ o B w g bx (.val v):=bg he (u:=u) (by rw[ha,hi,hrun];exact hpart) htr;exact⟨u2,q1,q2⟩
  ·cases h
 ·cases h
theorem IR {t:TypeId} {x i:Operand} {cs:List V} {q:IntKind} {n:Int} {eff:Eff} (ho:o.op=.index t x i) (hx:aN g (.agg cs) (ρ x)) (hi:ρ i=.int q n) (h:Cu P t cs n=some (true,eff)):Does P ρ o B w g bx eff:=by
 have he:execOp ρ o=(do pure (.value (←Instr.index t (ρ x) (ρ i)))):=by simp only[execOp,ho]
 unfold Cu at h;split at h
 ·rename_i m e hu
  split at h
  ·rename_i sz ag hs hag
   obtain⟨hm,h⟩:=aD h;simp only[Bool.and_eq_true,beq_iff_eq] at hm;obtain⟨⟨⟨hm1,hm2⟩,hm3⟩,hm4⟩:=hm;have hm2:0<sz:=by simpa[Nat.blt_eq] using hm2
   simp only[Option.some.injEq,Prod.mk.injEq,true_and] at h;subst h;obtain⟨a,ha,hpw⟩:=iI.1 hx;intro j v hj hv;subst hj;obtain⟨hlt,rfl⟩:=Ia _ _ _ _ hv;have h1:(j:Int)<(m:Int):=by omega
   have hrun:(Instr.index t (.agg a.toArray) (.int q (j:Int))).run P w=(part e a.toArray (j*sz)).run P w:=by
    simp[Instr.index,asIntOf,run_underlying hu,h1,dF hs];intro hh;exact absurd hh (by omega)
   rw[List.all_eq_true] at hm4
   cases ag with
   |true=>
    obtain⟨u,hu1,hu2⟩:=(bg (B:=B) (bx:=bx) (v:=.agg ((cs.drop (j*sz)).take sz)) he (u:=.agg ((a.drop (j*sz)).take sz).toArray) (by
     rw[ha,hi,hrun];exact Po hag hs) (iI.2 ⟨_,rfl,(hpw.drop _).take _⟩):Does P ρ o B w g bx (.val (.agg ((cs.drop (j*sz)).take sz))))
    exact⟨u,hu1,hu2⟩
   |false=>
    have hsz:sz=1:=by simpa using hm3
    subst hsz;rw[Nat.mul_one] at hm1;rw[Nat.mul_one];have hjl:j<cs.length:=by omega
    have hget:(cs.drop j).getD 0 .any=cs.getD j .any:=by
     rw[List.getD_eq_getElem?_getD,List.getElem?_drop,Nat.add_zero,List.getD_eq_getElem?_getD]
    rw[hget];obtain⟨u,hu',hr⟩:=hpw.get (getD_some hjl);have hone:=XQ (hm4 _ (show cs.getD j .any∈cs by rw[List.getD_eq_getElem?_getD,List.getElem?_eq_getElem hjl];exact List.getElem_mem hjl));rw[hone.2];obtain⟨u',hu1,hu2⟩:=(bg (B:=B) (bx:=bx) (v:=cs.getD j .any) he (u:=u) (by
     rw[ha,hi,hrun,Nat.mul_one];exact GM hag hu') (bR hone.1 hr):Does P ρ o B w g bx (.val (cs.getD j .any)))
    exact⟨u',hu1,hu2⟩
  ·cases h
 ·cases h
theorem BJ {great:Bool} {x y:Operand} {X Y:V} {c:Call} {eff:Eff} (ho:o.op=.call c) (hc:c.callee=.builtin (match great with|true=> .max|false=> .min)) (ha:c.args.toList=[x,y]) (hx:aN g X (ρ x)) (hy:aN g Y (ρ y)) (h:wo great X Y=some (true,eff)):Does P ρ o B w g bx eff:=by
 obtain⟨callee,args,argTypes⟩:=c;simp only at hc ha;subst hc;obtain rfl:args= #[x,y]:=by rw[←Array.toList_inj];simpa using ha
 unfold wo at h;split at h
 ·rename_i k a k' b
  obtain⟨hk,h⟩:=aD h;simp only[ok,Option.some.injEq,Prod.mk.injEq,true_and] at h;subst h;rw[bY] at hx hy
  cases great with
  |true=>
   refine⟨.int k (imax a b),?_,bY.2 rfl⟩;simp only[execOp,ho];simp[resolve,invoke,builtin,hx,hy,run_max_int2];unfold imax;omega
  |false=>
   refine⟨.int k (imin a b),?_,bY.2 rfl⟩;simp only[execOp,ho];simp[resolve,invoke,builtin,hx,hy,run_min_int2];unfold imin;omega
 ·cases h
theorem mW (P:Program) (w:World) {t:TypeId} {ms:Array (String×TypeId)} (hu:P.underlying t=some (.interface ms)) (tx:TypeId) (vx:Value):
  (Op.equal t .nilIface .nilIface).run P w=.ok true w∧(Op.equal t (.iface tx vx) .nilIface).run P w=.ok false w:=by
 have h0:Op.maxDepth=9999+1:=rfl;unfold Op.equal;rw[h0];generalize (9999:Nat)=m;constructor
 ·unfold Op.equalIn
  simp only[Sem.run_bind,run_underlying hu,Result.andThen_ok];rfl
 ·unfold Op.equalIn
  simp only[Sem.run_bind,run_underlying hu,Result.andThen_ok];rfl
theorem XR {y:Operand} (h:Gc y=true):y=.const .nilIface:=by
 unfold Gc at h;split at h
 ·rfl
 ·cases h
def isNilV:V→Bool
 | .nilif=>true
 |_=>false
theorem XT {op:BinOp} {xt:TypeId} {yc:Bool} {X Y:V} {eff:Eff} (h:nilT P op xt yc X Y=some (true,eff)):
  yc=true∧ ∃ms r,P.underlying xt=some (.interface ms)∧eff=.val (.bool r)∧Y=.nilif∧(X=.nilif∨ ∃u v,X=.iface u v)∧((op=.eql∧r=isNilV X)∨(op=.neq∧r= !isNilV X)):=by
 unfold nilT at h;split at h
 ·rename_i ms hu
  simp only[ok,Option.some.injEq,Prod.mk.injEq,true_and] at h;exact⟨rfl,_,true,by assumption,h.symm,rfl,.inl rfl,.inl ⟨rfl,rfl⟩⟩
 ·rename_i ms u v hu
  simp only[ok,Option.some.injEq,Prod.mk.injEq,true_and] at h;exact⟨rfl,_,false,by assumption,h.symm,rfl,.inr ⟨_,_,rfl⟩,.inl ⟨rfl,rfl⟩⟩
 ·rename_i ms hu
  simp only[ok,Option.some.injEq,Prod.mk.injEq,true_and] at h;exact⟨rfl,_,false,by assumption,h.symm,rfl,.inl rfl,.inr ⟨rfl,rfl⟩⟩
 ·rename_i ms u v hu
  simp only[ok,Option.some.injEq,Prod.mk.injEq,true_and] at h;exact⟨rfl,_,true,by assumption,h.symm,rfl,.inr ⟨_,_,rfl⟩,.inr ⟨rfl,rfl⟩⟩
 ·cases h
theorem Ib {op:BinOp} {xt yt:TypeId} {x y:Operand} {X Y:V} {eff:Eff} (ho:o.op=.binOp op xt x y yt) (hx:aN g X (ρ x)) (hy:aN g Y (ρ y)) (h:nilT P op xt (Gc y) X Y=some (true,eff)):Does P ρ o B w g bx eff:=by
 have he:execOp ρ o=(do pure (.value (←(do eqGuard op xt x y (ρ x) (ρ y);binOp op xt (ρ x) (ρ y))))):=by simp only[execOp,ho]
 obtain⟨hc,ms,r,hu,rfl,rfl,hX,hop⟩:=XT h;obtain rfl:=XR hc;refine bg he (u:=.bool r) ?_ (dx.2 rfl);rw[mO.1 hy];have hg: ∀q,(eqGuard op xt x (.const .nilIface) q .nilIface).run P w=.ok () w:=by
  intro q;rcases hop with⟨rfl,_⟩|⟨rfl,_⟩<;>cases q<;>simp[eqGuard]
 simp only[Sem.run_bind,hg,Result.andThen_ok];rcases hX with rfl|⟨u,v,rfl⟩
 ·rw[mO.1 hx]
  rcases hop with⟨rfl,rfl⟩|⟨rfl,rfl⟩
  ·show(do pure (Value.bool (←Op.equal xt .nilIface .nilIface)):Sem Value).run P w=_
   simp only[Sem.run_bind,(mW P w hu 0 .nilIface).1,Result.andThen_ok,Sem.run_pure];rfl
  ·show(do pure (Value.bool (!(←Op.equal xt .nilIface .nilIface))):Sem Value).run P w=_
   simp only[Sem.run_bind,(mW P w hu 0 .nilIface).1,Result.andThen_ok,Sem.run_pure];rfl
 ·obtain⟨z,hz,_⟩:=jH.1 hx
  rw[hz];rcases hop with⟨rfl,rfl⟩|⟨rfl,rfl⟩
  ·show(do pure (Value.bool (←Op.equal xt (.iface u z) .nilIface)):Sem Value).run P w=_
   simp only[Sem.run_bind,(mW P w hu u z).2,Result.andThen_ok,Sem.run_pure];rfl
  ·show(do pure (Value.bool (!(←Op.equal xt (.iface u z) .nilIface))):Sem Value).run P w=_
   simp only[Sem.run_bind,(mW P w hu u z).2,Result.andThen_ok,Sem.run_pure];rfl
theorem EU {t:TypeId} {x:Operand} {v:V} {d:TypeDesc} {X:V} (ho:o.op=.makeInterface t x) (hu:P.underlying t=some d) (hd: ∀ms,d≠.interface ms) (hX:X.deep=some v) (hx:aN g X (ρ x)):Does P ρ o B w g bx (.val (.iface t v)):=by
 refine⟨.iface t (ρ x),?_,jH.2 ⟨_,rfl,oH hx hX⟩⟩
 cases d with
 |interface ms=>exact absurd rfl (hd ms)
 |_=>simp only[execOp,ho,Instr.makeInterface,Sem.run_bind,run_underlying hu,Result.andThen_ok];rfl
theorem BK {t:TypeId} {z:V} (h:J4 P t=some z):z.plain=true∧z.single=true:=by
 unfold J4 at h;split at h
 ·split at h
  ·rename_i u hu
   refine⟨jG h,?_⟩;unfold qi at h;split at h
   ·simp only[V.deep,Option.some.injEq] at h;subst h;rfl
   ·unfold EI at h
    split at h<;>simp[V.deep] at h<;>subst h<;>rfl
  ·cases h
 ·cases h
theorem QH {t:TypeId} {z:V} (h:J4 P t=some z): ∃u,(zeroValue t).run P w=.ok u w∧ ∀G,aO G z u:=by
 unfold J4 at h;split at h
 ·rename_i i hi
  split at h
  ·rename_i u hu
   refine⟨u,?_,fun G=>?_⟩
   ·simp[zeroValue,typeInfo,hi,hu]
   ·exact Pm (vv G u) h
  ·cases h
 ·cases h
theorem Dg {x:Operand} {xt t:TypeId} {d:TypeDesc} {z X:V} (ho:o.op=.typeAssert x xt t true) (hu:P.underlying t=some d) (hd: ∀ms,d≠.interface ms) (hz:J4 P t=some z) (hx:aN g X (ρ x)):
  (X=.nilif→Does P ρ o B w g bx (.val (.tup [z,.bool false])))∧
  (∀u v,X=.iface u v→u≠t→Does P ρ o B w g bx (.val (.tup [z,.bool false])))∧
  (∀u v,X=.iface u v→u=t→bH g v=aO g.G v→Does P ρ o B w g bx (.val (.tup [v,.bool true]))):=by
 obtain⟨zu,hzu,hzr⟩:=QH (w:=w) hz;have hzs:bH g z zu:=aV (BK hz).2 (bR (BK hz).1 (hzr g.G));have hrun1:ρ x=.nilIface→(Instr.typeAssert (ρ x) xt t true).run P w=.ok (.tuple #[zu,.bool false]) w:=by
  intro hq;rw[hq]
  cases d with
  |interface ms=>exact absurd rfl (hd ms)
  |_=>simp only[Instr.typeAssert,Sem.run_bind,run_underlying hu,Result.andThen_ok];simp[hzu]
 have Vb: ∀u v,ρ x=.iface u v→(Instr.typeAssert (ρ x) xt t true).run P w=if u=t then .ok (.tuple #[v,.bool true]) w else .ok (.tuple #[zu,.bool false]) w:=by
  intro u v hq;rw[hq]
  cases d with
  |interface ms=>exact absurd rfl (hd ms)
  |_=>
   simp only[Instr.typeAssert,Sem.run_bind,run_underlying hu,Result.andThen_ok];by_cases hut:u=t
   ·simp[hut]
   ·simp[hut,hzu]
 have he:execOp ρ o=(do pure (.value (←Instr.typeAssert (ρ x) xt t true))):=by simp only[execOp,ho]
 have hf:bH g (.bool false) (.bool false):=by show aO _ _ _;unfold aO;rfl
 have ht:bH g (.bool true) (.bool true):=by show aO _ _ _;unfold aO;rfl
 refine⟨fun e=>?_,fun u v e hne=>?_,fun u v e heq hsr=>?_⟩
 ·subst e
  have hq:=hrun1 (mO.1 hx);exact bg he (u:=.tuple #[zu,.bool false]) hq ⟨[zu,.bool false],rfl,.cons hzs (.cons hf .nil)⟩
 ·subst e
  obtain⟨q,hq,_⟩:=jH.1 hx;have h2:=Vb _ _ hq;rw[if_neg hne] at h2;exact bg he (u:=.tuple #[zu,.bool false]) h2 ⟨[zu,.bool false],rfl,.cons hzs (.cons hf .nil)⟩
 ·subst e
  obtain⟨q,hq,hr⟩:=jH.1 hx;have h2:=Vb _ _ hq;rw[if_pos heq] at h2;exact bg he (u:=.tuple #[q,.bool true]) h2 ⟨[q,.bool true],rfl,.cons (by rw[hsr];exact hr) (.cons ht .nil)⟩
end
end Nt.Ev
