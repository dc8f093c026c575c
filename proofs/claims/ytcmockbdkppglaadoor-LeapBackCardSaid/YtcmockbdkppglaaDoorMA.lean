/-
  An evaluator of Go code over plain values (no world): integers, strings as byte lists, slices as lists.
-/
import Derived.WalkKit
import Derived.LoopN
import Derived.Orders
import Derived.Laws.AppendOwn
import Derived.Deep.MidRow
import Derived.Great.BuildSlice
import Derived.Laws.MakeOwn
import Derived.Laws.BytesString
import Derived.Laws.StructEq
import Derived.ChangeKeysEq
set_option linter.all false
abbrev aF:=@Option.some.injEq
abbrev bB:=@Bool.and_eq_true
abbrev gQ:=@List.getElem?_eq_getElem
abbrev bP:=@Prod.mk.injEq
abbrev iy:=@List.length_cons
abbrev nX:=@Array.getD_eq_getD_getElem?
abbrev o6:=@Array.getElem?_eq_getElem
abbrev jJ:=@List.all_eq_true
abbrev sQ:=@List.getD_eq_getElem?_getD
abbrev fQ:=@cond_false
abbrev nY:=@List.length_append
abbrev iA:=@Nat.le_refl
abbrev fT:=@beq_iff_eq
abbrev oZ:=@beq_eq_false_iff_ne
abbrev oQ:=@Option.getD_some
abbrev qa:=@List.getElem?_map
abbrev vg:=@List.mem_cons_of_mem
abbrev gY:=@cond_true
abbrev sS:=@List.mem_cons_self
abbrev o5:=@List.length_nil
abbrev BZ:=@List.getElem?_cons_zero
abbrev zi:=@Bool.or_eq_false_iff
abbrev yG:=@Array.length_toList
abbrev qJ:=@Option.map_some
abbrev Bz:=@List.mem_of_getElem?
abbrev BD:=@List.getElem?_of_mem
abbrev je:=@true_and
abbrev vk:=@List.length_map
abbrev zk:=@List.length_drop
abbrev yH:=@Bool.or_eq_true
abbrev yI:=@decide_eq_false
abbrev B5:=@of_decide_eq_true
abbrev BF:=@List.any_eq_true
abbrev Mb:=@Array.getElem?_replicate
abbrev J8:=@List.take_of_length_le
abbrev RN:=@List.eq_nil_of_length_eq_zero
abbrev B6:=@List.length_take
abbrev Iw:=@List.getElem?_take
abbrev yJ:=@List.map_cons
abbrev J9:=@Nat.mul_le_mul_right
abbrev E8:=@beq_self_eq_true
abbrev Mc:=@List.length_singleton
abbrev IB:=@List.getElem?_drop
abbrev Iy:=@decide_eq_true_eq
abbrev Iz:=@List.append_assoc
abbrev Ff:=@Array.toList_inj
abbrev Fg:=@List.getElem_mem
abbrev vo:=@Nat.add_mul
abbrev Ka:=@decide_eq_true_iff
abbrev DD:=@decide_eq_true
abbrev zl:=@Nat.le_trans
abbrev IC:=@List.prefix_refl
abbrev IA:=@List.nil_append
abbrev Kb:=@List.cons_append
abbrev Md:=@Int.toNat_natCast
abbrev N6:=@Bool.false_eq_true
abbrev N7:=@List.mem_singleton
abbrev N8:=@List.contains_cons
abbrev Kc:=@Bool.eq_iff_iff
abbrev R6:=@Nat.le_of_ble_eq_true
abbrev zm:=@Nat.blt_eq
abbrev Ca:=@Nat.zero_le
abbrev N9:=@Nat.lt_of_not_le
abbrev Ke:=@List.drop_drop
abbrev Oi:=@List.size_toArray
abbrev Oj:=@List.any_eq_false
abbrev Fh:=@Nat.zero_add
abbrev R7:=@Nat.pow_le_pow_right
abbrev XF:=@List.set_eq_take_append_cons_drop
abbrev Oa:=@List.append_nil
abbrev R8:=@List.map_congr_left
abbrev Xg:=@Array.toList_setIfInBounds
abbrev Xh:=@List.getElem?_append_left
abbrev Ol:=@List.length_set
abbrev Me:=@List.all_cons
abbrev RO:=@List.countP_cons
abbrev RP:=@List.take_length
abbrev Om:=@List.drop_zero
abbrev On:=@Bool.true_and
abbrev Xi:=@List.getElem?_eq_none
abbrev R9:=@List.mem_append
abbrev Ob:=@Nat.add_zero
abbrev Sb:=@List.cons.injEq
abbrev Xj:=@List.contains_iff_mem
abbrev Sc:=@Nat.not_lt_zero
abbrev XG:=@List.getElem?_cons_succ
abbrev Sd:=@List.take_left
abbrev UM:=@List.nodup_cons
abbrev UN:=@List.mem_filter
abbrev Xk:=@List.takeWhile_cons
abbrev XH:=@List.drop_of_length_le
abbrev Zu:=@List.getElem?_append_right
abbrev RQ:=@List.map_map
abbrev XI:=@Array.mem_of_getElem?
abbrev XJ:=@List.length_replicate
abbrev Fj:=@if_false
abbrev Xl:=@Array.size_append
abbrev Se:=@Nat.pow_succ
abbrev XK:=@List.getElem?_range
abbrev RS:=@Nat.one_mul
abbrev XL:=@Array.toList_append
abbrev UO:=@List.any_cons
abbrev XM:=@List.filter_sublist
abbrev XN:=@List.getD_cons_zero
abbrev Xm:=@List.filter_cons
abbrev Xn:=@List.nodup_range
abbrev Zv:=@List.getElem?_set_self
abbrev Sf:=@Int.le_refl
abbrev UQ:=@Nat.sub_zero
abbrev Zw:=@Nat.ble_eq_true_of_le
abbrev Zx:=@List.countP_le_length
abbrev Zy:=@List.getElem?_toArray
abbrev XO:=@List.length_range
abbrev Zz:=@Array.mem_toList_iff
abbrev Xo:=@Nat.mul_le_mul
abbrev Xp:=@List.mem_range
abbrev ab5:=@List.drop_eq_getElem_cons
abbrev XP:=@Array.toList_map
abbrev ZA:=@List.toList_toArray
abbrev ZB:=@List.dropWhile_cons
abbrev ZC:=@List.getD_cons_succ
abbrev Vx:=@Nat.add_comm
abbrev ace:=@List.getElem?_take_of_lt
abbrev Xq:=@Bool.false_or
abbrev Xr:=@List.mem_cons
abbrev ZD:=@not_true_eq_false
abbrev aci:=@Array.getElem?_toList
abbrev Xt:=@Nat.sub_self
abbrev ack:=@Array.getElem?_modify
abbrev acm:=@List.eq_nil_iff_forall_not_mem
abbrev acn:=@List.take_append_drop
abbrev ZE:=@List.range'_succ
abbrev ZF:=@List.getElem_map
abbrev acr:=@List.mem_append_left
abbrev acs:=@List.range_eq_range'
abbrev acu:=@Array.toArray_toList
abbrev XQ:=@List.take_set
abbrev Vy:=@Nat.mod_lt
abbrev Vz:=@bne_iff_ne
abbrev acz:=@List.take_succ_cons
abbrev ZG:=@Nat.min_eq_left
abbrev acB:=@List.getElem_of_mem
abbrev acC:=@List.replicate_succ
abbrev acD:=@List.mem_map_of_mem
abbrev ZH:=@Int.natAbs_tdiv
abbrev acF:=@of_decide_eq_false
abbrev acG:=@Nat.lt_of_lt_of_le
abbrev acH:=@UInt8.toNat_ofNat'
abbrev ZI:=@List.mapM_cons
abbrev acJ:=@List.ext_getElem?
abbrev acK:=@Function.comp_def
abbrev acL:=@Bool.not_eq_true'
abbrev acM:=@Bool.eq_false_or_eq_true
abbrev ZJ:=@Nat.add_assoc
abbrev XR:=@Nat.mul_one
abbrev ZK:=@Bool.not_true
abbrev XT:=@Nat.pow_pos
abbrev acR:=@Int.eq_ofNat_of_zero_le
abbrev acS:=@List.not_mem_nil
abbrev ZL:=@Nat.zero_mul
abbrev ZM:=@List.mem_map
abbrev ZN:=@Nat.lt_or_ge
abbrev acW:=@List.all_append
abbrev acX:=@List.take_take
abbrev acY:=@List.drop_take
abbrev acZ:=@Bool.not_false
abbrev ZO:=@List.map_id
abbrev ac1:=@Bool.and_true
abbrev ah:=List UInt8
namespace Nt.Ev
open Go
inductive Kd where
 |bool|int (k:IntKind)|str|sl (e:Nat) (sh:List Kd)|oth
mutual
def Kd.eq:Kd→Kd→Bool
 | .bool,.bool=>true
 | .int k,.int k'=>k==k'
 | .str,.str=>true
 | .sl e sh,.sl e' sh'=>e==e'&&Kd.zn sh sh'
 |_,_=>false
def Kd.zn:List Kd→List Kd→Bool
 |[],[]=>true
 |a::l,b::m=>Kd.eq a b&&Kd.zn l m
 |_,_=>false
end
inductive V where
 |any
 |bool (b:Bool)
 |int (k:IntKind) (n:Int)
 |str (l:ah)
 |agg (cs:List V)
 |tup (vs:List V)
 |nilsl
 |sl (e:Nat) (sh:List Kd) (o:Option Nat) (xs:List V)
 |rptr (sh:List Kd) (x:V) (off:Nat)
 |box (k off:Nat)
 |eptr (L e:Nat) (sh:List Kd) (xs:List V) (i:Int) (off:Nat)
 |fn (f:Nat) (Yj:List V)
 |nilif
 |nilp
 |iface (t:Nat) (x:V)
 |bxa (off:Nat) (cs:List V)
 |out (jN:Bool) (x:V) (bs:List (List V))
 |qD (b:Bool) (x y:V)
 |old (x:V)
 |slz (L e:Nat) (sh:List Kd) (xs:List V) (o2:Option Nat) (i:Int) (c e2:Nat) (Oo:List Kd) (ys:List V)
 |epz (L e sz:Nat) (i:Int) (off:Nat)
 |keep (jN:Bool) (x:V)
 deriving Inhabited
abbrev af:=List V
def HL:Nat:=1000000000
def sel {α:Type} (c:Bool) (a b:α):α:=match c with|true=>a|false=>b
def aY (k:IntKind) (a b:Int):Int:=k.wrap (a+b)
def bD (k:IntKind) (a b:Int):Int:=k.wrap (a-b)
def iB (k:IntKind) (a b:Int):Int:=k.wrap (a*b)
def iC (k:IntKind) (a b:Int):Int:=k.wrap (a.tdiv b)
def DK (a b:Int):Int:=a.tmod b
def gP (k:IntKind) (n:Int):Int:=k.wrap n
def wO (a:BinOp) (k:IntKind) (x y:Int):Int:=
 match a with
 | .and=>k.wrap (BitVec.ofInt k.bits x&&& BitVec.ofInt k.bits y).toNat
 | .or=>k.wrap (BitVec.ofInt k.bits x|||BitVec.ofInt k.bits y).toNat
 | .xor=>k.wrap (BitVec.ofInt k.bits x ^^^ BitVec.ofInt k.bits y).toNat
 |_=>k.wrap (BitVec.ofInt k.bits x&&& ~~~BitVec.ofInt k.bits y).toNat
def VK (k:IntKind) (x y:Int):Int:=k.wrap (x*2 ^ (min y.toNat k.bits))
def Mi (k:IntKind) (x y:Int):Int:=x.fdiv (2 ^ (min y.toNat k.bits))
def sW (a b:Int):Int:=min a b
def imax (a b:Int):Int:=max a b
def aZ (a b:Int):Bool:=decide (a<b)
def aH (a b:Int):Bool:=decide (a≤b)
def ieq (a b:Int):Bool:=a==b
def UR (a b:Nat):Bool:=decide (a≤b)
def jC (a b:ah):Bool:=UR (a.length+b.length) 1152921504606846976
def YX (a:ah):Bool:=UR a.length 1152921504606846976
def aS (a:Bool):Bool:=!a
def beq (a b:Bool):Bool:=a==b
def av (a b:Bool):Bool:=match a with|true=>b|false=>false
def aK (l:ah):Int:=(l.length:Int)
def sat (l:ah) (i:Int):Int:=((l.getD i.toNat 0).toNat:Int)
def dN (l:ah) (a b:Int):ah:=(l.drop a.toNat).take (b.toNat-a.toNat)
def fw (a b:ah):ah:=a++b
def seq (a b:ah):Bool:=a==b
def slt (a b:ah):Bool:=Op.bytesLess a b
def aQ (xs:af):Int:=(xs.length:Int)
def bq (xs:af) (i:Int):V:=xs.getD i.toNat .any
def yj (xs:af) (a b:Int):af:=(xs.drop a.toNat).take (b.toNat-a.toNat)
def yo (xs:af) (i:Int) (v:V):af:=xs.set i.toNat v
def bT (xs ys:af):af:=xs++ys
def fO (xs ys:af):Bool:=UR (xs.length+ys.length) 16777216
def oV (ys:af):Bool:=UR ys.length 16777216
def vB (n:Int) (x:V):af:=List.replicate n.toNat x
def aC (l:ah):af:=l.map fun c=> .int .u8 (c.toNat:Int)
def eO:V→ah| .str l=>l|_=>[]
def asInt:V→Int| .int _ n=>n|_=>0
def asBool:V→Bool| .bool b=>b|_=>false
def asL:V→af| .sl _ _ _ xs=>xs|_=>[]
def aN (x:V) (j:Nat):V:=match x with| .agg cs=>cs.getD j .any|x=>x
def eF (xs:af):ah:=xs.map fun v=>UInt8.ofNat (asInt (aN v 0)).toNat
def eta:Kd→V→V
 | .bool,x=> .bool (asBool x)
 | .int k,x=> .int k (asInt x)
 | .str,x=> .str (eO x)
 | .sl e sh,x=> .sl e sh none (asL x)
 | .oth,x=>x
def V.cells:V→af
 | .agg a=>a
 |v=>[v]
def V.deep:V→Option V
 | .sl e sh _ xs=>some (.sl e sh none xs)
 | .bool b=>some (.bool b)
 | .int k n=>some (.int k n)
 | .str l=>some (.str l)
 | .agg a=>some (.agg a)
 | .nilsl=>some .nilsl
 | .rptr sh x off=>some (.rptr sh x off)
 | .nilif=>some .nilif
 | .nilp=>some .nilp
 | .iface t x=>some (.iface t x)
 | .fn f []=>some (.fn f [])
 |_=>none
def V.FC:V→Bool
 | .old _=>true
 |_=>false
def V.wP:V→V
 | .old x=>x
 |v=>v
def V.dO:V→Bool
 | .sl _ _ none _=>true
 | .agg _=>true
 | .rptr _ _ _=>true
 | .iface _ _=>true
 |_=>false
def V.single:V→Bool
 | .tup _=>false
 | .fn _ _=>false
 |_=>true
def V.one:V→Bool
 | .bool _=>true
 | .int _ _=>true
 | .str _=>true
 | .nilsl=>true
 | .sl _ _ none _=>true
 | .rptr _ _ _=>true
 | .nilif=>true
 | .nilp=>true
 | .iface _ _=>true
 |_=>false
def rA:Nat:=1000000
def BM:Nat:=2000000
def AM:Nat:=3000000
def Wp:V→Bool
 | .int _ n=>Nat.blt n.toNat rA
 |_=>false
def bmV (p:V):V→V
 | .int _ n=> .fn BM [.int .i64 n,p]
 |_=> .any
def bM:V→Option (af)
 | .eptr _ _ _ _ _ _=>none
 | .epz _ _ _ _ _=>none
 | .keep _ _=>none
 | .agg a=>bif a.all V.one then some a else none
 | .fn f c=>bif Nat.blt f rA then some [.fn f c] else bif f==AM then(match c with
  |p::l=>bif l.all Wp then some (l.map (bmV p)) else none
  |[]=>none) else none
 | .any=>none
 | .tup _=>none
 | .bxa _ _=>none
 | .out _ _ _=>none
 | .qD _ _ _=>none
 | .old _=>none
 |v=>some [v]
def V.qN:af→Option (af)
 |[]=>some []
 |v::l=>match v.deep,V.qN l with
  |some v,some l=>some (v::l)
  |_,_=>none
def fits:Kd→V→Bool
 | .bool,.bool _=>true
 | .int k,.int c _=>k==c
 | .str,.str _=>true
 | .sl e sh,.sl b a _ _=>e==b&&Kd.zn sh a
 | .sl _ _,.nilsl=>true
 | .oth,.qD _ _ _=>true
 |_,_=>false
def flatK:Kd→Bool
 | .bool=>true
 | .int _=>true
 | .str=>true
 |_=>false
def bE:List Kd→af→Bool
 |[],[]=>true
 |k::l,v::m=>av (fits k v) (bE l m)
 |_,_=>false
def eP (sh:List Kd) (v:V):Bool:=bE sh v.cells
def aset (x:V) (off:Nat) (v:V):V:=.agg (x.cells.set off v)
def qF (sh:List Kd) (x:V) (off:Nat) (v:V):V:=match sh with
 |[_]=>v
 |_=>aset x off v
def wQ (sh:List Kd) (off:Nat) (v:V):Bool:=match sh[off]? with
 |some k=>fits k v
 |none=>false
def Ce (sh:List Kd) (off:Nat) (v:V):Bool:=sh.all flatK&&wQ sh off v
def qd (sh:List Kd):af→Bool
 |[]=>true
 |v::l=>av (eP sh v) (qd sh l)
def yu:Value→V
 | .bool b=> .bool b
 | .int k n=> .int k n
 | .string s=> .str s.data.toList
 | .slice none 0 0=> .nilsl
 | .nilIface=> .nilif
 | .pointer none=> .nilp
 |_=> .any
def mo:Value→V
 | .agg a=> .agg (a.toList.map yu)
 |v=>yu v
structure St where
 fr:af
 bx:List (Nat×af)
structure Env where
 P:Program
 glob:Nat→Option V
def slot (fr:af) (t:Nat):V:=fr.getD t .any
def iD (E:Env) (fr:af):Operand→V
 | .tmp t=>slot fr t
 | .const v=>mo v
 | .global g=>match E.glob g with|some v=>v|none=> .any
 | .func f=> .fn f []
def bL (P:Program) (t:TypeId):Option Nat:=match P.info? t with|some i=>some i.size|none=>none
def bf (P:Program) (t:TypeId):Option Bool:=
 match P.underlying t with
 |some (.struct _)=>some true
 |some (.array _ _)=>some true
 |some _=>some false
 |none=>none
def Cf (P:Program) (t:TypeId):Option TypeId:=match P.underlying t with|some (.slice e)=>some e|_=>none
def eG (P:Program):Nat→TypeId→List Kd
 |0,_=>[.oth]
 |n+1,t=>match P.underlying t with
  |some .bool=>[.bool]
  |some (.int k)=>[.int k]
  |some .string=>[.str]
  |some (.slice e)=>[.sl e (eG P n e)]
  |some (.struct a)=>a.toList.flatMap fun f=>eG P n f.type
  |some (.array k e)=>(List.replicate k (eG P n e)).flatten
  |_=>[.oth]
def Cg (P:Program) (t:TypeId):Option V:=match P.info? t with|some i=>(match i.zero with|some z=>(mo z).deep|none=>none)|none=>none
def elemOf (P:Program) (t:TypeId):Option (TypeId×List Kd×V):=
 match Cf P t with
 |none=>none
 |some e=>
  match P.info? e with
  |none=>none
  |some i=>
   match i.zero with
   |none=>none
   |some z=>
    let sh:=eG P 8 e
    bif i.size==sh.length&&Nat.blt 0 i.size&&z.cells.size==i.size&&Nat.ble i.bytes 8388608&&eP sh (mo z) then some (e,sh,mo z) else none
inductive Eff where
 |val (v:V)
 |own (e:Nat) (sh:List Kd) (xs:af)
 |newSl (e:Nat) (sh:List Kd) (xs:af)
 |kN (e:Nat) (cells:af)
 |put (k off:Nat) (cells:af)
 |app (L:Nat) (e:Nat) (sh:List Kd) (xs:af)
 |call (f:Nat) (args:af) (mb ml:List (Nat×Nat))
 |jN (v:V)
 |pick (b:Bool) (x y:V)
 |alts (i:Int) (vs:af)
 |zu (L e:Nat) (sh:List Kd) (ys:af)
 |ownz (e:Nat) (sh:List Kd) (xs:af) (c e2:Nat) (Oo:List Kd)
 |appz (L e:Nat) (sh:List Kd) (xs:af) (i:Int) (c e2:Nat) (Oo:List Kd)
 |zw (L e:Nat) (sh:List Kd) (xs:af) (i:Int) (c L3 e2:Nat) (Oo:List Kd) (ys:af)
abbrev zo:=Option (Bool×Eff)
def ok (v:V):zo:=some (true,.val v)
def Yk (c:BinOp) (k:IntKind) (a b:Int):Option (Bool×V):=
 match c with
 | .add=>some (true,.int k (aY k a b))
 | .sub=>some (true,.int k (bD k a b))
 | .mul=>some (true,.int k (iB k a b))
 | .quo=>some (aS (ieq b 0),.int k (iC k a b))
 | .rem=>some (aS (ieq b 0),.int k (DK a b))
 | .and=>some (true,.int k (wO .and k a b))
 | .or=>some (true,.int k (wO .or k a b))
 | .xor=>some (true,.int k (wO .xor k a b))
 | .andNot=>some (true,.int k (wO .andNot k a b))
 | .eql=>some (true,.bool (ieq a b))
 | .neq=>some (true,.bool (aS (ieq a b)))
 | .lss=>some (true,.bool (aZ a b))
 | .leq=>some (true,.bool (aH a b))
 | .gtr=>some (true,.bool (aZ b a))
 | .geq=>some (true,.bool (aH b a))
 |_=>none
def VL (c:BinOp) (a b:ah):Option (Bool×V):=
 match c with
 | .add=>some (jC a b,.str (fw a b))
 | .eql=>some (true,.bool (seq a b))
 | .neq=>some (true,.bool (aS (seq a b)))
 | .lss=>some (true,.bool (slt a b))
 | .geq=>some (true,.bool (aS (slt a b)))
 | .gtr=>some (true,.bool (av (aS (slt a b)) (aS (seq a b))))
 | .leq=>some (true,.bool (aS (av (aS (slt a b)) (aS (seq a b)))))
 |_=>none
def Sv (c:BinOp) (x y:V):Option (Bool×V):=
 match x,y with
 | .int k a,.int d b=>
  match c with
  | .shl=>some (aH 0 b,.int k (VK k a b))
  | .shr=>some (aH 0 b,.int k (Mi k a b))
  |_=>bif decide (k=d) then Yk c k a b else none
 | .str a,.str b=>VL c a b
 | .bool a,.bool b=>
  match c with
  | .eql=>some (true,.bool (beq a b))
  | .neq=>some (true,.bool (aS (beq a b)))
  |_=>none
 |_,_=>none
def VM:Option (Bool×V)→zo
 |some (c,v)=>some (c,.val v)
 |none=>none
def IU (P:Program) (t:TypeId):V→Bool
 | .bool _=>match P.underlying t with|some .bool=>true|_=>false
 |_=>true
def allEq {α:Type} (f:α→Option Bool):List α→Option Bool
 |[]=>some true
 |[a]=>f a
 |a::l=>match f a,allEq f l with
  |some p,some q=>some (av p q)
  |_,_=>none
def RU (P:Program):Nat→TypeId→af→af→Option Bool
 |0,_,_,_=>none
 |m+1,t,xs,ys=>match P.underlying t with
  |some .bool=>match xs,ys with
   |[.bool a],[.bool b]=>some (beq a b)
   |_,_=>none
  |some (.int _)=>match xs,ys with
   |[.int k a],[.int d b]=>bif decide (k=d) then some (ieq a b) else none
   |_,_=>none
  |some .string=>match xs,ys with
   |[.str a],[.str b]=>some (seq a b)
   |_,_=>none
  |some (.struct c)=>bif P.stoodInHeld t then none else
   allEq (fun f=>bif f.name== "_" then none else match bL P f.type with
    |some n=>RU P m f.type ((xs.drop f.offset).take n) ((ys.drop f.offset).take n)
    |none=>none) c.toList
  |some (.array k e)=>match bL P e with
   |some n=>allEq (fun i=>RU P m e ((xs.drop (i*n)).take n) ((ys.drop (i*n)).take n)) (List.range k)
   |none=>none
  |_=>none
def VN (P:Program) (a:BinOp) (t:TypeId) (x y:V):zo:=
 match x,y with
 | .agg b,.agg bs=>bif P.eqGuardType P.depth t then none else
  match bf P t,a,RU P 8 t b bs with
  |some true,.eql,some c=>ok (.bool c)
  |some true,.neq,some c=>ok (.bool (aS c))
  |_,_,_=>none
 |x,y=>bif IU P t x then VM (Sv a x y) else none
def Ov (P:Program) (a:BinOp) (t:TypeId) (b:Bool) (x y:V):zo:=
 match a,b,P.underlying t,x,y with
 | .eql,true,some (.interface _),.nilif,.nilif=>ok (.bool true)
 | .eql,true,some (.interface _),.iface _ _,.nilif=>ok (.bool false)
 | .neq,true,some (.interface _),.nilif,.nilif=>ok (.bool false)
 | .neq,true,some (.interface _),.iface _ _,.nilif=>ok (.bool true)
 |_,_,_,_,_=>none
def okTA:V→Bool
 | .bool _=>true
 | .int _ _=>true
 | .str _=>true
 | .agg _=>true
 |_=>false
def zH:Operand→Bool
 | .const .nilIface=>true
 |_=>false
def qf (P:Program) (t:TypeId) (f:Nat):Option Field:=
 match P.underlying t with
 |some (.struct a)=>a[f]?
 |_=>none
def over (cells:af) (off:Nat) (new:af):af:=cells.take off++new++cells.drop (off+new.length)
def qO (a:Nat→Option (Nat×Nat)) (cells:af):List (Nat×V)→Option (af)
 |[]=>some cells
 |(i,v)::c=>
  match a i,v.deep with
  |some (off,b),some v=>
   bif v.cells.length==b&&Nat.ble (off+b) cells.length then qO a (over cells off v.cells) c else none
  |_,_=>none
def aj:List (Nat×af)→Nat→Option (af)
 |[],_=>none
 |(k,a)::l,j=>bif k==j then some a else aj l j
def fH:List (Nat×af)→Nat→af→List (Nat×af)
 |[],_,_=>[]
 |(k,b)::l,j,a=>bif k==j then(k,a)::l else(k,b)::fH l j a
def om:V→V
 | .agg _=> .any
 | .tup _=> .any
 |v=>v
def chunks (agg:Bool) (a:Nat):Nat→af→af
 |0,_=>[]
 |n+1,b=>(match agg with|true=>V.agg (b.take a)|false=>om (b.getD 0 .any))::chunks agg a n (b.drop a)
def U4:Kd→V→Nat→V
 | .oth,x,off=>(match x with| .agg cs=>cs.getD off .any|x=>x)
 | .bool,x,off=> .bool (asBool (aN x off))
 | .int k,x,off=> .int k (asInt (aN x off))
 | .str,x,off=> .str (eO (aN x off))
 | .sl e sh,x,off=> .sl e sh none (asL (aN x off))
def Kl (P:Program) (t:TypeId) (sh:List Kd) (x:V) (off:Nat):zo:=
 match bf P t,bL P t with
 |some true,some n=>
  bif Nat.ble (off+n) sh.length then ok (.agg ((List.range n).map fun j=>eta (sh.getD (off+j) .oth) (aN x (off+j)))) else none
 |some false,_=>bif Nat.blt off sh.length then ok (U4 (sh.getD off .oth) x off) else none
 |_,_=>none
def partOf (P:Program) (t:TypeId) (a:af) (off:Nat):zo:=
 match bf P t,bL P t with
 |some true,some n=>bif Nat.ble (off+n) a.length then ok (.agg ((a.drop off).take n)) else none
 |some false,_=>bif Nat.blt off a.length then(match(a.getD off .any).deep with|some v=>ok v|none=>none) else none
 |_,_=>none
def IV (P:Program) (t:TypeId) (x:V) (i:Int):zo:=
 match x with
 | .str l=>match P.underlying t with
  |some .string=>some (av (aH 0 i) (aZ i (aK l)),.val (.int .u8 (sat l i)))
  |_=>none
 |_=>none
def rR (P:Program) (t:TypeId) (x:V) (i:Int):zo:=
 match x with
 | .sl c sh o xs=>match Cf P t with
  |some e=>match bL P e with
   |some n=>bif n==sh.length then some (av (aH 0 i) (aZ i (aQ xs)),.val (match o with|some L=> .eptr L c sh xs i 0|none=> .rptr sh (bq xs i) 0)) else none
   |none=>none
  |none=>none
 | .slz L c sh xs _ _ _ _ _ _=>match Cf P t with
  |some e=>match bL P e with
   |some n=>bif n==sh.length then some (av (aH 0 i) (aZ i (aQ xs)),.val (.epz L c sh.length i 0)) else none
   |none=>none
  |none=>none
 | .rptr sh (.agg b) 0=>match P.underlying t with
  |some (.array n e)=>match bL P e,bf P e with
   |some a,some ag=>
    bif n*a==b.length&&Nat.blt 0 a&&(ag||a==1)&&qd (sh.take a) (chunks ag a n b) then
     some (av (aH 0 i) (aZ i n),.val (.rptr (sh.take a) (bq (chunks ag a n b) i) 0)) else none
   |_,_=>none
  |_=>none
 |_=>none
def zY (P:Program) (t:TypeId) (k off:Nat) (i:Int):zo:=
 match P.underlying t with
 |some (.array n e)=>match bL P e with
  |some a=>bif Nat.blt 0 a then some (true,.alts i ((List.range n).map fun j=> .box k (off+j*a))) else none
  |none=>none
 |_=>none
def vO (P:Program) (t:TypeId) (b:af) (i:Int):zo:=
 match P.underlying t with
 |some (.array n e)=>match bL P e,bf P e with
  |some a,some ag=>bif n*a==b.length&&Nat.blt 0 a&&(ag||a==1)&&b.all V.one then some (true,.alts i (chunks ag a n b)) else none
  |_,_=>none
 |_=>none
def IW (P:Program) (t:TypeId) (x:V) (g d:Option V):zo:=
 match x with
 | .str l=>
  match P.underlying t,g,d with
  |some .string,some (.int _ a),some (.int _ b)=>some (av (av (aH 0 b) (aH b (aK l))) (av (aH 0 a) (aH a b)),.val (.str (dN l a b)))
  |some .string,none,some (.int _ b)=>some (av (aH 0 b) (aH b (aK l)),.val (.str (dN l 0 b)))
  |some .string,some (.int _ a),none=>some (av (aH 0 a) (aH a (aK l)),.val (.str (dN l a (aK l))))
  |some .string,none,none=>ok (.str l)
  |_,_,_=>none
 | .sl e sh _ xs=>
  match Cf P t with
  |none=>none
  |some h=>match bL P h with
   |none=>none
   |some n=>bif n==sh.length then
     match g,d with
     |some (.int _ a),some (.int _ b)=>some (av (av (aH 0 b) (aH b (aQ xs))) (av (aH 0 a) (aH a b)),.val (.sl e sh none (yj xs a b)))
     |none,some (.int _ b)=>some (av (aH 0 b) (aH b (aQ xs)),.val (.sl e sh none (yj xs 0 b)))
     |some (.int _ a),none=>some (av (aH 0 a) (aH a (aQ xs)),.val (.sl e sh none (yj xs a (aQ xs))))
     |none,none=>ok (.sl e sh none xs)
     |_,_=>none
    else none
 | .rptr sh (.agg f) 0=>
  match P.underlying t,g,d with
  |some (.array n e),none,none=>match bL P e,bf P e with
   |some c,some ag=>bif n*c==f.length&&Nat.blt 0 c&&Nat.blt 0 n&&(ag||c==1)&&qd (sh.take c) (chunks ag c n f) then ok (.sl e (sh.take c) none (chunks ag c n f)) else none
   |_,_=>none
  |_,_,_=>none
 |_=>none
def VO (P:Program) (t:TypeId) (x:V):zo:=
 match P.underlying t,x with
 |some .string,.str l=>ok (.int .i64 (aK l))
 |some (.slice _),.sl _ _ _ xs=>ok (.int .i64 (aQ xs))
 |some (.slice _),.nilsl=>ok (.int .i64 0)
 |some (.slice _),.slz _ _ _ xs _ _ _ _ _ _=>ok (.int .i64 (aQ xs))
 |some (.array n _),_=>ok (.int .i64 (n:Int))
 |_,_=>none
def qg (great:Bool) (x y:V):zo:=
 match x,y with
 | .int k a,.int c b=>bif decide (k=c) then ok (.int k (match great with|true=>imax a b|false=>sW a b)) else none
 |_,_=>none
def tailV (sh:List Kd):V→Option (af)
 | .sl _ a _ ys=>bif Kd.zn sh a then some ys else none
 | .nilsl=>some []
 |_=>none
def Oc:List Kd→Nat→Option (Nat×Nat×List Kd)
 |[],_=>none
 | .sl e sh::l,i=>bif (sh.all flatK&&Nat.blt 0 sh.length)&&l.all flatK then some (i,e,sh) else none
 |k::l,i=>bif flatK k then Oc l (i+1) else none
def Mj (c:Nat):af→Bool
 |[y]=>y.cells.all (fun v=>match v with
  | .bool _=>true
  | .int _ _=>true
  | .str _=>true
  | .nilsl=>true
  |_=>false)&&(match y.cells.getD c .any with
  | .nilsl=>true
  |_=>false)
 |_=>false
def BG (e:Nat) (sh:List Kd) (ys:af):Eff:=match Oc sh 0 with
 |some (c,b,a)=>bif Mj c ys then .ownz e sh ys c b a else .own e sh ys
 |none=> .own e sh ys
def Ed (P:Program) (f:List TypeId) (s x:V):zo:=
 match f with
 |[t,u]=>match elemOf P t with
  |none=>none
  |some (e,sh,_)=>
   bif t==u then
    match tailV sh x with
    |none=>none
    |some ys=>
     match s with
     | .nilsl=>some (oV ys,BG e sh ys)
     | .sl b a (some L) xs=>bif e==b&&Kd.zn sh a then some (fO xs ys,.app L e sh (bT xs ys)) else none
     | .slz L b a xs _ _ _ _ _ _=>match Oc sh 0 with
      |some (c,g,d)=>bif e==b&&Kd.zn sh a&&Mj c ys then some (fO xs ys,.appz L e sh (bT xs ys) (aQ xs) c g d) else none
      |none=>none
     |_=>none
   else match P.underlying u,sh,x with
    |some .string,[.int .u8],.str l=>
     match s with
     | .nilsl=>some (oV (aC l),.own e [.int .u8] (aC l))
     | .sl b a (some L) xs=>bif e==b&&Kd.zn [.int .u8] a then some (fO xs (aC l),.app L e [.int .u8] (bT xs (aC l))) else none
     |_=>none
    |_,_,_=>none
 |_=>none
def OB (P:Program) (t:TypeId) (l c:V):zo:=
 match l,c,elemOf P t with
 | .int .i64 n,.int .i64 m,some (e,sh,z)=>some (av (aH 0 n) (av (aH n m) (aH m 16777216)),.own e sh (vB n z))
 |_,_,_=>none
def DR (z:V) (n a:Nat):af:=(List.range (n*a)).map fun i=>z.cells.getD (i%a) .any
def pU (P:Program) (t:TypeId) (n:Nat) (a:List (Nat×V)):zo:=
 match elemOf P t with
 |some (e,sh,z)=>
  bif n==0 then(match a with|[]=>some (true,.own e sh [])|_=>none) else
  match bf P e,qO (fun i=>some (i*sh.length,sh.length)) (DR z n sh.length) a with
  |some ag,some b=>
   bif (ag||sh.length==1)&&qd sh (chunks ag sh.length n b)&&Nat.ble (n*sh.length) 16777216 then some (true,.own e sh (chunks ag sh.length n b)) else none
  |_,_=>none
 |none=>none
def IX (P:Program) (a:Array Field) (j:Nat):Option (Nat×Nat):=
 match a[j]? with
 |some f=>(match bL P f.type with|some n=>some (f.offset,n)|none=>none)
 |none=>none
def IY (P:Program) (t:TypeId) (a:List (Nat×V)):zo:=
 match P.info? t with
 |some i=>
  match i.zero,P.underlying t with
  |some (.agg z),some (.struct c)=>
   match qO (IX P c) (z.toList.map yu) a with
   |some b=>bif c.all (fun f=>(bL P f.type).isSome) then ok (.agg b) else none
   |none=>none
  |some (.agg z),some (.array _ e)=>
   match bL P e with
   |some n=>match qO (fun i=>some (i*n,n)) (z.toList.map yu) a with
    |some b=>ok (.agg b)
    |none=>none
   |none=>none
  |_,_=>none
 |none=>none
def OC (P:Program) (b a:TypeId) (x:V):zo:=
 match P.underlying b,P.underlying a,x with
 |some (.int _),some (.int k),.int _ n=>ok (.int k (gP k n))
 |some .string,some .string,.str l=>ok (.str l)
 |some .string,some (.slice e),.str l=>match P.underlying e with
  |some (.int .u8)=>some (YX l,.newSl e [.int .u8] (aC l))
  |_=>none
 |some (.slice e),some .string,.sl _ [.int .u8] _ xs=>match P.underlying e with
  |some (.int .u8)=>ok (.str (eF xs))
  |_=>none
 |some (.slice e),some .string,.nilsl=>match P.underlying e with
  |some (.int .u8)=>ok (.str [])
  |_=>none
 |_,_,_=>none
def zI (cells:af) (off n:Nat):Option (af):=bif Nat.ble (off+n) cells.length then V.qN ((cells.drop off).take n) else none
def lk:List (Nat×Nat)→Nat→Option Nat
 |[],_=>none
 |(k,v)::l,j=>bif k==j then some v else lk l j
def mX:List Nat→Bool
 |[]=>true
 |a::l=>bif l.contains a then false else mX l
def lF (mb ml:List (Nat×Nat)):Bool:=mX (mb.map (·.1))&&mX (mb.map (·.2))&&mX (ml.map (·.1))&&mX (ml.map (·.2))
def qG (mb ml:List (Nat×Nat)):V→V
 | .sl e sh (some L) xs=> .sl e sh (lk ml L) xs
 | .eptr _ _ _ _ _ _=> .any
 | .slz L e sh xs o2 i c d b ys=>match lk ml L with
  |some L'=> .slz L' e sh xs (o2.bind (lk ml)) i c d b ys
  |none=> .any
 | .epz _ _ _ _ _=> .any
 | .box k off=>match lk mb k with|some k'=> .box k' off|none=> .any
 | .fn f a=>match a with|[]=> .fn f []|_=> .any
 | .old x=>bif x.dO then x else .any
 |v=>v
def V.ren (mb ml:List (Nat×Nat)):V→V
 | .tup vs=> .tup (vs.map (qG mb ml))
 |v=>qG mb ml v
def mF (a:Nat→Nat→Nat):Nat→af→List (Nat×Nat)
 |_,[]=>[]
 |i,.sl _ _ (some L) _::l=>(L,a L i)::mF a (i+1) l
 |i,.slz L _ _ _ (some L2) _ _ _ _ _::l=>(L,a L i)::(L2,a L2 (i+500))::mF a (i+1) l
 |i,.slz L _ _ _ none _ _ _ _ _::l=>(L,a L i)::mF a (i+1) l
 |i,_::l=>mF a (i+1) l
def Sg:Nat:=1000000000000
def iE:af→af
 |[]=>[]
 |v::l=>(match v with
  | .fn _ a=>a.filterMap fun c=>match c with
   | .box k 0=>some (.box k Sg)
   |_=>none
  |_=>[])++iE l
def o9:V→Bool
 | .bxa off _=>off==Sg
 |_=>false
def rD (a:af):Bool:=a.all fun c=>match c with
 | .box _ 0=>true
 |_=>false
def nC (bx:List (Nat×af)) (j:Nat):V→List (Nat×Nat)×List (Nat×Nat)
 | .box k _=>match aj bx k with
  |some a=>([(k,HL+j)],mF (fun _ i=>HL+1000*(j+1)+1+i) 0 a)
  |none=>([],[])
 | .sl _ _ (some L) _=>([],[(L,HL+1000*(j+1))])
 |_=>([],[])
def dw (bx:List (Nat×af)):Nat→af→List (Nat×Nat)×List (Nat×Nat)
 |_,[]=>([],[])
 |j,v::l=>((nC bx j v).1++(dw bx (j+1) l).1,(nC bx j v).2++(dw bx (j+1) l).2)
def pq (bx:List (Nat×af)) (mb ml:List (Nat×Nat)):V→Option V
 | .box k off=>match aj bx k with
  |some a=>some (.bxa off (a.map (V.ren mb ml)))
  |none=>none
 | .sl e sh (some L) xs=>some (qG mb ml (.sl e sh (some L) xs))
 | .fn f (c::a)=>bif Nat.blt f rA&&rD (c::a) then some (.fn f ((c::a).map (qG mb ml))) else none
 |v=>v.deep
def eT (bx:List (Nat×af)) (mb ml:List (Nat×Nat)):af→Option (af)
 |[]=>some []
 |v::l=>match pq bx mb ml v,eT bx mb ml l with
  |some v,some l=>some (v::l)
  |_,_=>none
def KF (bx:List (Nat×af)) (j:Nat) (vs:af):Option (af×List (Nat×Nat)×List (Nat×Nat)):=
 match eT bx (dw bx j vs).1 (dw bx j vs).2 vs with
 |some args=>some (args,(dw bx j vs).1,(dw bx j vs).2)
 |none=>none
def DT:V→Bool
 | .box _ off=>off==Sg
 |_=>false
def lG (bx:List (Nat×af)) (j:Nat) (vs:af):Option (af×List (Nat×Nat)×List (Nat×Nat)):=bif vs.any DT then none else KF bx j (vs++iE vs)
def V.sZ:V→Bool
 | .bxa _ _=>true
 |_=>false
def V.qK:V→V
 | .sl e sh _ xs=> .sl e sh none xs
 | .old x=>bif x.dO then x else .any
 |v=>v
def fV (args:af):Bool:=args.any V.sZ
def V.handed:V→Bool
 | .bxa _ _=>true
 | .sl _ _ (some _) _=>true
 |_=>false
def handed (args:af):Bool:=args.any V.handed
def OD (j:Nat):V→V
 | .bxa off _=> .box (HL+j) off
 |v=>v
def bg:Nat→af→af
 |_,[]=>[]
 |j,v::l=>bif o9 v then bg (j+1) l else OD j v::bg (j+1) l
def bZ:Nat→af→List (Nat×af)
 |_,[]=>[]
 |j,.bxa _ a::l=>(HL+j,a)::bZ (j+1) l
 |j,_::l=>bZ (j+1) l
def dW:Nat→af→List (af)→List (Nat×af)
 |_,[],_=>[]
 |j,.bxa _ _::l,a::bs=>(HL+j,a)::dW (j+1) l bs
 |j,.bxa _ _::l,[]=>dW (j+1) l []
 |j,_::l,bs=>dW (j+1) l bs
def Mk:V→Option V
 | .bxa off a=>some (.bxa off a)
 | .sl e sh o xs=>some (.sl e sh o xs)
 | .old x=>bif x.dO then some (.old x) else none
 | .fn f (c::a)=>some (.fn f (c::a))
 |v=>v.deep
def pu:af→Option (af)
 |[]=>some []
 |v::l=>match Mk v,pu l with
  |some v,some l=>some (v::l)
  |_,_=>none
def vF:V→af
 | .tup vs=>vs
 |v=>[v]
def iF:af→Bool
 | .nilp::_::_=>true
 |_=>false
def VP (P:Program):Nat→TypeId→Bool
 |0,_=>false
 |k+1,t=>match P.info? t with
  |some i=>(match P.underlying t with
   |some (.struct c)=>(match c.toList with
    |a::l=>(a.name== "addr" &&(match l with|[b]=>b.name== "buf" |_=>false)&&(match i.desc with| .named _ _=>true|_=>false))||(a.offset==0&&VP P k a.type)
    |_=>false)
   |_=>false)
  |none=>false
def lH (P:Program) (t:TypeId) (n:Nat):Bool:=match P.info? t with
 |some i=>(match i.desc with| .named _ _=>true|_=>false)&&(i.size==n&&VP P 4 t)
 |none=>false
def iR (P:Program) (f:Nat):Bool:=match P.funcs[f]? with|some fn=>fn.body.isSome|none=>false
def wR:V→Bool
 | .any=>true
 | .bool _=>true
 | .int _ _=>true
 | .str _=>true
 | .nilsl=>true
 | .nilif=>true
 | .nilp=>true
 |_=>false
def Ch:V→Bool
 | .sl _ sh (some _) _=>sh.all flatK
 | .eptr _ _ sh _ _ _=>sh.all flatK
 | .box _ _=>true
 | .old _=>true
 |v=>wR v
def V.flat:V→Bool
 | .tup vs=>vs.all Ch
 | .fn _ vs=>vs.all Ch
 | .agg a=>a.all wR
 |v=>Ch v
def V.forget (v:V):V:=bif v.flat then v else .any
def St.Km (s:St):Bool:=s.fr.all V.flat&&s.bx.all fun(_,cs)=>cs.all V.flat
def St.forget (s:St):St:=⟨s.fr.map V.forget,s.bx.map fun(j,cs)=>(j,cs.map V.forget)⟩
def Ow:Nat→List (Nat×V)→Bool
 |_,[]=>true
 |k,p::l=>p.1==k&&Ow (k+1) l
def DU:V→Bool
 | .box _ _=>true
 |_=>false
def VQ (P:Program) (t:TypeId) (a:List (Nat×V)):Option (af):=match P.info? t,P.underlying t with
 |some i,some (.array n e)=>match i.zero,bL P e with
  |some (.agg z),some m=>bif m==1&&z.size==n&&n==a.length&&Nat.blt 0 n&&Ow 0 a&&a.all (fun p=>DU p.2) then some (a.map fun p=>p.2) else none
  |_,_=>none
 |_,_=>none
def vP (P:Program) (t:TypeId) (vs:af) (n:Int):zo:=match P.underlying t with
 |some (.array m e)=>match bL P e,bf P e with
  |some k,some false=>bif k==1&&m==vs.length&&Nat.blt 0 m then some (true,.alts n vs) else none
  |_,_=>none
 |_=>none
def vG (L off:Nat):af→Option (Int×Nat×Nat×List Kd×af)
 |[]=>none
 | .slz L' _ sh _ (some L2) i c b a ys::l=>bif (L==L'&&c==off)&&Nat.blt off sh.length then some (i,L2,b,a,ys) else vG L off l
 |_::l=>vG L off l
def zJ (bx:List (Nat×af)) (L off:Nat):List (Nat×af)→Option (Int×Nat×Nat×List Kd×af)
 |[]=>none
 |(k,_)::l=>match aj bx k with
  |some a=>(match vG L off a with
   |some x=>some x
   |none=>zJ bx L off l)
  |none=>zJ bx L off l
def Kn (L off:Nat) (bx:List (Nat×af)):Option (Int×Nat×Nat×List Kd×af):=zJ bx L off bx
def vH (L:Nat):af→Option (List Kd×af)
 |[]=>none
 | .slz L' _ sh xs _ _ _ _ _ _::l=>bif L==L' then some (sh,xs) else vH L l
 |_::l=>vH L l
def zK (bx:List (Nat×af)) (L:Nat):List (Nat×af)→Option (List Kd×af)
 |[]=>none
 |(k,_)::l=>match aj bx k with
  |some a=>(match vH L a with
   |some x=>some x
   |none=>zK bx L l)
  |none=>zK bx L l
def Ko (L:Nat) (bx:List (Nat×af)):Option (List Kd×af):=zK bx L bx
def Kq (k:Nat):V→Option V
 | .fn f [.int .i64 n,.box a 0]=>bif (f==BM&&k==a)&&Nat.blt n.toNat rA then some (.int .i64 n) else none
 |_=>none
def zL (k:Nat):af→Option (af)
 |[]=>some []
 |v::l=>match Kq k v,zL k l with
  |some x,some r=>some (x::r)
  |_,_=>none
def VR (P:Program) (t:TypeId) (a:List (Nat×V)):Option (af):=match P.info? t,P.underlying t with
 |some i,some (.array n e)=>match i.zero,bL P e with
  |some (.agg z),some m=>bif m==1&&z.size==n&&n==a.length&&Nat.blt 0 n&&Ow 0 a then(match a with
   |(_,.fn _ [_,.box k 0])::_=>(match zL k (a.map fun p=>p.2) with
    |some l=>some (.box k 0::l)
    |none=>none)
   |_=>none) else none
  |_,_=>none
 |_,_=>none
def DV (z:Value):Option (af):=match bM (mo z) with
 |some b=>some b
 |none=>match z with
  | .agg a=>bif a.toList.all (fun u=>u.oneCell') then some (a.toList.map yu) else none
  |_=>none
def ID (P:Program) (r:Operand→V) (bx:List (Nat×af)) (o:Oper):zo:=
 match o.op with
 | .move x=>ok (r x)
 | .assign x=>match r x with
  | .nilsl=>match elemOf P o.type with
   |some (e,sh,_)=>some (true,.own e sh [])
   |none=>ok .nilsl
  |v=>ok v
 | .pick c x y=>match r c with
  | .bool b=>some (true,.pick b (r x) (r y))
  |_=>none
 | .alloc t=>match P.info? t with
  |some i=>match i.zero with
   |some z=>match DV z with
    |some h=>bif iF h&&aS (lH P t h.length) then none else some (true,.kN t h)
    |none=>none
   |none=>none
  |none=>none
 | .box t x=>match bM (r x) with
  |some h=>bif iF h&&aS (lH P t h.length) then none else some (true,.kN t h)
  |none=>none
 | .build t d=>match VQ P t (d.toList.map fun(i,x)=>(i,r x)) with
  |some vs=>ok (.fn rA vs)
  |none=>match VR P t (d.toList.map fun(i,x)=>(i,r x)) with
  |some vs=>ok (.fn AM vs)
  |none=>IY P t (d.toList.map fun(i,x)=>(i,r x))
 | .buildSlice t n d=>pU P t n (d.toList.map fun(i,x)=>(i,r x))
 | .load t a=>match r a with
  | .rptr sh x off=>Kl P t sh x off
  | .eptr _ _ sh xs i off=>Kl P t sh (bq xs i) off
  | .epz L _ _ i off=>match Kn L off bx,bf P t with
   |some (j,L2,p,m,ys),some false=>some (ieq i j,.val (.sl p m (some L2) ys))
   |_,_=>none
  | .box k off=>match aj bx k with
   |some cells=>match bf P t,bL P t with
    |some true,some n=>match zI cells off n with
     |some h=>ok (.agg h)
     |none=>none
    |some false,_=>bif Nat.blt off cells.length then ok (cells.getD off .any) else none
    |_,_=>none
   |none=>none
  |_=>none
 | .store t a x=>match r a,bM (r x) with
  | .box k off,some vs=>match aj bx k,bL P t with
   |some cells,some n=>bif vs.length==n&&Nat.ble (off+n) cells.length then some (true,.put k off vs) else none
   |_,_=>none
  | .eptr L e sh xs i off,some [v]=>match bf P t,bL P t with
   |some false,some 1=>bif Ce sh off v then some (true,.zu L e sh (yo xs i (qF sh (bq xs i) off v))) else none
   |_,_=>none
  | .epz L e q i off,some [.sl p m (some L3) ys]=>match Ko L bx,bf P t,bL P t with
   |some (sh,xs),some false,some 1=>bif sh.length==q&&(match Oc sh 0 with
    |some (c,B,w)=>c==off&&p==B&&Kd.zn m w
    |none=>false) then some (true,.zw L e sh (yo xs i (qF sh (bq xs i) off (.sl p m none ys))) i off L3 p m ys) else none
   |_,_,_=>none
  |_,_=>none
 | .nilCheck x=>match r x with
  | .eptr L e sh xs i off=>ok (.eptr L e sh xs i off)
  | .epz L e q i off=>ok (.epz L e q i off)
  | .rptr sh v off=>ok (.rptr sh v off)
  | .box k off=>ok (.box k off)
  |_=>none
 | .binOp op t x y _=>match r x,r y with
  | .nilif,.nilif=>Ov P op t (zH y) .nilif .nilif
  | .iface u v,.nilif=>Ov P op t (zH y) (.iface u v) .nilif
  |x,y=>VN P op t x y
 | .makeInterface t x=>match P.underlying t,(r x).deep with
  |some (.interface _),_=>none
  |some _,some v=>ok (.iface t v)
  |_,_=>none
 | .typeAssert x _ t true=>match P.underlying t,Cg P t with
  |some (.interface _),_=>none
  |some _,some z=>match r x with
   | .nilif=>ok (.tup [z,.bool false])
   | .iface u v=>bif u==t then(bif okTA v then ok (.tup [v,.bool true]) else none) else ok (.tup [z,.bool false])
   |_=>none
  |_,_=>none
 | .panic x=>match r x with
  | .iface t v=>some (true,.jN (.iface t v))
  |_=>none
 | .unOp op _ x=>match op,r x with
  | .not,.bool b=>ok (.bool (aS b))
  | .neg,.int k n=>ok (.int k (bD k 0 n))
  |_,_=>none
 | .convert C A x=>OC P C A (r x)
 | .makeFunc (.func f) first g=>bif (g.size==0&&Nat.blt 0 first.size&&Nat.blt f rA)&&(first.toList.map r).all V.single then ok (.fn BM (.int .i64 (f:Int)::first.toList.map r)) else bif (first.size==0&&Nat.blt f rA)&&(g.toList.map r).all V.single then ok (.fn f (g.toList.map r)) else none
 | .makeSlice t l c=>OB P t (r l) (r c)
 | .slice t x E D none=>IW P t (r x) (E.map r) (D.map r)
 | .fieldAddr t x f=>match qf P t f with
  |some f=>match bL P f.type with
   |some 0=>none
   |some _=>match r x with
    | .rptr sh v off=>ok (.rptr sh v (off+f.offset))
    | .eptr L e sh xs i off=>ok (.eptr L e sh xs i (off+f.offset))
    | .epz L e q i off=>ok (.epz L e q i (off+f.offset))
    | .box k off=>ok (.box k (off+f.offset))
    |_=>none
   |none=>none
  |none=>none
 | .field t x f=>match qf P t f,r x with
  |some f,.agg h=>partOf P f.type h f.offset
  |_,_=>none
 | .indexAddr t x i=>match r i with
  | .int _ n=>match r x with
   | .box k off=>zY P t k off n
   |x=>rR P t x n
  |_=>none
 | .index t x i=>match r i with
  | .int _ n=>match r x with
   | .agg h=>vO P t h n
   | .fn f vs=>bif f==rA&&vs.all DU then vP P t vs n else none
   |x=>IV P t x n
  |_=>none
 | .extract x i=>match r x with
  | .tup vs=>bif Nat.blt i vs.length&&(match vs.getD i .any with| .tup _=>false| .fn _ _=>false|_=>true) then ok (vs.getD i .any) else none
  |_=>none
 | .call c=>match c.callee with
  | .value f=>match r f with
   | .fn id g=>bif id==BM then(match g with
     | .int .i64 n::h=>(match lG bx 0 (h++c.args.toList.map r) with
      |some (args,mb,ml)=>bif (iR P n.toNat&&Nat.blt n.toNat rA)&&lF mb ml then some (true,.call n.toNat args mb ml) else none
      |none=>none)
     |_=>none) else(match lG bx 0 (c.args.toList.map r++g) with
    |some (args,mb,ml)=>bif (iR P id&&Nat.blt id rA)&&lF mb ml then some (true,.call id args mb ml) else none
    |none=>none)
   |_=>none
  | .builtin .min=>match c.args.toList with
   |[x,y]=>qg false (r x) (r y)
   |_=>none
  | .builtin .max=>match c.args.toList with
   |[x,y]=>qg true (r x) (r y)
   |_=>none
  | .builtin .len=>match c.argTypes.toList,c.args.toList with
   |[t],[x]=>VO P t (r x)
   |_,_=>none
  | .builtin .cap=>match c.argTypes.toList,c.args.toList with
   |[t],[x]=>(match P.underlying t,r x with
    |some (.slice _),.nilsl=>ok (.int .i64 0)
    |_,_=>none)
   |_,_=>none
  | .builtin .append=>match c.args.toList with
   |[s,x]=>Ed P c.argTypes.toList (r s) (r x)
   |_=>none
  |_=>none
 |_=>none
def V.VS:V→V
 | .old x=>x
 |v=>bif wR v then v else .any
def Sw:V→Option Nat
 | .qD _ _ (.int _ g)=>some g.toNat
 |_=>none
def Sy (E:Env) (g:Nat):Option (af):=match E.glob g with
 |some (.rptr _ (.qD _ (.agg a) _) _)=>some a
 |_=>none
def jL:af→Int→ah
 | .agg [.int _ k,.str s]::l,n=>sel (ieq n k) s (jL l n)
 |_,_=>[]
def BH:af→Int→Bool
 | .agg [.int _ k,.str _]::l,n=>sel (ieq n k) true (BH l n)
 |_,_=>false
def wS (E:Env) (fr:af) (o:Oper):Option zo:=match o.op with
 | .lookup t x i false=>match Sw (iD E fr x),iD E fr i,E.P.underlying t with
  |some g,.int .i64 n,some (.map k e)=>match Sy E g,E.P.underlying k,E.P.underlying e with
   |some a,some (.int .i64),some .string=>some (some (BH a n,.val (.str (jL a n))))
   |_,_,_=>none
  |_,_,_=>none
 |_=>none
def yh (E:Env) (fr:af) (bx:List (Nat×af)) (o:Oper):zo:=
 match wS E fr o with
 |some r=>r
 |none=>
 let r:=iD E fr
 bif o.op.operands.toList.any fun x=>(r x).FC then
  (match ID E.P (fun x=>(r x).VS) [] o with
   |some (c,.val v)=>bif v.dO then some (c,.val (.old v)) else ID E.P (fun x=>(r x).wP) bx o
   |_=>ID E.P (fun x=>(r x).wP) bx o)
 else ID E.P r bx o
def Kr (L:Nat):Option Nat→Option Nat
 |some L'=>bif L==L' then none else some L'
 |none=>none
def Sz (L i:Nat):Option Nat→Option Nat
 |some L'=>bif L==L' then some i else some L'
 |none=>none
def XU (L:Nat):Option Nat→Bool
 |some L'=>L==L'
 |none=>false
def qP (L:Nat):V→V
 | .sl e sh (some L') xs=>bif L==L' then .sl e sh none xs else .sl e sh (some L') xs
 | .eptr L' e sh xs i off=>bif L==L' then .any else .eptr L' e sh xs i off
 | .slz L' e sh xs o2 i c d a ys=>bif L==L' then .any else .slz L' e sh xs (Kr L o2) i c d a ys
 | .epz L' e b i off=>bif L==L' then .any else .epz L' e b i off
 |v=>v
def V.kill (L:Nat):V→V
 | .tup vs=> .tup (vs.map (qP L))
 | .fn f vs=> .fn f (vs.map (qP L))
 |v=>qP L v
def St.kill (s:St) (L:Nat):St:=⟨s.fr.map (V.kill L),s.bx.map fun(k,cs)=>(k,cs.map (V.kill L))⟩
def gT (L:Nat):V→Bool
 | .sl _ _ (some L') _=>L==L'
 | .eptr L' _ _ _ _ _=>L==L'
 | .slz L' _ _ _ o2 _ _ _ _ _=>L==L'||XU L o2
 | .epz L' _ _ _ _=>L==L'
 |_=>false
def V.cr (L:Nat):V→Bool
 | .tup vs=>vs.any (gT L)
 | .fn _ vs=>vs.any (gT L)
 |v=>gT L v
def St.aV (s:St) (L:Nat):Bool:=s.fr.all (fun v=>aS (v.cr L))&&s.bx.all fun(_,cs)=>cs.all fun v=>aS (v.cr L)
def oo (k:Nat):V→Bool
 | .box j _=>k==j
 |_=>false
def V.fB (k:Nat):V→Bool
 | .tup vs=>vs.any (oo k)
 | .fn _ vs=>vs.any (oo k)
 |v=>oo k v
def St.iG (s:St) (k:Nat):Bool:=s.fr.all (fun v=>aS (v.fB k))&&s.bx.all fun(j,cs)=>aS (j==k)&&cs.all fun v=>aS (v.fB k)
def Fs (L e:Nat) (k:List Kd) (ys:af):V→V
 | .sl a sh (some L') xs=>bif L==L' then .sl e k (some L) ys else .sl a sh (some L') xs
 | .eptr L' a sh xs i off=>bif L==L' then .eptr L e k ys i off else .eptr L' a sh xs i off
 |v=>v
def V.upd (L e:Nat) (k:List Kd) (ys:af):V→V
 | .tup vs=> .tup (vs.map (Fs L e k ys))
 | .fn f vs=> .fn f (vs.map (Fs L e k ys))
 |v=>Fs L e k ys v
def St.upd (s:St) (L e:Nat) (k:List Kd) (ys:af):St:=⟨s.fr.map (V.upd L e k ys),s.bx.map fun(j,cs)=>(j,cs.map (V.upd L e k ys))⟩
def Ks (L e:Nat) (sh:List Kd) (xs:af) (i:Int) (c L3 m:Nat) (g:List Kd) (ys:af):V→V
 | .slz L' l h f o2 k j d a b=>bif L==L' then .slz L e sh xs (some L3) i c m g ys else .slz L' l h f o2 k j d a b
 |v=>v
def V.vC (L e:Nat) (sh:List Kd) (xs:af) (i:Int) (c L3 b:Nat) (a:List Kd) (ys:af):V→V
 | .tup vs=> .tup (vs.map (Ks L e sh xs i c L3 b a ys))
 | .fn f vs=> .fn f (vs.map (Ks L e sh xs i c L3 b a ys))
 |v=>Ks L e sh xs i c L3 b a ys v
def St.vC (s:St) (L e:Nat) (sh:List Kd) (xs:af) (i:Int) (c L3 b:Nat) (a:List Kd) (ys:af):St:=⟨s.fr.map (V.vC L e sh xs i c L3 b a ys),s.bx.map fun(j,cs)=>(j,cs.map (V.vC L e sh xs i c L3 b a ys))⟩
def SA (L:Nat):V→V
 | .slz L' e sh xs o2 i c d a ys=>bif L==L' then .sl e sh (some L) xs else .slz L' e sh xs o2 i c d a ys
 | .epz L' e b i off=>bif L==L' then .any else .epz L' e b i off
 |v=>v
def V.Kg (L:Nat):V→V
 | .tup vs=> .tup (vs.map (SA L))
 | .fn f vs=> .fn f (vs.map (SA L))
 |v=>SA L v
def St.Kg (s:St) (L:Nat):St:=⟨s.fr.map (V.Kg L),s.bx.map fun(k,cs)=>(k,cs.map (V.Kg L))⟩
def isZ:V→Bool
 | .slz _ _ _ _ _ _ _ _ _ _=>true
 |_=>false
def OE:af→List Nat
 |[]=>[]
 | .slz L _ _ _ _ _ _ _ _ _::l=>L::OE l
 |_::l=>OE l
def VT (s:St):List Nat→St
 |[]=>s
 |L::l=>VT (s.Kg L) l
def Wq:Kd→Bool
 | .sl _ sh=>!(sh.all flatK)
 |_=>false
def O1 (P:Program) (o:Oper):Bool:=match o.op with
 | .load t _=>(match bf P t with|some true=>(eG P 8 t).any Wq|_=>false)
 |_=>false
def Ox (P:Program) (ops:List Oper) (s:St):St:=
 bif s.bx.any (fun(_,cs)=>cs.any isZ)&&ops.any (O1 P) then VT s (s.bx.flatMap fun(_,cs)=>OE cs) else s
def dz (d:Nat):Nat:=d+500000000
def St.put (s:St) (d:Option Nat) (v:V):St:=match d with|some d=>⟨s.fr.set d v,s.bx⟩|none=>s
def fC (d:Nat):Bool→af→af
 |_,[]=>[]
 |true,.sl e sh (some _) xs::l=> .sl e sh (some d) xs::fC d false l
 |b,.sl e sh _ xs::l=> .sl e sh none xs::fC d b l
 |b,v::l=>v::fC d b l
def V.FD (d:Nat):V→V
 | .sl e sh (some _) xs=> .sl e sh (some d) xs
 | .tup vs=> .tup (fC d true vs)
 |v=>v
section
variable {α:Type}
def SB (i:Int) (K:V→Option α):Nat→af→Option α
 |_,[]=>none
 |j,v::l=>sel (ieq i (j:Int)) (K v) (SB i K (j+1) l)
abbrev Caller (α:Type):=Nat→af→(V→Option α)→Option α
def dZ (any:Bool) (L n:Nat):Nat:=bif any&&Nat.ble HL L then HL+n else n
def mG (s:St):List Nat→St
 |[]=>s
 |L::l=>mG (s.kill L) l
def Ci (mb ml:List (Nat×Nat)):List (Nat×Nat)→List (af)→List (Nat×af)→List (Nat×af)
 |(k,_)::l,a::bs,bx=>Ci mb ml l bs (fH bx k (a.map (V.ren mb ml)))
 |_,_,bx=>bx
def zz (any:Bool) (d:Nat) (x:V):List (Nat×Nat)→List (af)→List (Nat×Nat)
 |(k,_)::l,a::bs=>mF (fun L i=>dZ any L (10000*(k%HL+1)+i)) 0 a++zz any d x l bs
 |_,_=>mF (fun L i=>dZ any L (match i with|0=>d|_=>d+1000*i)) 0 (vF x)
def lI:List Nat→List (Nat×Nat)→List (Nat×Nat)
 |_,[]=>[]
 |done,(L,n)::l=>bif done.contains L then lI done l else(L,n)::lI (L::done) l
def dK (l:List (Nat×Nat)):List (Nat×Nat):=l.map fun(a,b)=>(b,a)
def qQ:List (Nat×Nat)→Bool
 |[]=>false
 |(L,_)::l=>Nat.ble HL L||qQ l
def ZP:Option Nat→Nat
 |some d=>d
 |none=>0
def KG (s:St) (d:Option Nat) (mb ml:List (Nat×Nat)) (x:V) (bs:List (af)) (a:List (Nat×Nat)):Option St:=
 bif mX (a.map (·.2))&&bs.length==mb.length then
  let b:=mG (mG s (ml.map (·.1))) (a.map (·.2))
  some (St.put ⟨b.fr,Ci (dK mb) a mb bs b.bx⟩ d (x.ren (dK mb) a))
 else none
def lJ (s:St) (d:Option Nat) (mb ml:List (Nat×Nat)) (x:V) (bs:List (af)):Option St:=
 KG s d mb ml x bs (lI [] (zz (qQ ml) (ZP d) x mb bs))
def kD:V→Option Value
 | .bool b=>some (.bool b)
 | .int k n=>some (.int k n)
 |_=>none
def kE:af→Option (List Value)
 |[]=>some []
 |v::l=>match kD v,kE l with
  |some v,some l=>some (v::l)
  |_,_=>none
def bG:V→Option Value
 | .iface t (.agg a)=>match kE a with|some l=>some (.iface t (.agg l.toArray))|none=>none
 | .iface t v=>match kD v with|some v=>some (.iface t v)|none=>none
 |_=>none
def OH:V→Bool
 | .tup []=>true
 | .bool _=>true
 | .int _ _=>true
 | .str _=>true
 |_=>false
def VU (dr:Bool) (call:Caller α) (s:St) (d:Option Nat) (eff:Eff) (K:St→Option α) (KP:V→St→Option α):Option α:=
 match eff with
 | .val v=>K (s.put d v)
 | .newSl e sh xs=>K (s.put d (.sl e sh none xs))
 | .own e sh xs=>match d with
  |some d=>bif (s.put (some d) .any).aV d&&Nat.blt d HL then K (s.put (some d) (.sl e sh (some d) xs)) else none
  |none=>none
 | .app L e sh xs=>match d with
  |some d=>bif (s.kill L).aV (dZ true L d)&&Nat.blt d HL then K ((s.kill L).put (some d) (.sl e sh (some (dZ true L d)) xs)) else none
  |none=>none
 | .kN _ g=>match d with
  |some d=>bif s.iG d&&g.all (fun v=>aS (v.fB d))&&Nat.blt d HL then K ⟨s.fr.set d (.box d 0),(d,g)::s.bx⟩ else none
  |none=>none
 | .put k off g=>match aj s.bx k with
  |some old=>bif iF (over old off g)&&aS (iF old) then none else K (St.put ⟨s.fr,fH s.bx k (over old off g)⟩ d (.tup []))
  |none=>none
 | .call f args mb ml=>call f args fun r=>match r with
  | .out p x bs=>bif dr then none else(match p with
   |true=>match lJ s none mb ml x bs with
    |some s'=>(match bG x with|some _=>KP x s'|none=>none)
    |none=>none
   |false=>match lJ s d mb ml x bs with
    |some s'=>K s'
    |none=>none)
  | .keep p x=>bif dr then none else(match p with
   |true=>(match bG x with|some _=>KP x s|none=>none)
   |false=>bif OH x then K (s.put d x) else none)
  |r=>bif fV args then none else(match d with
   |some d=>bif s.aV d&&Nat.blt d HL then K (s.put (some d) (r.FD d)) else none
   |none=>K s)
 | .jN v=>bif dr then none else(match bG v with|some _=>KP v s|none=>none)
 | .pick b x y=>sel b (K (s.put d x)) (K (s.put d y))
 | .alts i vs=>SB i (fun v=>K (s.put d v)) 0 vs
 | .zu L e k ys=>bif Nat.blt L HL then K ((s.forget.upd L e k ys).put d (.tup [])) else none
 | .ownz e sh xs c h a=>match d with
  |some d=>bif (s.put (some d) .any).aV d&&((s.put (some d) .any).aV (dz d)&&Nat.blt (dz d) HL) then K (s.put (some d) (.slz d e sh xs (some (dz d)) 0 c h a [])) else none
  |none=>none
 | .appz L e sh xs i c h a=>match d with
  |some d=>bif (s.kill L).aV (dZ true L d)&&((s.kill L).aV (dz d)&&Nat.blt (dz d) HL) then K ((s.kill L).put (some d) (.slz (dZ true L d) e sh xs (some (dz d)) i c h a [])) else none
  |none=>none
 | .zw L e sh xs i c L3 h a ys=>K ((s.vC L e sh xs i c L3 h a ys).put d (.tup []))
def DW:Eff→Bool
 | .put _ _ _=>true
 | .app _ _ _ _=>true
 | .zu _ _ _ _=>true
 | .jN _=>true
 | .ownz _ _ _ _ _ _=>true
 | .appz _ _ _ _ _ _ _ _=>true
 | .zw _ _ _ _ _ _ _ _ _ _=>true
 |_=>false
def Oy (E:Env) (call:Caller α) (dr:Option (List (Nat×af))) (o:Oper) (s:St) (K:St→Option α) (KP:V→St→Option α):Option α:=
 match yh E s.fr (match dr with|some b=>b|none=>s.bx) o with
 |none=>none
 |some (c,eff)=>bif dr.isSome&&DW eff then none else sel c (VU dr.isSome call s o.dst eff K KP) none
def O3 (ops:List Oper) (s:St) (o:Oper) (j:Nat) (a:Bool) (c e:St→Option α):Option α:=
 match ops[j]? with
 |none=>none
 |some f=>match f.dst with
  |none=>none
  |some d=>match slot s.fr d with
   | .bool b=>sel b ((match a with|true=>c|false=>e) ⟨s.fr.set d (.bool true),s.bx⟩) ((match a with|true=>e|false=>c) ⟨s.fr.set d (.bool false),s.bx⟩)
   | .tup []=>e s
   |_=>none
def DX {β:Type}:af→(af→β)→β
 |[],k=>k []
 |v::l,k=>DX l fun l=>k (v::l)
def pf (K:St→Option α) (s:St):Option α:=DX s.fr fun fr=>K ⟨fr,s.bx⟩
def iZ (E:Env) (call:Caller α) (ops:List Oper) (bx:Option (List (Nat×af))) (KP:V→St→Option α):List Oper→St→(St→Option α)→Option α
 |[],s,K=>K s
 |o::l,s,K=>
  match o.guard with
  |none=>Oy E call bx o s (pf fun s=>iZ E call ops bx KP l s K) KP
  |some (j,a)=>O3 ops s o j a (pf fun s=>Oy E call bx o s (pf fun s=>iZ E call ops bx KP l s K) KP)
   (pf fun s=>pf (fun s=>iZ E call ops bx KP l s K) (s.put o.dst (.tup [])))
def tmpsOf (l:List Operand):List Nat:=l.filterMap fun| .tmp t=>some t|_=>none
def pF (o:Oper):List Nat:=tmpsOf o.op.operands.toList
def Od:Code→List Nat
 | .region _ ops _=>ops.toList.flatMap pF
 | .seq a b=>Od a++Od b
 | .cond c a b=>tmpsOf [c]++Od a++Od b
 | .block _ b=>Od b
 | .loop b=>Od b
 | .scope b=>Od b
 | .rangeFunc f _ a b=>tmpsOf [f]++Od a++Od b
 |_=>[]
def RV:Code→List Nat
 | .region _ ops _=>ops.toList.filterMap (·.dst)
 | .seq a b=>RV a++RV b
 | .cond _ a b=>RV a++RV b
 | .block _ b=>RV b
 | .loop b=>RV b
 | .scope b=>RV b
 | .rangeFunc _ c a b=>c.toList++RV a++RV b
 |_=>[]
def U5:List Oper→List Nat→List Nat×List Nat
 |[],W=>([],W)
 |o::l,W=>let r:=U5 l (o.dst.toList++W);((pF o).filter (fun t=>!W.contains t)++r.1,r.2)
def RX:Code→List Nat→List Nat×List Nat
 | .region _ ops _,W=>U5 ops.toList W
 | .seq a b,W=>let x:=RX a W;let y:=RX b x.2;(x.1++y.1,y.2)
 | .cond c a b,W=>let x:=RX a W;let y:=RX b W;((tmpsOf [c]).filter (fun t=>!W.contains t)++x.1++y.1,x.2.filter y.2.contains)
 | .block _ b,W=>((RX b W).1,W)
 | .loop b,W=>((RX b W).1,W)
 | .scope b,W=>((RX b W).1,W)
 | .rangeFunc f _ a b,W=>((tmpsOf [f])++(RX a W).1++(RX b W).1,W)
 |_,W=>([],W)
def O4:List Oper→List Nat→List Nat
 |[],_=>[]
 |o::l,W=>(pF o).filter (fun t=>!W.contains t)++O4 l (o.dst.toList++W)
def zx:Code→List Nat
 | .region _ ops _=>O4 ops.toList []
 | .seq a b=>zx a++zx b
 | .cond _ a b=>zx a++zx b
 | .block _ b=>zx b
 | .loop b=>zx b
 | .scope b=>zx b
 | .rangeFunc f _ a b=>tmpsOf [f]++zx a++zx b
 |_=>[]
def vI (tot US:List Nat) (n:Nat) (body:Code):List Nat:=
 let c:=Od body
 let a:=(RX body []).1
 let b:=RV body
 (List.range n).filter fun t=>!US.contains t||(b.contains t&& !a.contains t&&tot.count t==c.count t)
def og (L i:Nat):V→V
 | .sl e sh (some L') xs=>bif L==L' then .sl e sh (some i) xs else .sl e sh (some L') xs
 | .eptr L' e sh xs j off=>bif L==L' then .eptr i e sh xs j off else .eptr L' e sh xs j off
 | .slz L' e sh xs o2 j c d a ys=> .slz (bif L==L' then i else L') e sh xs (Sz L i o2) j c d a ys
 | .epz L' e b j off=> .epz (bif L==L' then i else L') e b j off
 |v=>v
def V.canon (L i:Nat):V→V
 | .tup vs=> .tup (vs.map (og L i))
 | .fn f vs=> .fn f (vs.map (og L i))
 |v=>og L i v
def St.canon (s:St) (L i:Nat):St:=⟨s.fr.map (V.canon L i),s.bx.map fun(k,cs)=>(k,cs.map (V.canon L i))⟩
def iV:af→Nat→List Nat→St→St
 |[],_,_,s=>s
 | .sl _ _ (some L) _::l,i,a,s=>bif a.contains L||L==dZ true L i then iV l (i+1) (L::a) s else
  bif s.aV (dZ true L i)&&Nat.blt i HL then iV l (i+1) (L::a) (s.canon L (dZ true L i)) else iV l (i+1) (L::a) s
 |_::l,i,a,s=>iV l (i+1) a s
def zM (n L:Nat) (s:St):St:=bif L==dZ true L n||s.fr.any (fun v=>v.cr L) then s else
 bif s.aV (dZ true L n)&&Nat.blt n HL then s.canon L (dZ true L n) else s
def kQ (b:Nat):af→Nat→St→St
 |[],_,s=>s
 | .sl _ _ (some L) _::l,i,s=>bif L==dZ true L (b+i)||s.fr.any (fun v=>v.cr L) then kQ b l (i+1) s else
  bif s.aV (dZ true L (b+i))&&Nat.blt (b+i) HL then kQ b l (i+1) (s.canon L (dZ true L (b+i))) else kQ b l (i+1) s
 | .slz L _ _ _ o2 _ _ _ _ _::l,i,s=>
  kQ b l (i+1) (match o2 with
   |some L2=>zM (b+i+5000) L2 (zM (b+i) L s)
   |none=>zM (b+i) L s)
 |_::l,i,s=>kQ b l (i+1) s
def yL:List (Nat×af)→St→St
 |[],s=>s
 |(k,a)::l,s=>yL l (kQ (10000*(k%HL+1)) a 0 s)
def vJ (a:List Nat):af→Nat→af
 |[],_=>[]
 |v::l,i=>(bif a.contains i then .any else v)::vJ a l (i+1)
def DY {β:Type}:List Nat→(List Nat→β)→β
 |[],k=>k []
 |a::l,k=>DY l fun l=>k (a::l)
theorem Cs {β:Type}: ∀(l:List Nat) (k:List Nat→β),DY l k=k l
 |[],_=>rfl
 |a::l,k=>by unfold DY;exact Cs l _
def zN (a:List Nat) (s:St):St:=DY a fun a=>
 let fr:=vJ a s.fr 0
 let b:=iV fr 0 [] ⟨fr,s.bx.filter fun(k,_)=>!a.contains k||fr.any (V.fB k)⟩
 yL b.bx b
inductive Ex where
 |norm|exit (id:Nat)|ret|jN (v:V)
def Ml (b:Code) (K:Ex→St→Option α) (next:St→Option α):Ex→St→Option α
 | .norm,s=>next s
 |e,s=>K e s
def O5 (id:Nat) (K:Ex→St→Option α):Ex→St→Option α
 | .exit i,s=>bif i==id then K .norm s else K (.exit i) s
 |e,s=>K e s
def kR (n:Nat) (ops:List Oper):Bool:=
 let a:=ops.zipIdx
 a.all fun(o,i)=>
  (match o.dst with|some d=>Nat.blt d n|none=>false)&&
  a.all (fun(o',j)=>i==j||o.dst != o'.dst)&&
  o.after.toList.all (fun e=>!Region.binds .any e||Nat.blt e.on i)&&
  (pF o).all (fun t=>a.all fun(o',j)=>o'.dst != some t||(Nat.blt j i&&o.after.toList.any fun e=>Region.binds .any e&&e.on==j))&&
  (match o.guard with|none=>true|some (j,_)=>Nat.blt j i&&o.after.toList.any fun e=>Region.binds .any e&&e.on==j)
def waits (ops:List Oper):Nat→Nat→Nat→Bool
 |0,_,_=>false
 |n+1,j,i=>match ops[j]? with
  |some o=>o.after.toList.any fun e=>Region.binds .any e&&(e.on==i||waits ops n e.on i)
  |none=>false
def addN (l:List Nat):List Nat→List Nat
 |[]=>l
 |a::m=>bif l.contains a then addN l m else addN (a::l) m
def eH (o:Oper):List Nat:=(o.after.toList.filter fun e=>Region.binds .any e).map (·.on)
def rE:List Nat→(List Nat→Bool)→Bool
 |[],k=>k []
 |a::l,k=>rE l fun l=>k (a::l)
def DZ (ops:List Oper):Nat→List Nat→Bool
 |0,_=>true
 |i+1,S=>bif S.contains i then rE (addN S (match ops[i]? with|some o=>eH o|none=>[])) (fun S=>DZ ops i S) else false
def tF (ops:List Oper) (j:Nat):Bool:=match ops[j]? with
 |some o=>(eH o).all (fun e=>Nat.blt e j)&&rE (eH o) fun S=>DZ ops j S
 |none=>false
def jD:List Oper→Nat
 |[]=>0
 |o::l=>match o.dst with|some _=>jD l+1|none=>0
def D3 (ops:List Oper):Nat→Nat
 |0=>0
 |k+1=>bif tF ops k then D3 ops k else k+1
def dQ (ops:List Oper):Nat:=D3 ops (jD ops)
def D4 (ops:List Oper):Nat→Nat→Bool
 |_,0=>true
 |m,n+1=>tF ops m&&D4 ops (m+1) n
def jS (ops:List Oper) (m:Nat):Bool:=D4 ops m (ops.length-m)
def FE (ops:Array Oper) (l:Nat):Bool:=match ops[l]? with
 |some o=>(match o.op with| .extract _ _=>true|_=>false)&&(match o.guard with|none=>true|some _=>false)&&
  (List.range ops.size).all fun j=>j==l||(match ops[j]? with|some oj=>(eH o).contains j||(eH oj).contains l||o.apart ops oj|none=>true)
 |none=>false
def tH (ops:List Oper) (late:Nat→Bool):Nat→List Nat→Bool
 |0,_=>true
 |i+1,S=>bif S.contains i then rE (addN S (match ops[i]? with|some o=>eH o|none=>[])) (fun S=>tH ops late i S) else late i&&tH ops late i S
def zZ (ops:List Oper) (late:Nat→Bool) (j:Nat):Bool:=match ops[j]? with
 |some o=>(eH o).all (fun e=>Nat.blt e j)&&rE (eH o) fun S=>tH ops late j S
 |none=>false
def tJ (ops:List Oper) (late:Nat→Bool):Nat→Nat→Bool
 |_,0=>true
 |m,n+1=>zZ ops late m&&tJ ops late (m+1) n
def FF (ops:Array Oper) (m i:Nat):Bool:=Nat.blt i m&&FE ops i
def rT (ops:Array Oper) (m:Nat):Bool:=Region.noSelect ops&&tJ ops.toList (FF ops m) m (ops.toList.length-m)
def dh (ops:List Oper) (s:St):Bool:=ops.all fun o=>match o.dst with|some d=>s.aV d&&s.iG d|none=>false
def iT (ops:List Oper) (s:St):Bool:=
 let idx:=ops.zipIdx
 idx.all (fun(oi,i)=>match oi.dst with
  |none=>false
  |some a=>idx.all (fun(oj,j)=>match oj.dst with
    |none=>false
    |some b=>i==j||(aS ((slot s.fr b).cr a)&&aS ((slot s.fr b).fB a))||waits ops ops.length j i)&&
   s.bx.all fun(k,cs)=>(cs.all fun v=>aS (v.cr a)&&aS (v.fB a))||idx.any fun(oj,j)=>oj.dst==some k&&waits ops ops.length j i)
def D5 (ops:List Oper) (m:Nat):Bool:=match ops[m]? with
 |some p=>(match p.dst with|none=>true|some _=>false)&&(match p.guard with|none=>true|some _=>false)&&p.after.toList.all (fun e=>!Region.binds .any e)&&
  (pF p).all (fun t=>(ops.take m).all fun o=>o.dst != some t)
 |none=>false
def pG:List (Nat×af)→Nat→List (Nat×af)
 |[],_=>[]
 |(k,a)::l,j=>bif k==j then pG l j else(k,a)::pG l j
def wT (b:Code) (body:St→(Ex→St→Option α)→Option α) (a:List Nat) (K:Ex→St→Option α):Nat→St→Option α
 |0,_=>none
 |n+1,s=>body s fun e s'=>match e with
  | .norm=>pf (wT b body a K n) (zN a s')
  |e=>K e s'
def U6 (P:Program) (t:TypeId):Bool:=match P.underlying t with|some (.slice _)=>true|_=>false
def OI (P:Program) (t:TypeId) (f:Nat):Bool:=match P.underlying t with
 |some (.struct b)=>match b[f]? with
  |some a=>match P.info? a.type with
   |some i=>i.size != 0
   |none=>false
  |none=>false
 |_=>false
def tK (P:Program) (o:Oper):Bool:=
 (match o.op with| .move _=>true| .nilCheck _=>true| .slice t _ _ _ none=>U6 P t| .makeFunc _ _ _=>true| .fieldAddr t _ f=>OI P t f|_=>false)&&(match o.guard with|none=>true|some _=>false)&&(match o.dst with|some _=>true|none=>false)
def qh (P:Program) (ops:Array Oper) (L:List Nat) (l:Nat):Bool:=match ops[l]? with
 |some o=>tK P o&&(eH o).all (fun e=>L.contains e)&&
  (List.range ops.size).all fun j=>j==l||(match ops[j]? with|some oj=>(eH o).contains j||(eH oj).contains l||o.apart ops oj|none=>true)
 |none=>false
def lK (P:Program) (ops:Array Oper):List Nat→List Nat→List Nat
 |[],L=>L
 |l::r,L=>bif qh P ops L l then lK P ops r (L++[l]) else lK P ops r L
def bU (P:Program) (ops:Array Oper):List Nat:=lK P ops (List.range ops.size) []
def eB (ops:Array Oper) (L:List Nat):List Nat:=(List.range ops.size).filter fun i=>!L.contains i
def Fu (p:List Nat) (o:Oper):Oper:=
 {o with after:=((o.after.toList.filter fun e=>p.contains e.on).map fun e=>{e with on:=p.idxOf e.on}).toArray,guard:=o.guard.map fun g=>(p.idxOf g.1,g.2)}
def bK (ops:Array Oper) (p:List Nat):Array Oper:=(p.map fun i=>Fu p (ops.getD i default)).toArray
def Cj (ops:Array Oper) (p:List Nat):Bool:=
 ops.toList.all fun o=>(match o.guard with|some (j,_)=>p.contains j|none=>true)&&o.after.toList.all fun e=>Nat.blt e.on ops.size
def ZQ {α:Type} (E:Env):List Oper→St→(St→Option α)→Option α
 |[],s,K=>K s
 |o::l,s,K=>match yh E s.fr s.bx o with
  |some (c,.val v)=>sel c (ZQ E l (s.put o.dst v) K) none
  |_=>none
def plainO (o:Oper):Bool:=match o.op with
 | .call c=>(match c.callee with| .builtin .append=>false|_=>true)
 | .store _ _ _=>false
 |_=>true
def Ws (o:Oper):Bool:=match o.op with
 | .call c=>(match c.callee with| .value _=>true|_=>false)
 |_=>false
def YY:V→Bool
 | .fn f (_::_)=>Nat.blt f rA
 |_=>false
def YZ (o:Oper):Bool:=match o.op with
 | .makeFunc _ _ a=>a.size != 0
 |_=>false
def Y0 (s:St) (l:List Oper):Bool:=!(l.any Ws&&l.any fun o=>YZ o||(pF o).any fun t=>YY (slot s.fr t))
def zO (s:St) (l:List Oper):Bool:=l.all plainO&&Y0 s l
def IZ (n:Nat) (ops:List Oper) (s:St):Bool:=zO s (ops.take (dQ ops))&&kR n (ops.take (dQ ops))&&jS ops (dQ ops)&&dh (ops.take (dQ ops)) s
structure Rd where
 tot:List Nat
 US:List Nat
 ord:Bool
def OJ (E:Env) (call:Caller α) (ops:Array Oper) (s:St) (K:Ex→St→Option α) (FB:St→Option α):Option α:=
 bif zO s (ops.toList.take (dQ ops.toList))&&(kR s.fr.length (ops.toList.take (dQ ops.toList))&&jS ops.toList (dQ ops.toList)&&dh (ops.toList.take (dQ ops.toList)) s) then
   iZ E call ops.toList (some s.bx) (fun _ _=>none) (ops.toList.take (dQ ops.toList)) s fun s'=>bif iT (ops.toList.take (dQ ops.toList)) s' then iZ E call ops.toList none (fun v s=>K (.jN v) s) (ops.toList.drop (dQ ops.toList)) s' fun s=>K .norm s else none
  else bif zO s (ops.toList.take (dQ ops.toList))&&(kR s.fr.length (ops.toList.take (dQ ops.toList))&&rT ops (dQ ops.toList)&&dh (ops.toList.take (dQ ops.toList)) s) then
   iZ E call ops.toList (some s.bx) (fun _ _=>none) (ops.toList.take (dQ ops.toList)) s fun s'=>bif iT (ops.toList.take (dQ ops.toList)) s' then iZ E call ops.toList none (fun _ _=>none) (ops.toList.drop (dQ ops.toList)) s' fun s=>K .norm s else none
  else bif D5 ops.toList (jD ops.toList)&&kR s.fr.length (ops.toList.take (jD ops.toList))&&jS ops.toList (jD ops.toList+1) then
   (match ops.toList[jD ops.toList]? with
   |some p=>match yh E s.fr s.bx p with
    |some (c,.put k off a)=>sel c (match aj s.bx k with
     |some old=>bif (bif iF (over old off a) then iF old else true)&&dh (ops.toList.take (jD ops.toList)) s&&dh (ops.toList.take (jD ops.toList)) ⟨s.fr,fH s.bx k (over old off a)⟩ then
       iZ E call ops.toList (some (pG s.bx k)) (fun _ _=>none) (ops.toList.take (jD ops.toList)) ⟨s.fr,fH s.bx k (over old off a)⟩ fun s'=>
        bif iT (ops.toList.take (jD ops.toList)) s'&&iT (ops.toList.take (jD ops.toList)) ⟨s'.fr,fH s'.bx k old⟩ then iZ E call ops.toList none (fun v s=>K (.jN v) s) (ops.toList.drop (jD ops.toList+1)) s' fun s=>K .norm s else none
      else none
     |none=>none) none
    |_=>none
   |none=>none)
  else bif Region.noSelect ops&&Cj ops (eB ops (bU E.P ops)) then
   ZQ E ((bU E.P ops).map fun i=>ops.getD i default) s fun s=>bif IZ s.fr.length (bK ops (eB ops (bU E.P ops))).toList s then
    iZ E call (bK ops (eB ops (bU E.P ops))).toList (some s.bx) (fun _ _=>none) ((bK ops (eB ops (bU E.P ops))).toList.take (dQ (bK ops (eB ops (bU E.P ops))).toList)) s fun s'=>
     bif iT ((bK ops (eB ops (bU E.P ops))).toList.take (dQ (bK ops (eB ops (bU E.P ops))).toList)) s' then
      iZ E call (bK ops (eB ops (bU E.P ops))).toList none (fun _ _=>none) ((bK ops (eB ops (bU E.P ops))).toList.drop (dQ (bK ops (eB ops (bU E.P ops))).toList)) s' fun s=>K .norm s else none
    else FB s
  else none
noncomputable def both {α:Type} (a b:Option α):Option α:=@ite _ (a=b) (Classical.propDecidable _) a none
noncomputable def Oz {α:Type} (f:Nat→Option α):List Nat→Option α
 |[]=>none
 |[i]=>f i
 |i::j::l=>both (f i) (Oz f (j::l))
def D6 (ops:List Oper) (L:List Nat):List Nat:=(List.range ops.length).filter fun i=>!L.contains i&&(match ops[i]? with|some o=>(eH o).all (fun e=>L.contains e)|none=>false)
noncomputable def Ck (E:Env) (call:Caller α) (ops:List Oper) (K:St→Option α):Nat→List Nat→St→Option α
 |0,_,_=>none
 |n+1,L,s=>match D6 ops L with
  |[]=>K s
  |i::l=>Oz (fun i=>match ops[i]? with|some o=>iZ E call ops none (fun _ _=>none) [o] s fun s=>Ck E call ops K n (i::L) s|none=>none) (i::l)
noncomputable def ev (E:Env) (call:Caller α) (d:Rd) (fuel:Nat):Code→St→(Ex→St→Option α)→Option α
 | .skip,s,K=>K .norm s
 | .region _ ops false,s,K=>iZ E call ops.toList none (fun v s=>K (.jN v) s) ops.toList (Ox E.P ops.toList s) fun s=>K .norm s
 | .region _ ops true,s,K=>OJ E call ops (Ox E.P ops.toList s) K fun s=>bif d.ord then Ck E call (bK ops (eB ops (bU E.P ops))).toList (K .norm) ((bK ops (eB ops (bU E.P ops))).size+1) [] s else none
 | .seq a b,s,K=>ev E call d fuel a s (Ml b K fun s=>ev E call d fuel b s K)
 | .cond c a b,s,K=>match iD E s.fr c with
  | .bool t=>sel t (ev E call d fuel a s K) (ev E call d fuel b s K)
  |_=>none
 | .block id b,s,K=>ev E call d fuel b s (O5 id K)
 | .loop b,s,K=>wT b (fun s K=>ev E call d fuel b s K) (vI d.tot d.US s.fr.length b) K fuel (zN (vI d.tot d.US s.fr.length b) s)
 | .exit id,s,K=>K (.exit id) s
 | .label _,s,K=>K .norm s
 | .ret,s,K=>K .ret s
 |_,_,_=>none
structure UT where
 l:Oper
 r:Oper
 t:TypeId
 m:Operand
 it:Nat
 L:Nat
 n:Oper
 nx:Nat
 o2:List Oper
 c:Operand
 L2:Nat
 e:Oper
 en:Nat
 o3:List Oper
 body:Code
def XV:Code→Option UT
 | .seq (.region _ a false) (.block L (.loop (.seq (.region _ o2 false) (.seq (.cond c .skip (.exit L1)) (.block L2 (.seq (.region _ o3 false) body))))))=>
  match a.toList,o2.toList,o3.toList with
  |[l,r],n::p,e::q=>match r.op,n.op,e.op,r.dst,n.dst,e.dst,r.guard,n.guard,e.guard with
   | .range t m,.next (.tmp i) false,.entry (.tmp j),some it,some nx,some en,none,none,none=>bif i==it&&j==it&&L1==L then some ⟨l,r,t,m,it,L,n,nx,p,c,L2,e,en,q,body⟩ else none
   |_,_,_,_,_,_,_,_,_=>none
  |_,_,_=>none
 |_=>none
def U7:Code→Bool
 | .seq a b=>(XV a).isSome||U7 b
 |_=>false
abbrev IT:Nat:=HL+9999
def isIt:V→Bool
 | .box k 0=>k==IT
 |_=>false
def VA (d:UT) (K:Ex→St→Option α):Ex→St→Option α:=fun e s=>bif (s.put (some d.it) .any).iG IT then K e (s.put (some d.it) .any) else none
noncomputable def II (E:Env) (call:Caller α) (a:Rd) (fuel:Nat) (d:UT) (K:Ex→St→Option α):Nat→af→St→Option α
 |0,_,_=>none
 |n+1,left,s=>bif isIt (slot s.fr d.it) then bif left.isEmpty then iZ E call (d.n::d.o2) none (fun _ _=>none) d.o2 (s.put (some d.nx) (.tup [.bool false])) fun s=>match iD E s.fr d.c with
   | .bool false=>VA d K .norm s
   |_=>none
  else Oz (fun i=>match left[i]? with
   |some (.agg vs)=>iZ E call (d.n::d.o2) none (fun _ _=>none) d.o2 (s.put (some d.nx) (.tup (.bool true::vs))) fun s=>match iD E s.fr d.c with
    | .bool true=>bif isIt (slot s.fr d.it) then iZ E call (d.e::d.o3) none (fun _ _=>none) d.o3 (s.put (some d.en) (.tup vs)) fun s=>ev E call a fuel d.body s fun e s=>match e with
      | .norm=>II E call a fuel d K n (left.eraseIdx i) s
      | .exit j=>bif j==d.L2 then II E call a fuel d K n (left.eraseIdx i) s else bif j==d.L then VA d K .norm s else VA d K (.exit j) s
      | .ret=>VA d K .ret s
      | .jN v=>VA d K (.jN v) s
     else none
    |_=>none
   |_=>none) (List.range left.length) else none
noncomputable def ZR (E:Env) (call:Caller α) (b:Rd) (fuel:Nat) (d:UT) (s:St) (K:Ex→St→Option α):Option α:=
 iZ E call [d.l,d.r] none (fun _ _=>none) [d.l] s fun s=>match Sw (iD E s.fr d.m),E.P.underlying d.t with
  |some g,some (.map _ _)=>match Sy E g with
   |some a=>bif s.iG IT then II E call b fuel d K (a.length+1) a (s.put (some d.it) (.box IT 0)) else none
   |none=>none
  |_,_=>none
noncomputable def Si (E:Env) (call:Caller α) (e:Rd) (fuel:Nat):Code→St→(Ex→St→Option α)→Option α
 | .seq a b,s,K=>match XV a with
  |some d=>ZR E call e fuel d s (Ml b K fun s=>Si E call e fuel b s K)
  |none=>ev E call e fuel a s (Ml b K fun s=>Si E call e fuel b s K)
 |c,s,K=>ev E call e fuel c s K
def Y1 (b:Code) (body:St→(Ex→St→Option α)→Option α) (a:List Nat) (K:Ex→St→Option α) (n:Nat):Ex→St→Option α
 | .norm,s=>pf (wT b body a K n) (zN a s)
 |e,s=>K e s
def Xu:List Nat→Code→Code
 |[],c=>c
 |i::p,c=>match c with
  | .seq a b=>Xu p (match i with|0=>a|_=>b)
  | .cond _ a b=>Xu p (match i with|0=>a|_=>b)
  | .block _ b=>Xu p b
  | .loop b=>Xu p b
  | .scope b=>Xu p b
  |c=>c
noncomputable def Mm (E:Env) (call:Caller α) (d:Rd) (fuel f:Nat):List Nat→Code→List Nat→(Ex→St→Option α)→(Ex→St→Option α)
 |[],_,_,K=>K
 |i::p,c,e,K=>match c with
  | .seq a b=>match i with
   |0=>Mm E call d fuel f p a e (Ml b K fun s=>ev E call d fuel b s K)
   |_=>Mm E call d fuel f p b e K
  | .cond _ a b=>Mm E call d fuel f p (match i with|0=>a|_=>b) e K
  | .block id b=>Mm E call d fuel f p b e (O5 id K)
  | .loop b=>match e with
   |n::e=>Mm E call d fuel f p b e (Y1 b (fun s K=>ev E call d fuel b s K) (vI d.tot d.US f b) K n)
   |[]=>K
  |_=>K
def tV (fn:Func):List Nat:=fn.results.toList.map fun| .tmp t=>t| .cell a _=>a
def V.FH:V→Option V
 | .fn _ _=>none
 |v=>v.deep
def qR (P:Program) (s:St):ResultVar→Option V
 | .tmp t=>match(slot s.fr t).wP with
  | .sl e sh o xs=>some (.sl e sh o xs)
  |v=>v.FH
 | .cell a t=>match slot s.fr a with
  | .box k off=>match aj s.bx k with
   |some cells=>match bf P t with
    |some true=>match bL P t with
     |some n=>match zI cells off n with
      |some b=>some (.agg b)
      |none=>none
     |none=>none
    |some false=>bif Nat.blt off cells.length then(cells.getD off .any).FH else none
    |none=>none
   |none=>none
  |_=>none
def nD (P:Program) (s:St):List ResultVar→Option (af)
 |[]=>some []
 |x::l=>match qR P s x with
  |none=>none
  |some v=>match nD P s l with
   |none=>none
   |some r=>some (v::r)
def FI:af→V
 |[v]=>v
 |vs=> .tup (fC 0 true vs)
def kW (s:St):Nat→af→Option (List (af))
 |_,[]=>some []
 |j,.bxa _ _::l=>match aj s.bx (HL+j),kW s (j+1) l with
  |some a,some bs=>some (a::bs)
  |_,_=>none
 |j,_::l=>kW s (j+1) l
def Mq:Nat→List (af)→List (Nat×Nat)
 |_,[]=>[]
 |j,a::bs=>mF (fun L i=>dZ true L (1000*(j+1)+1+i)) 0 a++Mq (j+1) bs
def iQ:Nat→af→List (Nat×Nat)
 |_,[]=>[]
 |j,.bxa _ _::l=>(HL+j,HL+j)::iQ (j+1) l
 |j,_::l=>iQ (j+1) l
def mH (p:Bool) (x:V) (s:St) (args:af) (K:V→Option α):Option α:=
 match kW s 0 args with
 |some bs=>
  let ml:=lI [] (mF (fun L i=>dZ true L i) 0 (vF x)++Mq 0 bs)
  let mb:=iQ 0 args
  bif mX (ml.map (·.2)) then K (.out p (x.ren mb ml) (bs.map fun a=>a.map (V.ren mb ml))) else none
 |none=>none
def Kt:af→V
 |[v]=>v
 |vs=> .tup vs
def IJ:V→Option Kd
 | .bool _=>some .bool
 | .int k _=>some (.int k)
 | .str _=>some .str
 | .sl e sh _ _=>bif Kd.zn sh sh then some (.sl e sh) else none
 |_=>none
def Cm:af→Option (List Kd)
 |[]=>some []
 |v::l=>match IJ v,Cm l with
  |some k,some a=>some (k::a)
  |_,_=>none
def zA (s:St):List ResultVar→Option V
 |[.tmp t]=>match slot s.fr t with
  | .box k off=>bif off==0 then(match aj s.bx k with
   |some cells=>match Cm cells with
    |some sh=>match V.qN cells with
     |some a=>some (.rptr sh (.agg a) 0)
     |none=>none
    |none=>none
   |none=>none) else none
  |_=>none
 |_=>none
def yw (P:Program) (fn:Func) (args:af) (K:V→Option α):Ex→St→Option α
 | .norm,s=>match nD P s fn.results.toList with|some vs=>(bif handed args then mH false (Kt vs) s args K else K (FI vs))|none=>bif handed args then none else(match zA s fn.results.toList with|some r=>K r|none=>none)
 | .ret,s=>match nD P s fn.results.toList with|some vs=>(bif handed args then mH false (Kt vs) s args K else K (FI vs))|none=>bif handed args then none else(match zA s fn.results.toList with|some r=>K r|none=>none)
 | .jN v,s=>match bG v with|some _=>mH true v s args K|none=>none
 |_,_=>none
abbrev aO:=af→Option (Bool×V)
def rdOf (fn:Func) (c:Code):Rd:=⟨tV fn++Od c,tV fn++zx c,false⟩
def Fv (o:Bool) (fn:Func) (c:Code):Rd:=⟨tV fn++Od c,tV fn++zx c,o⟩
def eY:List (Nat×aO)→Nat→Option aO
 |[],_=>none
 |(f,s)::l,g=>bif f==g then some s else eY l g
def qi (fn:Func) (args:af):af:=args++List.replicate (fn.ntmps-args.length) (.tup [])
def Ee:Code→Option (Code×Oper×Oper×Code)
 | .seq a (.seq (.region _ ops false) b)=>match ops.toList with
  |[c,o2]=>match o2.op with
   | .defer _=>some (a,c,o2,b)
   |_=>none
  |_=>none
 |_=>none
noncomputable def FJ (o:Bool) (E:Env) (call:Caller α) (fuel f:Nat) (args:af) (rec:V) (K:V→Option α):Option α:=
 match E.P.funcs[f]? with
 |none=>none
 |some fn=>match fn.body with
  |some c=>match c with
   | .seq (.region _ ops false) b=>match ops.toList with
    |[op]=>match op.op,op.guard,op.dst,fn.results.toList with
     | .call a,none,some d,[]=>match a.callee,a.args.toList with
      | .builtin .recover,[]=>ev E call (Fv o fn c) fuel b (St.put ⟨qi fn (bg 0 args),bZ 0 args⟩ (some d) rec) fun e s=>match e with
       | .norm=>mH false (.tup []) s args K
       | .ret=>mH false (.tup []) s args K
       |_=>none
      |_,_=>none
     |_,_,_,_=>none
    |_=>none
   |_=>none
  |none=>none
noncomputable def Sj (o:Bool) (E:Env) (call:Caller α) (fuel:Nat) (fn:Func) (g:Nat) (a args:af) (K:V→Option α) (rec:V) (s:St):Option α:=
 match lG s.bx 0 a with
 |some (b,mb,ml)=>bif lF mb ml then
   FJ o E call fuel g b rec fun r=>match r with
    | .out false x bs=>match lJ s none mb ml x bs with
     |some s'=>yw E.P fn args K .ret s'
     |none=>none
    |_=>none
  else none
 |none=>none
noncomputable def VW (o:Bool) (E:Env) (call:Caller α) (fuel:Nat) (fn:Func) (g:Nat) (a args:af) (K:V→Option α):Ex→St→Option α
 | .norm,s=>Sj o E call fuel fn g a args K .nilif s
 | .ret,s=>Sj o E call fuel fn g a args K .nilif s
 | .jN v,s=>match bG v with|some _=>Sj o E call fuel fn g a args K v s|none=>none
 |_,_=>none
def XW (k a:Nat):V→V
 | .box j off=>bif j==k then .box a off else .box j off
 |v=>v
def V.rb (k a:Nat):V→V
 | .tup vs=> .tup (vs.map (XW k a))
 | .fn f vs=> .fn f (vs.map (XW k a))
 |v=>XW k a v
def SC (k a:Nat):List (Nat×af)→List (Nat×af)
 |[]=>[]
 |(j,b)::l=>(bif j==k then a else j,b.map (V.rb k a))::SC k a l
def St.rb (s:St) (k a:Nat):St:=⟨s.fr.map (V.rb k a),SC k a s.bx⟩
def mJ:Nat→af→St→Option St
 |_,[],s=>some s
 |j,.box k 0::l,s=>bif s.iG (HL+5000+j)&&Nat.blt k HL then mJ (j+1) l (s.rb k (HL+5000+j)) else none
 |_,_,_=>none
def jk:Nat→af→af
 |_,[]=>[]
 |j,_::l=> .box (HL+5000+j) 0::jk (j+1) l
def lD (args:af):af:=bif handed args then args.map (fun v=>match v with| .bxa _ _=> .bxa 0 []| .sl e sh (some L) _=> .sl e sh (some L) []|_=> .nilsl) else[]
noncomputable def zB (o:Bool) (E:Env) (call:Caller α) (fuel:Nat):Caller α:=fun f args K=>
 match E.P.funcs[f]? with
 |none=>none
 |some fn=>match fn.body,pu args with
  |some c,some args=>match Ee c with
   |none=>ev E call (Fv (o&& !handed args) fn c) fuel c ⟨qi fn (bg 0 args),bZ 0 args⟩ (yw E.P fn (lD args) K)
   |some (a,h,o2,b)=>match h.op,h.guard,h.dst,o2.op,o2.guard,o2.dst with
    | .makeFunc (.func g) _ _,none,some t,.defer i,none,none=>match i.callee,i.args.toList with
     | .value (.tmp j),[]=>bif t==j then
       ev E call (rdOf fn c) fuel a ⟨qi fn (bg 0 args),bZ 0 args⟩ fun e s=>match e with
        | .norm=>match yh E s.fr s.bx h with
         |some (true,.val (.fn g' d))=>bif g'==g&&Nat.blt t s.fr.length&&(Nat.blt args.length 5000&&Nat.blt g rA) then
           match mJ 0 d (s.put (some t) (.fn g d)) with
           |some k=>ev E call (Fv (o&& !handed args) fn c) fuel b k (VW (o&& !handed args) E call fuel fn g (jk 0 d) (lD args) K)
           |none=>none
          else none
         |_=>none
        |_=>none
      else none
     |_,_=>none
    |_,_,_,_,_,_=>none
  |_,_=>none
def Yl (E:Env) (f:Nat):Bool:=match E.P.funcs[f]? with
 |some fn=>(match fn.body with|some c=>U7 c|none=>false)
 |none=>false
noncomputable def OL (E:Env) (call:Caller α) (fuel:Nat):Caller α:=fun f args K=>match E.P.funcs[f]? with
 |none=>none
 |some fn=>match fn.body,pu args with
  |some c,some args=>Si E call (Fv false fn c) fuel c ⟨qi fn (bg 0 args),bZ 0 args⟩ (yw E.P fn (lD args) K)
  |_,_=>none
noncomputable def gF (E:Env) (call:Caller α) (fuel:Nat):Caller α:=fun f args K=>bif Yl E f then OL E call fuel f args K else zB true E call fuel f args K
def GX:Nat:=1000000
def yx (K:V→Option α):V→Option α
 | .qD b x y=>sel b (yx K x) (yx K y)
 |v=>K v
def KX:Nat:=2000000
noncomputable def fK (E:Env) (a:List (Nat×aO)) (fuel:Nat):Nat→Caller α
 |0,f,args,K=>match eY a (KX+f) with
  |some b=>match b args with|some (c,r)=>sel c (yx (fun v=>match v with| .keep p x=>K (.keep p x)|_=>none) r) none|none=>none
  |none=>match eY a (GX+f) with
  |some b=>match b args with|some (c,r)=>sel c (yx (fun v=>match v with| .out p x bs=>K (.out p x bs)|_=>none) r) none|none=>none
  |none=>bif Nat.blt f GX then(match eY a f with
   |some b=>match b (args.map V.qK) with|some (c,r)=>sel c (match r with| .out _ _ _=>none| .keep _ _=>none|r=>K r) none|none=>none
   |none=>none) else none
 |d+1,f,args,K=>match eY a (KX+f) with
  |some b=>match b args with|some (c,r)=>sel c (yx (fun v=>match v with| .keep p x=>K (.keep p x)|_=>none) r) none|none=>none
  |none=>match eY a (GX+f) with
  |some b=>match b args with|some (c,r)=>sel c (yx (fun v=>match v with| .out p x bs=>K (.out p x bs)|_=>none) r) none|none=>none
  |none=>bif Nat.blt f GX then(match eY a f with
   |some b=>match b (args.map V.qK) with|some (c,r)=>sel c (match r with| .out _ _ _=>none| .keep _ _=>none|r=>K r) none|none=>none
   |none=>zB false E (fK E a fuel d) fuel f (bif fV args then args else args.map V.qK) K) else none
noncomputable def Ef (o:Bool) (E:Env) (a:List (Nat×aO)) (fuel d f:Nat) (p e:List Nat) (KE:Func→Ex→St→Option α) (n:Nat) (s:St):Option α:=
 match E.P.funcs[f]? with
 |none=>none
 |some fn=>match fn.body with
  |none=>none
  |some c=>match Xu p c with
   | .loop b=>wT b (fun s K=>ev E (fK E a fuel d) (Fv o fn c) fuel b s K) (vI (Fv o fn c).tot (Fv o fn c).US fn.ntmps b) (Mm E (fK E a fuel d) (Fv o fn c) fuel fn.ntmps p c e (KE fn)) n s
   |_=>none
noncomputable def jP (E:Env) (a:List (Nat×aO)) (fuel d f:Nat) (p b:List Nat) (K:V→Option α) (n:Nat) (s:St):Option α:=
 Ef true E a fuel d f p b (fun fn=>yw E.P fn [] K) n s
noncomputable def Eg (E:Env) (a:List (Nat×aO)) (fuel d f:Nat) (args:af) (p b:List Nat) (K:V→Option α) (n:Nat) (s:St):Option α:=
 Ef (!handed args) E a fuel d f p b (fun fn=>yw E.P fn args K) n s
noncomputable def yM (E:Env) (a:List (Nat×aO)) (fuel d f g:Nat) (b args:af) (p c:List Nat) (K:V→Option α) (n:Nat) (s:St):Option α:=
 Ef (!handed args) E a fuel d f p c (fun fn=>VW (!handed args) E (fK E a fuel d) fuel fn g b args K) n s
def O6:List (Nat×V)→Nat→V
 |[],_=> .any
 |(i,v)::l,j=>bif i==j then v else O6 l j
def ny (n:Nat) (l:List (Nat×V)) (bx:List (Nat×af)):St:=⟨(List.range n).map (O6 l),bx⟩
end
open Go.RowKit
abbrev aI:=Nat→Option (List Value)
mutual
def aJ (G:aI):V→Value→Prop
 | .any,_=>True
 | .bool b,v=>v=.bool b
 | .int k n,v=>v=.int k n
 | .str l,v=>v=.string ⟨l.toArray⟩
 | .agg cs,v=>∃a:List Value,v=.agg a.toArray∧nA G cs a
 | .tup vs,v=>∃a:List Value,v=.tuple a.toArray∧nA G vs a
 | .nilsl,v=>v=.slice none 0 0
 | .sl _ sh _ xs,v=>∃p cap,v=.slice p xs.length cap∧xs.length≤cap∧(xs=[]∨ ∃b off l,p=some ⟨b,off,none⟩∧G b=some l∧bF G sh xs (l.drop off))
 | .rptr sh x off,v=>∃b o l,v=.pointer (some ⟨b,o+off,none⟩)∧G b=some l∧eP sh x=true∧ ∃u,aJ G x u∧(l.drop o).take sh.length=u.cells.toList
 | .box _ _,_=>False
 | .eptr _ _ _ _ _ _,_=>False
 | .fn f Yj,v=>v=.func (.func f) #[] #[]∧Yj=[]
 | .nilif,v=>v=.nilIface
 | .nilp,v=>v=.pointer none
 | .iface t x,v=>∃u,v=.iface t u∧aJ G x u
 | .bxa _ _,_=>False
 | .out _ _ _,_=>False
 | .qD _ _ y,v=>∃(b:Nat) (l:List Value),v=.map (some b)∧G (asInt y).toNat=some l∧l[0]? =some v
 | .old _,_=>False
 | .slz _ _ _ _ _ _ _ _ _ _,_=>False
 | .epz _ _ _ _ _,_=>False
 | .keep _ _,_=>False
def nA (G:aI):af→List Value→Prop
 |[],vs=>vs=[]
 |x::xs,vs=>∃v t,vs=v::t∧aJ G x v∧nA G xs t
def bF (G:aI) (sh:List Kd):af→List Value→Prop
 |[],_=>True
 |x::xs,cells=>eP sh x=true∧(∃u,aJ G x u∧cells.take sh.length=u.cells.toList)∧bF G sh xs (cells.drop sh.length)
end
def PW (R:V→Value→Prop) (xs:af) (vs:List Value):Prop:=xs.length=vs.length∧ ∀(i:Nat) x v,xs[i]? =some x→vs[i]? =some v→R x v
theorem PW.nil {R:V→Value→Prop}:PW R [] []:=⟨rfl,by simp⟩
theorem PW.cons {R:V→Value→Prop} {x:V} {v:Value} {xs:af} {vs:List Value} (h:R x v) (t:PW R xs vs):PW R (x::xs) (v::vs):=by
 refine⟨by simp[t.1],fun i y u a b=>?_⟩
 cases i with
 |zero=>simp at a b;subst a;subst b;exact h
 |succ i=>exact t.2 i y u (by simpa using a) (by simpa using b)
theorem PW.head {R:V→Value→Prop} {x:V} {v:Value} {xs:af} {vs:List Value} (h:PW R (x::xs) (v::vs)):R x v:=h.2 0 x v rfl rfl
theorem PW.tail {R:V→Value→Prop} {x:V} {v:Value} {xs:af} {vs:List Value} (h:PW R (x::xs) (v::vs)):PW R xs vs:=
 ⟨by simpa using h.1,fun i y u a b=>h.2 (i+1) y u (by simpa using a) (by simpa using b)⟩
theorem PW.bH {R:V→Value→Prop} {vs:List Value} (h:PW R [] vs):vs=[]:=RN h.1.symm
theorem PW.cons_inv {R:V→Value→Prop} {x:V} {xs:af} {vs:List Value} (h:PW R (x::xs) vs): ∃v t,vs=v::t∧R x v∧PW R xs t:=by
 cases vs with
 |nil=>exact absurd h.1 (by simp)
 |cons v t=>exact⟨v,t,rfl,h.head,h.tail⟩
theorem PW.mono {R S:V→Value→Prop} {xs:af} {vs:List Value} (h:PW R xs vs) (a: ∀x∈xs,∀v,R x v→S x v):PW S xs vs:=
 ⟨h.1,fun i x v hx b=>a x (Bz hx) v (h.2 i x v hx b)⟩
theorem PW.get {R:V→Value→Prop} {xs:af} {vs:List Value} (h:PW R xs vs) {i:Nat} {x:V} (hx:xs[i]? =some x): ∃v,vs[i]? =some v∧R x v:=by
 have a:i<vs.length:=by rw[←h.1];exact(List.getElem?_eq_some_iff.1 hx).1
 exact⟨vs[i],gQ a,h.2 i x _ hx (gQ a)⟩
theorem PW.set {R:V→Value→Prop} {xs:af} {vs:List Value} (h:PW R xs vs) (i:Nat) {x:V} {v:Value} (hx:R x v):PW R (xs.set i x) (vs.set i v):=by
 refine⟨by simp[h.1],fun j y u a b=>?_⟩;rw[List.getElem?_set] at a b;by_cases e:i=j
 ·subst e
  simp only[if_true] at a b;split at a<;>split at b<;>simp_all
 ·rw[if_neg e] at a b
  exact h.2 j y u a b
theorem PW.append {R:V→Value→Prop} {xs ys:af} {vs us:List Value} (h:PW R xs vs) (k:PW R ys us):PW R (xs++ys) (vs++us):=by
 refine⟨by simp[h.1,k.1],fun i x v hx a=>?_⟩;by_cases b:i<xs.length
 ·rw[Xh b] at hx
  rw[Xh (by rw[←h.1];exact b)] at a;exact h.2 i x v hx a
 ·rw[Zu (by omega)] at hx
  rw[Zu (by rw[←h.1];omega),←h.1] at a;exact k.2 _ x v hx a
theorem PW.drop {R:V→Value→Prop} {xs:af} {vs:List Value} (h:PW R xs vs) (n:Nat):PW R (xs.drop n) (vs.drop n):=
 ⟨by simp[h.1],fun i x v hx a=>h.2 (n+i) x v (by simpa using hx) (by simpa using a)⟩
theorem PW.take {R:V→Value→Prop} {xs:af} {vs:List Value} (h:PW R xs vs) (n:Nat):PW R (xs.take n) (vs.take n):=by
 refine⟨by simp[h.1],fun i x v hx a=>?_⟩;rw[Iw] at hx a;split at hx
 ·rename_i b;rw[if_pos b] at a;exact h.2 i x v hx a
 ·cases hx
theorem dI {G:aI}: ∀(xs:af) (vs:List Value),nA G xs vs↔PW (aJ G) xs vs
 |[],vs=>by
  unfold nA;exact⟨fun h=>by rw[h];exact .nil,fun h=>h.bH⟩
 |x::xs,vs=>by
  unfold nA;constructor
  ·rintro⟨v,t,rfl,h,c⟩
   exact .cons h ((dI xs t).1 c)
  ·intro h
   obtain⟨v,t,rfl,b,a⟩:=h.cons_inv;exact⟨v,t,rfl,b,(dI xs t).2 a⟩
def jB (G G':aI):Prop:=∀b l,G b=some l→ ∃a,G' b=some a∧l<+:a
theorem jB.refl (G:aI):jB G G:=fun b l h=>⟨l,h,IC l⟩
theorem take_prefix {l a:List Value} {n:Nat} {u:List Value} (h:l.take n=u) (b:u.length=n) (c:l<+:a):a.take n=u:=by
 obtain⟨t,rfl⟩:=c;have:n≤l.length:=by rw[←h] at b;simp at b;omega
 rw[List.take_append_of_le_length this,h]
theorem pV {l a:List Value} (n:Nat) (c:l<+:a) (b:n≤l.length):l.drop n<+:a.drop n:=by
 obtain⟨t,rfl⟩:=c;rw[List.drop_append_of_le_length b];exact List.prefix_append _ _
theorem gU: ∀(sh:List Kd) (vs:af),bE sh vs=true→sh.length=vs.length
 |[],[],_=>rfl
 |[],_::_,h=>by simp[bE] at h
 |_::_,[],h=>by simp[bE] at h
 |k::sh,v::vs,h=>by
  simp only[bE,av] at h;split at h
  ·simp[gU sh vs h]
  ·cases h
theorem jT {G:aI} {x:V} {u:Value} (h:aJ G x u) (hx:x≠.any):x.cells.length=u.cells.size∧PW (aJ G) x.cells u.cells.toList:=by
 cases x with
 |agg g=>
  unfold aJ at h;obtain⟨a,rfl,h⟩:=h;rw[dI] at h;exact⟨by simp[V.cells,Value.cells,h.1],by simpa[V.cells,Value.cells] using h⟩
 |any=>exact absurd rfl hx
 |bool b=>unfold aJ at h;subst h;exact⟨rfl,.cons (by unfold aJ;rfl) .nil⟩
 |int k n=>unfold aJ at h;subst h;exact⟨rfl,.cons (by unfold aJ;rfl) .nil⟩
 |str l=>unfold aJ at h;subst h;exact⟨rfl,.cons (by unfold aJ;rfl) .nil⟩
 |nilsl=>unfold aJ at h;subst h;exact⟨rfl,.cons (by unfold aJ;rfl) .nil⟩
 |tup vs=>have d:=h;unfold aJ at d;obtain⟨a,rfl,_⟩:=d;exact⟨rfl,.cons h .nil⟩
 |sl e sh o xs=>have d:=h;unfold aJ at d;obtain⟨p,cap,rfl,_⟩:=d;exact⟨rfl,.cons h .nil⟩
 |rptr sh x off=>have d:=h;unfold aJ at d;obtain⟨b,o,l,rfl,_⟩:=d;exact⟨rfl,.cons h .nil⟩
 |box k o=>unfold aJ at h;exact h.elim
 |eptr _ _ _ _ _ _=>unfold aJ at h;exact h.elim
 |fn f c=>have d:=h;unfold aJ at d;obtain⟨rfl,_⟩:=d;exact⟨rfl,.cons h .nil⟩
 |nilif=>have d:=h;unfold aJ at d;subst d;exact⟨rfl,.cons h .nil⟩
 |nilp=>have d:=h;unfold aJ at d;subst d;exact⟨rfl,.cons h .nil⟩
 |iface t x=>have d:=h;unfold aJ at d;obtain⟨u,rfl,_⟩:=d;exact⟨rfl,.cons h .nil⟩
 |bxa _ _=>unfold aJ at h;exact h.elim
 |out _ _ _=>unfold aJ at h;exact h.elim
 |qD _ _ _=>have d:=h;unfold aJ at d;obtain⟨b,l,rfl,_⟩:=d;exact⟨rfl,.cons h .nil⟩
 |old _=>unfold aJ at h;exact h.elim
 |slz _ _ _ _ _ _ _ _ _ _=>unfold aJ at h;exact h.elim
 |epz _ _ _ _ _=>unfold aJ at h;exact h.elim
 |keep _ _=>unfold aJ at h;exact h.elim
theorem jy {sh:List Kd}:eP sh .any=false:=by
 unfold eP V.cells
 cases sh with
 |nil=>rfl
 |cons k l=>cases k<;>rfl
theorem lm {G:aI} {sh:List Kd} {x:V} {u:Value} (a:eP sh x=true) (h:aJ G x u):u.cells.toList.length=sh.length:=by
 have hx:x≠.any:=fun e=>by rw[e,jy] at a;cases a
 have c:=(jT h hx).1;have b:=gU _ _ a;rw[yG,←c,b]
theorem fZ {G:aI} {sh:List Kd} {cells:List Value}:bF G sh [] cells:=by unfold bF;trivial
mutual
theorem fI {G G':aI} (hm:jB G G'): ∀(x:V) (v:Value),aJ G x v→aJ G' x v
 | .any,_,_=>by unfold aJ;trivial
 | .bool b,v,h=>by unfold aJ at h⊢;exact h
 | .int k n,v,h=>by unfold aJ at h⊢;exact h
 | .str l,v,h=>by unfold aJ at h⊢;exact h
 | .agg cs,v,h=>by
  unfold aJ at h⊢;obtain⟨a,rfl,h⟩:=h;exact⟨a,rfl,vQ hm cs a h⟩
 | .tup vs,v,h=>by
  unfold aJ at h⊢;obtain⟨a,rfl,h⟩:=h;exact⟨a,rfl,vQ hm vs a h⟩
 | .nilsl,v,h=>by unfold aJ at h⊢;exact h
 | .sl e sh o xs,v,h=>by
  unfold aJ at h⊢;obtain⟨p,cap,rfl,hcap,h⟩:=h;refine⟨p,cap,rfl,hcap,?_⟩;rcases h with h|⟨b,off,l,rfl,hG,h⟩
  ·exact .inl h
  ·obtain⟨l',hl',hp⟩:=hm b l hG
   by_cases hx:xs=[]
   ·exact .inl hx
   ·refine .inr ⟨b,off,l',rfl,hl',?_⟩
    by_cases hoff:off≤l.length
    ·exact gy hm sh xs _ _ h (pV off hp hoff)
    ·have:l.drop off=[]:=XH (by omega)
     rw[this] at h;exact gy hm sh xs _ _ h List.nil_prefix
 | .rptr sh x off,v,h=>by
  unfold aJ at h⊢;obtain⟨b,o,l,rfl,hG,hf,u,hu,hc⟩:=h;obtain⟨l',hl',hp⟩:=hm b l hG;refine⟨b,o,l',rfl,hl',hf,u,fI hm x u hu,?_⟩;have hlen:=lm hf hu;by_cases ho:o≤l.length
  ·exact take_prefix hc hlen (pV o hp ho)
  ·have h0:l.drop o=[]:=XH (by omega)
   rw[h0] at hc;exact take_prefix hc hlen List.nil_prefix
 | .box _ _,_,h=>by unfold aJ at h;exact h.elim
 | .eptr _ _ _ _ _ _,_,h=>by unfold aJ at h;exact h.elim
 | .fn _ _,_,h=>by unfold aJ at h⊢;exact h
 | .nilif,v,h=>by unfold aJ at h⊢;exact h
 | .nilp,v,h=>by unfold aJ at h⊢;exact h
 | .iface t x,v,h=>by
  unfold aJ at h⊢;obtain⟨u,rfl,h⟩:=h;exact⟨u,rfl,fI hm x u h⟩
 | .bxa _ _,_,h=>by unfold aJ at h;exact h.elim
 | .out _ _ _,_,h=>by unfold aJ at h;exact h.elim
 | .qD _ _ y,v,h=>by
  unfold aJ at h⊢;obtain⟨b,l,h1,h2,h3⟩:=h;obtain⟨l',h4,t,rfl⟩:=hm _ l h2;exact⟨b,l++t,h1,h4,by rw[Xh (List.getElem?_eq_some_iff.1 h3).1];exact h3⟩
 | .old _,_,h=>by unfold aJ at h;exact h.elim
 | .slz _ _ _ _ _ _ _ _ _ _,_,h=>by unfold aJ at h;exact h.elim
 | .epz _ _ _ _ _,_,h=>by unfold aJ at h;exact h.elim
 | .keep _ _,_,h=>by unfold aJ at h;exact h.elim
theorem vQ {G G':aI} (hm:jB G G'): ∀(xs:af) (vs:List Value),nA G xs vs→nA G' xs vs
 |[],_,h=>by unfold nA at h⊢;exact h
 |x::xs,vs,h=>by
  unfold nA at h⊢;obtain⟨v,t,rfl,h1,h2⟩:=h;exact⟨v,t,rfl,fI hm x v h1,vQ hm xs t h2⟩
theorem gy {G G':aI} (hm:jB G G') (sh:List Kd): ∀(xs:af) (c c':List Value),bF G sh xs c→c<+:c'→bF G' sh xs c'
 |[],_,_,_,_=>by unfold bF;trivial
 |x::xs,c,c',h,hp=>by
  unfold bF at h⊢;obtain⟨hf,⟨u,hu,hc⟩,ht⟩:=h;have hlen:=lm hf hu;refine⟨hf,⟨u,fI hm x u hu,take_prefix hc hlen hp⟩,gy hm sh xs _ _ ht (pV _ hp ?_)⟩;rw[←hc] at hlen;simp at hlen;omega
end
def V.plain:V→Bool
 | .eptr _ _ _ _ _ _=>false
 | .box .. =>false
 | .fn _ a=>a.isEmpty
 | .sl _ _ (some _) _=>false
 | .tup _=>false
 | .bxa _ _=>false
 | .out _ _ _=>false
 | .old _=>false
 | .slz _ _ _ _ _ _ _ _ _ _=>false
 | .epz _ _ _ _ _=>false
 | .keep _ _=>false
 |_=>true
structure Gh where
 G:aI
 O:Nat→Option (Value×Nat×Nat)
 β:Nat→Option Nat
 G1:aI
 C:Nat→Option (List Value)
def oW (G:aI) (sh:List Kd) (xs:af) (v:Value):Prop:=
 (v=.slice none 0 0∧xs=[])∨ ∃b cap l,v=.slice (some ⟨b,0,none⟩) xs.length cap∧xs.length≤cap∧G b=some l∧l.length=xs.length*sh.length∧bF G sh xs l
def nG (g:Gh) (l:List Value) (d:Nat) (o2:Option Nat) (i:Int) (c e:Nat) (a:List Kd) (ys:af):Prop:=
 match o2 with
 |none=>True
 |some L2=>∃b,g.O L2=some (b,e,a.length)∧oW g.G a ys b∧ ∀u,0≤i→l[i.toNat*d+c]? =some u→u=b
def zG (g:Gh) (sh:List Kd) (xs:af) (v:Value) (l:List Value):Prop:=((v=.slice none 0 0∧xs=[])∨ ∃b cap,v=.slice (some ⟨b,0,none⟩) xs.length cap)∧l.length=xs.length*sh.length∧bF g.G sh xs l
def aX (g:Gh):V→Value→Prop
 | .box k off,v=>∃b,g.β k=some b∧v=.pointer (some ⟨b,off,none⟩)
 | .sl e sh (some L) xs,v=>g.O L=some (v,e,sh.length)∧oW g.G sh xs v
 | .eptr L e sh xs i off,v=>∃a b,g.O L=some (a,e,sh.length)∧oW g.G sh xs a∧0≤i∧i<(xs.length:Int)∧a.ownBlock=some b∧v=.pointer (some ⟨b,i.toNat*sh.length+off,none⟩)
 | .old x,v=>aJ g.G1 x v∧aJ g.G x v∧x.plain=true
 | .slz L e sh xs o2 i c h f ys,v=>∃l,g.O L=some (v,e,sh.length)∧g.C L=some l∧zG g sh xs v l∧nG g l sh.length o2 i c h f ys
 | .epz L e d i off,v=>∃a b l,g.O L=some (a,e,d)∧g.C L=some l∧0≤i∧i.toNat*d+d≤l.length∧a.ownBlock=some b∧v=.pointer (some ⟨b,i.toNat*d+off,none⟩)
 |x,v=>aJ g.G x v
def FK (p:Value):Value→Value
 | .int _ n=> .func (.func n.toNat) #[p] #[]
 |v=>v
def BI (f:Nat) (a:List Value):Value:=bif f==rA&& !a.isEmpty then .agg a.toArray else bif f==BM then(match a with
 | .int _ n::l=> .func (.func n.toNat) l.toArray #[]
 |_=> .func (.func f) #[] a.toArray) else bif f==AM then(match a with
 |p::l=> .agg (l.map (FK p)).toArray
 |[]=> .func (.func f) #[] #[]) else .func (.func f) #[] a.toArray
theorem tL {f:Nat} {a:List Value} (h:Nat.blt f rA=true):BI f a=.func (.func f) #[] a.toArray:=by
 unfold BI;rw[zm] at h;have h:f<1000000:=h;have b:(f==rA)=false:=by rw[oZ];show f≠1000000;omega
 have c:(f==BM)=false:=by rw[oZ];show f≠2000000;omega
 have h3:(f==AM)=false:=by rw[oZ];show f≠3000000;omega
 rw[b,c,h3];rfl
theorem z8 (f:Nat):BI f []=.func (.func f) #[] #[]:=by
 unfold BI
 cases f==rA<;>cases f==BM<;>cases f==AM<;>rfl
theorem KH (k:IntKind) (n:Int) (a:List Value):BI BM (.int k n::a)=.func (.func n.toNat) a.toArray #[]:=rfl
theorem KI (p:Value) (l:List Value):BI AM (p::l)=.agg (l.map (FK p)).toArray:=rfl
theorem FQ {a:List Value} (h:a≠[]):BI rA a=.agg a.toArray:=by
 unfold BI
 cases a with
 |nil=>exact absurd rfl h
 |cons x a=>rfl
def aB (g:Gh):V→Value→Prop
 | .tup vs,v=>∃a:List Value,v=.tuple a.toArray∧PW (aX g) vs a
 | .fn f b,v=>∃a:List Value,v=BI f a∧PW (aX g) b a
 |x,v=>aX g x v
def DL (g:Gh) (x:V) (v:Value):Prop:=aB g x v∨aX g x v
structure Ext (g g':Gh):Prop where
 G:jB g.G g'.G
 O: ∀L x,g.O L=some x→g'.O L=some x
 OG: ∀L v e sz b,g.O L=some (v,e,sz)→v.ownBlock=some b→g'.G b=g.G b
 β: ∀k b,g.β k=some b→g'.β k=some b
 G1:g'.G1=g.G1
 C: ∀L x,g.O L=some x→g'.C L=g.C L
theorem Ext.refl (g:Gh):Ext g g:=⟨.refl _,fun _ _ h=>h,fun _ _ _ _ _ _ _=>rfl,fun _ _ h=>h,rfl,fun _ _ _=>rfl⟩
theorem tX {G G':aI} {sh:List Kd} {xs:af} {v:Value} (h:oW G sh xs v) (f:jB G G') (d: ∀b,v.ownBlock=some b→G' b=G b):oW G' sh xs v:=by
 rcases h with h|⟨b,cap,l,rfl,a,e,hl,c⟩
 ·exact .inl h
 ·exact .inr ⟨b,cap,l,rfl,a,by rw[d b rfl];exact e,hl,gy f sh xs _ _ c (IC _)⟩
theorem SS {g g':Gh} (a:jB g.G g'.G) {sh:List Kd} {xs:af} {v:Value} {l:List Value} (h:zG g sh xs v l):zG g' sh xs v l:=⟨h.1,h.2.1,gy a sh xs _ _ h.2.2 (IC _)⟩
theorem My {g g':Gh} (d:Ext g g') {l:List Value} {e:Nat} {o2:Option Nat} {i:Int} {c j:Nat} {a:List Kd} {ys:af} (h:nG g l e o2 i c j a ys):nG g' l e o2 i c j a ys:=by
 cases o2 with
 |none=>trivial
 |some L2=>
  obtain⟨m,f,k,h3⟩:=h;exact⟨m,d.O _ _ f,tX k d.G fun b n=>d.OG L2 _ _ _ b f n,h3⟩
theorem Aa {g g':Gh} (a:Ext g g') {x:V} {v:Value} (h:aX g x v):aX g' x v:=by
 cases x with
 |box k off=>obtain⟨b,j,rfl⟩:=h;exact⟨b,a.β k b j,rfl⟩
 |eptr L e sh xs i off=>obtain⟨n,b,d,f,h3,m,p,r⟩:=h;exact⟨n,b,a.O L _ d,tX f a.G fun b j=>a.OG L _ _ _ b d j,h3,m,p,r⟩
 |sl e sh o xs=>
  cases o with
  |none=>exact fI a.G _ _ h
  |some L=>obtain⟨d,f⟩:=h;exact⟨a.O L _ d,tX f a.G fun b j=>a.OG L _ _ _ b d j⟩
 |old x=>obtain⟨d,f,h3⟩:=h;exact⟨by rw[a.G1];exact d,fI a.G _ _ f,h3⟩
 |slz L e sh xs o2 i c s q ys=>obtain⟨l,d,f,h3,m⟩:=h;exact⟨l,a.O L _ d,(a.C L _ d).trans f,SS a.G h3,My a m⟩
 |epz L e t i off=>obtain⟨n,b,l,d,f,h3⟩:=h;exact⟨n,b,l,a.O L _ d,(a.C L _ d).trans f,h3⟩
 |_=>exact fI a.G _ _ h
theorem nI {g g':Gh} (b:Ext g g') {x:V} {v:Value} (h:aB g x v):aB g' x v:=by
 cases x with
 |tup vs=>obtain⟨a,rfl,h⟩:=h;exact⟨a,rfl,h.mono fun _ _ _=>Aa b⟩
 |fn f c=>obtain⟨a,rfl,h⟩:=h;exact⟨a,rfl,h.mono fun _ _ _=>Aa b⟩
 |_=>simp only[aB] at h⊢;exact Aa b h
theorem lM {G:aI} {e:Nat} {o:Option Nat} {sh:List Kd} {xs:af} {v:Value} (h:oW G sh xs v):aJ G (.sl e sh o xs) v:=by
 unfold aJ;rcases h with⟨rfl,rfl⟩|⟨b,cap,l,rfl,a,d,hl,c⟩
 ·exact⟨none,0,rfl,iA _,.inl rfl⟩
 ·exact⟨some ⟨b,0,none⟩,cap,rfl,a,.inr ⟨b,0,l,rfl,d,by simpa using c⟩⟩
theorem jU {G:aI} {e:Nat} {o o':Option Nat} {sh:List Kd} {xs:af} {v:Value} (h:aJ G (.sl e sh o xs) v):aJ G (.sl e sh o' xs) v:=by
 unfold aJ at h⊢;exact h
theorem vR {g:Gh} {x y:V} {v:Value} (h:aX g x v) (b:x.deep=some y):aJ g.G y v:=by
 cases x with
 |sl e sh o xs=>
  simp only[V.deep,aF] at b;subst b
  cases o with
  |none=>exact h
  |some L=>exact lM h.2
 |any=>simp[V.deep] at b
 |tup vs=>simp[V.deep] at b
 |box k o=>simp[V.deep] at b
 |eptr _ _ _ _ _ _=>simp[V.deep] at b
 |slz _ _ _ _ _ _ _ _ _ _=>simp[V.deep] at b
 |epz _ _ _ _ _=>simp[V.deep] at b
 |keep _ _=>simp[V.deep] at b
 |fn f c=>
  cases c with
  |cons a c=>simp[V.deep] at b
  |nil=>simp only[V.deep,aF] at b;subst b;exact h
 |bxa _ _=>simp[V.deep] at b
 |out _ _ _=>simp[V.deep] at b
 |qD _ _ _=>simp[V.deep] at b
 |old _=>simp[V.deep] at b
 |_=>simp only[V.deep,aF] at b;subst b;exact h
theorem lq {g:Gh} {x y:V} {v:Value} (h:aB g x v) (b:x.deep=some y):aJ g.G y v:=by
 cases x with
 |tup vs=>simp[V.deep] at b
 |fn f c=>
  cases c with
  |cons a c=>simp[V.deep] at b
  |nil=>
   simp only[V.deep,aF] at b;subst b;obtain⟨a,rfl,d⟩:=h;rw[d.bH];unfold aJ;exact⟨z8 f,rfl⟩
 |_=>simp only[aB] at h;exact vR h b
theorem bA {g:Gh} {x:V} {v:Value} (hx:x.plain=true) (h:aJ g.G x v):aB g x v:=by
 cases x with
 |sl e sh o xs=>cases o with
  |none=>exact h
  |some L=>simp[V.plain] at hx
 |box k o=>simp[V.plain] at hx
 |eptr _ _ _ _ _ _=>simp[V.plain] at hx
 |slz _ _ _ _ _ _ _ _ _ _=>simp[V.plain] at hx
 |epz _ _ _ _ _=>simp[V.plain] at hx
 |keep _ _=>simp[V.plain] at hx
 |fn f c=>
  unfold aJ at h;obtain⟨rfl,rfl⟩:=h;exact⟨[],(z8 f).symm,.nil⟩
 |tup vs=>simp[V.plain] at hx
 |bxa _ _=>simp[V.plain] at hx
 |out _ _ _=>simp[V.plain] at hx
 |qD _ _ _=>exact h
 |old _=>simp[V.plain] at hx
 |_=>exact h
theorem iI {x y:V} (a:x.deep=some y):y.plain=true:=by
 cases x with
 |fn f c=>cases c<;>simp[V.deep] at a;subst a;rfl
 |_=>simp[V.deep] at a<;>subst a<;>rfl
theorem Ab {g:Gh}: ∀(xs ys:af) (vs:List Value),V.qN xs=some ys→PW (aB g) xs vs→PW (aJ g.G) ys vs
 |[],ys,vs,h,c=>by
  simp[V.qN] at h;subst h;rw[c.bH];exact .nil
 |x::xs,ys,vs,h,c=>by
  obtain⟨v,t,rfl,i,d⟩:=c.cons_inv;simp only[V.qN] at h;split at h
  ·rename_i a b f e
   simp only[aF] at h;subst h;exact .cons (lq i f) (Ab xs b t e d)
  ·cases h
theorem aL {g:Gh} {x:V} {v:Value} (a:x.single=true) (h:aB g x v):aX g x v:=by
 cases x with
 |tup vs=>cases a
 |fn f c=>cases a
 |_=>simp only[aB] at h;exact h
theorem aW {g:Gh} {x:V} {v:Value} (a:x.single=true) (h:aX g x v):aB g x v:=by
 cases x with
 |tup vs=>cases a
 |fn f c=>cases a
 |_=>simp only[aB];exact h
def sU (G:aI) (w:World):Prop:=∀b l,G b=some l→ ∃c e fr,w.heap[b]? =some (.cells c e fr)∧c.toList.take l.length=l
structure Own where
 m:Nat→Prop
 n:Nat
 β:Nat→Option Nat
 df:List Deferred
def Own.ok (B:Own) (L b:Nat):Prop:=B.m b∧(L<HL→B.n≤b)
def kz (g:Gh) (L b:Nat) (a:Array Value) (l:List Value):Prop:=
 match g.C L with
 |none=>g.G b=some l
 |some c=>g.G b=none∧c=l∧a.toList.take l.length=l
theorem kz.known {g:Gh} {L b:Nat} {a:Array Value} {l c:List Value} (h:kz g L b a l) (d:g.G b=some c):c=l∧g.C L=none:=by
 unfold kz at h;split at h
 ·rename_i e;rw[d] at h;exact⟨Option.some.inj h,e⟩
 ·rw[d] at h;cases h.1
theorem kz.nested {g:Gh} {L b:Nat} {a:Array Value} {l c:List Value} (h:kz g L b a l) (d:g.C L=some c):g.G b=none∧c=l∧a.toList.take l.length=l:=by
 unfold kz at h;rw[d] at h;exact h
theorem kz.mk0 {g:Gh} {L b:Nat} {a:Array Value} {l:List Value} (c:g.C L=none) (d:g.G b=some l):kz g L b a l:=by
 unfold kz;rw[c];exact d
theorem kz.mk1 {g:Gh} {L b:Nat} {a:Array Value} {l:List Value} (c:g.C L=some l) (e:g.G b=none) (d:a.toList.take l.length=l):kz g L b a l:=by
 unfold kz;rw[c];exact⟨e,rfl,d⟩
theorem kz.keep {g g':Gh} {L b:Nat} {a:Array Value} {l:List Value} (h:kz g L b a l) (c:g'.C L=g.C L) (d:g'.G b=g.G b):kz g' L b a l:=by
 unfold kz at h⊢;rw[c,d];exact h
def E9 (B:Own) (g:Gh) (w:World):Prop:=
 (∀L v e c,g.O L=some (v,e,c)→0<c∧(v=.slice none 0 0∨ ∃b n cap a l,v=.slice (some ⟨b,0,none⟩) n cap∧B.ok L b∧w.heap[b]? =some (.cells a e (0,0))∧n≤cap∧cap≤maxLen∧a.size=cap*c∧kz g L b a l∧l.length=n*c))∧
 (∀L L' v f e h c d b,g.O L=some (v,e,c)→g.O L'=some (f,h,d)→v.ownBlock=some b→f.ownBlock=some b→L=L')
theorem I1 {p q:Bool} {α:Type} {x:Option α} {r:α} (h:(bif p&&aS q then none else x)=some r):x=some r∧(p=true→q=true):=by
 cases p with
 |false=>exact⟨h,fun h=>by cases h⟩
 |true=>cases q with
  |false=>cases h
  |true=>exact⟨h,fun _=>rfl⟩
theorem MC {f:V→V} (d: ∀x,f x=.nilp→x=.nilp) {c:af} (h:iF (c.map f)=true):iF c=true:=by
 match c,h with
 |a::b::l,h=>
  cases e:f a with
  |nilp=>rw[d a e];rfl
  |_=>rw[yJ,yJ,e] at h;cases h
 |[],h=>cases h
 |[a],h=>
  rw[yJ,List.map_nil] at h
  cases e:f a<;>rw[e] at h<;>cases h
theorem jf {P:Program} {e:TypeId} {f:V→V} {a:af} (b: ∀x,f x=.nilp→x=.nilp) (q:iF a=true→lH P e a.length=true):iF (a.map f)=true→lH P e (a.map f).length=true:=fun h=>by
 rw[vk];exact q (MC b h)
theorem P5 {old vs:af} {off:Nat} (h:off+vs.length≤old.length):(over old off vs).length=old.length:=by
 unfold over;rw[nY,nY,B6,zk];omega
theorem ME (L:Nat): ∀x:V,x.kill L=.nilp→x=.nilp:=by
 intro x h
 cases x with
 |nilp=>rfl
 |sl e sh o xs=>
  cases o with
  |none=>cases h
  |some L'=>
   have h:(bif L==L' then V.sl e sh none xs else .sl e sh (some L') xs)=.nilp:=h
   cases a:L==L'<;>rw[a] at h<;>cases h
 |eptr L' e sh xs i off=>
  have h:(bif L==L' then V.any else .eptr L' e sh xs i off)=.nilp:=h
  cases a:L==L'<;>rw[a] at h<;>cases h
 |slz L' e sh xs o2 i c f b ys=>
  have h:(bif L==L' then V.any else .slz L' e sh xs (Kr L o2) i c f b ys)=.nilp:=h
  cases a:L==L'<;>rw[a] at h<;>cases h
 |epz L' e d i off=>
  have h:(bif L==L' then V.any else .epz L' e d i off)=.nilp:=h
  cases a:L==L'<;>rw[a] at h<;>cases h
 |_=>cases h
theorem Jo (L i:Nat): ∀x:V,x.canon L i=.nilp→x=.nilp:=by
 intro x h
 cases x with
 |nilp=>rfl
 |sl e sh o xs=>
  cases o with
  |none=>cases h
  |some L'=>
   have h:(bif L==L' then V.sl e sh (some i) xs else .sl e sh (some L') xs)=.nilp:=h
   cases a:L==L'<;>rw[a] at h<;>cases h
 |eptr L' e sh xs j off=>
  have h:(bif L==L' then V.eptr i e sh xs j off else .eptr L' e sh xs j off)=.nilp:=h
  cases a:L==L'<;>rw[a] at h<;>cases h
 |_=>cases h
theorem P6 (L e:Nat) (k:List Kd) (ys:af): ∀x:V,x.upd L e k ys=.nilp→x=.nilp:=by
 intro x h
 cases x with
 |nilp=>rfl
 |sl b sh o xs=>
  cases o with
  |none=>cases h
  |some L'=>
   have h:(bif L==L' then V.sl e k (some L) ys else .sl b sh (some L') xs)=.nilp:=h
   cases a:L==L'<;>rw[a] at h<;>cases h
 |eptr L' b sh xs i off=>
  have h:(bif L==L' then V.eptr L e k ys i off else .eptr L' b sh xs i off)=.nilp:=h
  cases a:L==L'<;>rw[a] at h<;>cases h
 |_=>cases h
theorem SV (k a:Nat): ∀x:V,x.rb k a=.nilp→x=.nilp:=by
 intro x h
 cases x with
 |nilp=>rfl
 |box j off=>
  have h:(bif j==k then V.box a off else .box j off)=.nilp:=h
  cases b:j==k<;>rw[b] at h<;>cases h
 |_=>cases h
theorem Ac (mb ml:List (Nat×Nat)): ∀x:V,x.ren mb ml=.nilp→x=.nilp:=by
 intro x h
 cases x with
 |nilp=>rfl
 |sl e sh o xs=>
  cases o with
  |none=>cases h
  |some L=>cases h
 |box k off=>
  have h:(match lk mb k with|some k'=>V.box k' off|none=> .any)=.nilp:=h
  cases b:lk mb k<;>rw[b] at h<;>cases h
 |fn f a=>
  have h:(match a with|[]=>V.fn f []|_=> .any)=.nilp:=h
  cases a<;>cases h
 |slz L e sh xs o2 i c g d ys=>
  have h:(match lk ml L with|some L'=>V.slz L' e sh xs (o2.bind (lk ml)) i c g d ys|none=> .any)=.nilp:=h
  cases b:lk ml L<;>rw[b] at h<;>cases h
 |old x=>
  have h:(bif x.dO then x else .any)=.nilp:=h
  cases b:x.dO<;>rw[b] at h
  ·cases h
  ·have h:x=.nilp:=h
   subst h
   cases b
 |_=>cases h
theorem P7 (L:Nat): ∀x:V,x.Kg L=.nilp→x=.nilp:=by
 intro x h
 cases x with
 |nilp=>rfl
 |slz L' e sh xs o2 i c f a ys=>
  have h:(bif L==L' then V.sl e sh (some L) xs else .slz L' e sh xs o2 i c f a ys)=.nilp:=h
  cases b:L==L'<;>rw[b] at h<;>cases h
 |epz L' e d i off=>
  have h:(bif L==L' then V.any else .epz L' e d i off)=.nilp:=h
  cases b:L==L'<;>rw[b] at h<;>cases h
 |_=>cases h
theorem MF (L e:Nat) (sh:List Kd) (xs:af) (i:Int) (c L3 k:Nat) (a:List Kd) (ys:af): ∀x:V,x.vC L e sh xs i c L3 k a ys=.nilp→x=.nilp:=by
 intro x h
 cases x with
 |nilp=>rfl
 |slz L' o j g o2 n l f b d=>
  have h:(bif L==L' then V.slz L e sh xs (some L3) i c k a ys else .slz L' o j g o2 n l f b d)=.nilp:=h
  cases m:L==L'<;>rw[m] at h<;>cases h
 |_=>cases h
def Oe (P:Program) (B:Own) (g:Gh) (bx:List (Nat×af)) (w:World):Prop:=
 (∀k a,aj bx k=some a→ ∃b c e,g.β k=some b∧B.m b∧w.heap[b]? =some (.cells c e (0,0))∧PW (aB g) a c.toList∧(∀u∈c.toList,u.oneCell'=true)∧g.G b=none∧(iF a=true→lH P e a.length=true))∧
 (∀k f a d,aj bx k=some a→aj bx f=some d→g.β k=g.β f→k=f)
structure O7 (es:af) (ms:Array MapEntry) (ck:Nat):Prop where
 look: ∀n:Int,BH es n=true→ ∃j,Instr.findNow (.int .i64) (.int .i64 n) ms.toList 0=some (some (j,.string ⟨(jL es n).toArray⟩))
 perm: ∃ps:List (Int×ah),es=ps.map (fun p=> .agg [.int .i64 p.1,.str p.2])∧(ms.toList.map fun x=>(x.key,x.val)).Perm (ps.map fun p=>(Value.int .i64 p.1,Value.string ⟨p.2.toArray⟩))
 born:(∀x∈ms.toList,x.born<ck)∧(ms.toList.map (·.born)).Nodup
def Mr (G:aI) (w:World) (n:Nat):V→Prop
 | .rptr _ (.qD _ (.agg d) _) _=>∃l b a c,G n=some l∧l[0]? =some (.map (some b))∧w.heap[b]? =some (.map a c)∧O7 d a c
 |_=>True
def jQ (E:Env) (G:aI) (w:World):Prop:=∀n v,E.glob n=some v→v.plain=true∧aJ G v (.pointer (some ⟨n,0,none⟩))∧Mr G w n v
def zP (w w':World):Prop:=∀(b:Nat) (a:Array MapEntry) (c:Nat),w.heap[b]? =some (.map a c)→w'.heap[b]? =some (.map a c)
theorem uF {w w':World} (h:Below w.heap.size w w'):zP w w':=fun b d c a=>(h.block b (Array.getElem?_eq_some_iff.1 a).1).trans a
theorem oD {w w':World} {j:Nat} {c:Array Value} {e:TypeId} {fr:Nat×Nat} (d:w.heap[j]? =some (.cells c e fr)) (h: ∀b,b≠j→b<w.heap.size→w'.heap[b]? =w.heap[b]?):zP w w':=fun b g f a=>by
 refine(h b (fun e=>?_) (Array.getElem?_eq_some_iff.1 a).1).trans a;rw[e,d] at a;cases a
theorem Mr.more {G G':aI} {w w':World} (e:jB G G') (d:zP w w') {n:Nat}: ∀{v:V},Mr G w n v→Mr G' w' n v:=by
 intro v h;unfold Mr at h⊢;split at h
 ·obtain⟨l,b,c,j,g,a,h3,f⟩:=h
  obtain⟨k,i,t,rfl⟩:=e _ l g;exact⟨l++t,b,c,j,i,by rw[Xh (List.getElem?_eq_some_iff.1 a).1];exact a,d _ _ _ h3,f⟩
 ·trivial
theorem jQ.more {E:Env} {G G':aI} {w w':World} (h:jQ E G w) (b:jB G G') (c:zP w w'):jQ E G' w':=fun n v a=>⟨(h n v a).1,fI b _ _ (h n v a).2.1,(h n v a).2.2.more b c⟩
structure jm (m:Nat→Prop) (w w':World):Prop where
 gN:Below 0 w w'
 row: ∀b,¬m b→w'.heap[b]? =w.heap[b]?
 map:zP w w'
theorem jm.refl (m:Nat→Prop) (w:World):jm m w w:=⟨.refl _ _,fun _ _=>rfl,fun _ _ _ h=>h⟩
theorem jm.trans {m:Nat→Prop} {a b c:World} (h:jm m a b) (k:jm m b c):jm m a c:=⟨h.gN.trans k.gN,fun j d=>(k.row j d).trans (h.row j d),fun b e c f=>k.map b e c (h.map b e c f)⟩
theorem jm.mono {m c:Nat→Prop} {a b:World} (h:jm m a b) (d: ∀j,m j→c j):jm c a b:=⟨h.gN,fun j f=>h.row j fun e=>f (d j e),h.map⟩
theorem jm.of_below {m:Nat→Prop} {w w':World} (h:Below w.heap.size w w') (a: ∀b,w.heap.size≤b→m b):jm m w w':=⟨h.mono (Ca _),fun b c=>h.block b (N9 fun h=>c (a b h)),uF h⟩
theorem jm.below {w w':World} (h:jm (fun b=>w.heap.size≤b) w w'):Below w.heap.size w w':=⟨h.gN.os,h.gN.tape,h.gN.output,h.gN.size,fun b a=>h.row b (Nat.not_le.2 a)⟩
structure Inv (E:Env) (B:Own) (G0:aI) (w0:World) (s:St) (g:Gh) (a:Act) (w:World):Prop where
 fr:PW (aB g) s.fr a.tmps.toList
 df:a.defers=B.df
 gok:sU g.G w
 own:E9 B g w
 bxs:Oe E.P B g s.bx w
 gN:jm B.m w0 w
 hB:B.n≤w.heap.size∧ ∀b,w.heap.size≤b→B.m b
 ext:(∀b,¬B.m b→g.G b=G0 b)∧jB G0 g.G∧ ∀k,HL≤k→g.β k=B.β k
 glob:jQ E G0 w0∧ ∀b l,G0 b=some l→b<B.n
 g1:jB g.G1 G0
 zb: ∀k cs L v e sz b,aj s.bx k=some cs→g.O L=some (v,e,sz)→v.ownBlock=some b→g.β k≠some b
theorem Inv.eD {E:Env} {B:Own} {G0:aI} {w0:World} {s:St} {g:Gh} {a:Act} {w:World} (h:Inv E B G0 w0 s g a w):jQ E g.G w:=
 h.glob.1.more h.ext.2.1 h.gN.map
theorem jB.trans {G G' G'':aI} (h:jB G G') (k:jB G' G''):jB G G'':=fun b l g=>by
 obtain⟨d,e,c⟩:=h b l g;obtain⟨a,h3,f⟩:=k b d e;exact⟨a,h3,c.trans f⟩
theorem Inv.m1 {E:Env} {B:Own} {G0:aI} {w0:World} {s:St} {g:Gh} {a:Act} {w:World} (h:Inv E B G0 w0 s g a w):jB g.G1 g.G:=h.g1.trans h.ext.2.1
theorem yN {B:Own} {w w':World} (h:B.n≤w.heap.size∧ ∀b,w.heap.size≤b→B.m b) (a:w.heap.size≤w'.heap.size):B.n≤w'.heap.size∧ ∀b,w'.heap.size≤b→B.m b:=
 ⟨zl h.1 a,fun b c=>h.2 b (zl a c)⟩
theorem GV {g:Gh} {x:V} {v:Value} (hx:x.plain=true) (h:aJ g.G x v):aX g x v:=by
 cases x with
 |sl e sh o xs=>cases o with
  |none=>exact h
  |some L=>cases hx
 |box k o=>cases hx
 |eptr _ _ _ _ _ _=>cases hx
 |slz _ _ _ _ _ _ _ _ _ _=>cases hx
 |epz _ _ _ _ _=>cases hx
 |keep _ _=>cases hx
 |old _=>cases hx
 |_=>exact h
theorem rU {g:Gh} {x:V} {v:Value} (h:aB g x v):aB g x.wP v:=by
 cases x with
 |old x=>exact bA h.2.2 h.2.1
 |_=>exact h
theorem gK {g g':Gh} {x:V} {v:Value} (a:wR x=true) (h:aB g x v):aB g' x v:=by
 cases x with
 |any=>exact(show aJ g'.G .any v by unfold aJ;trivial)
 |bool b=>exact h
 |int k n=>exact h
 |str l=>exact h
 |nilsl=>exact h
 |nilif=>exact h
 |nilp=>exact h
 |_=>cases a
theorem gm {g:Gh} {v:Value}:aB g .any v:=show aJ g.G .any v by unfold aJ;trivial
def Gh.g0 (g:Gh):Gh:=⟨g.G1,fun _=>none,fun _=>none,fun _=>none,fun _=>none⟩
theorem Ct {g:Gh} {x:V} {v:Value} (h:aB g x v):aB g.g0 x.VS v:=by
 cases x with
 |old x=>exact bA h.2.2 h.1
 |any=>exact gm
 |bool b=>exact gK (g:=g) rfl h
 |int k n=>exact gK (g:=g) rfl h
 |str l=>exact gK (g:=g) rfl h
 |nilsl=>exact gK (g:=g) rfl h
 |nilif=>exact gK (g:=g) rfl h
 |nilp=>exact gK (g:=g) rfl h
 |_=>exact gm
theorem EE {g:Gh} {x:V} {v:Value} (hx:x.dO=true) (b:jB g.G1 g.G) (h:aB g.g0 x v):aB g (.old x) v:=by
 have a:x.plain=true∧aJ g.G1 x v:=by
  cases x with
  |sl e sh o xs=>cases o with
   |none=>exact⟨rfl,h⟩
   |some L=>cases hx
  |agg c=>exact⟨rfl,h⟩
  |rptr sh y off=>exact⟨rfl,h⟩
  |iface t y=>exact⟨rfl,h⟩
  |_=>cases hx
 exact⟨a.2,fI b _ _ a.2,a.1⟩
structure oU (E:Env):Prop where
 mixed:E.P.follows .mixedOrders=true
 names:(E.P.funcs.all fun fn=>fn.body.isNone||fn.name != "runtime.NumGoroutine")=true
def New (w w':World) (G G':aI):Prop:=Below w.heap.size w w'∧(∀b,b<w.heap.size→G' b=G b)∧sU G' w'
def gq (G:aI) (w:World) (B:Nat→Prop) (e:Nat) (sh:List Kd) (xs:af) (u:Value):Prop:=
 0<sh.length∧((u=.slice none 0 0∧xs=[])∨ ∃b cap a l,u=.slice (some ⟨b,0,none⟩) xs.length cap∧B b∧w.heap[b]? =some (.cells a e (0,0))∧xs.length≤cap∧cap≤maxLen∧
  a.size=cap*sh.length∧G b=some l∧l.length=xs.length*sh.length∧bF G sh xs l)
def rF (G:aI) (w:World) (B:Nat→Prop) (e c n:Nat) (u:Value) (l:List Value):Prop:=
 0<c∧l.length=n*c∧((u=.slice none 0 0∧n=0)∨ ∃b cap a,u=.slice (some ⟨b,0,none⟩) n cap∧B b∧w.heap[b]? =some (.cells a e (0,0))∧n≤cap∧cap≤maxLen∧a.size=cap*c∧a.toList.take l.length=l∧G b=none)
def Does (P:Program) (ρ:Operand→Value) (o:Oper) (B:Own) (w:World) (g:Gh) (bx:List (Nat×af)):Eff→Prop
 | .val v=>∃u,(execOp ρ o).run P w=.ok (.value u) w∧aB g v u
 | .own e sh xs=>∃u w' G',(execOp ρ o).run P w=.ok (.value u) w'∧New w w' g.G G'∧gq G' w' (w.heap.size≤ ·) e sh xs u
 | .newSl e sh xs=>∃u w' G',(execOp ρ o).run P w=.ok (.value u) w'∧New w w' g.G G'∧aJ G' (.sl e sh none xs) u
 | .kN e m=>∃c,(execOp ρ o).run P w=.ok (.value (.pointer (some ⟨w.heap.size,0,none⟩))) (w.alloc (.cells c e))∧PW (aB g) m c.toList∧(∀u∈c.toList,u.oneCell'=true)∧(iF m=true→lH P e m.length=true)
 | .put k off m=>∃b c e us old,g.β k=some b∧aj bx k=some old∧w.heap[b]? =some (.cells c e (0,0))∧PW (aB g) old c.toList∧
  (execOp ρ o).run P w=.ok .skip (w.setRow b (c.toList.take off++us++c.toList.drop (off+us.length)).toArray)∧PW (aB g) m us∧(∀u∈us,u.oneCell'=true)∧off+m.length≤old.length
 | .app L e sh xs=>∃a u w' G',g.O L=some (a,e,sh.length)∧(execOp ρ o).run P w=.ok (.value u) w'∧w.grownBy w' a.ownBlock∧(∀b,b<w.heap.size→some b≠a.ownBlock→G' b=g.G b)∧jB g.G G'∧sU G' w'∧
  gq G' w' (B.ok L) e sh xs u∧(u.ownBlock=a.ownBlock∨ ∀b,u.ownBlock=some b→w.heap.size≤b)
 | .call f args mb ml=>∃(vs:List Value) (q:af),(execOp ρ o).run P w=.ok (.enter f vs.toArray) w∧PW (DL g) q vs∧lG bx 0 q=some (args,mb,ml)∧lF mb ml=true
 | .jN v=>∃u,(execOp ρ o).run P w=.halt (.panic u) w∧aJ g.G v u
 | .pick b x y=>∃u,(execOp ρ o).run P w=.ok (.value u) w∧aB g (match b with|true=>x|false=>y) u
 | .zu L e sh ys=>∃a b c l p u xs,g.O L=some (a,e,sh.length)∧a.ownBlock=some b∧w.heap[b]? =some (.cells c e (0,0))∧g.G b=some l∧p<l.length∧oW g.G sh xs a∧ys.length=xs.length∧sh.all flatK=true∧
  bF g.G sh ys (l.set p u)∧u.oneCell'=true∧(execOp ρ o).run P w=.ok .skip (w.setRow b (c.toList.take p++[u]++c.toList.drop (p+1)).toArray)
 | .ownz e sh xs c n d=>∃u w' l,(execOp ρ o).run P w=.ok (.value u) w'∧Below w.heap.size w w'∧rF g.G w' (w.heap.size≤ ·) e sh.length xs.length u l∧bF g.G sh xs l∧0<d.length∧ ∀y,l[c]? =some y→y=.slice none 0 0
 | .appz L e sh xs i c n d=>∃a u w' l,g.O L=some (a,e,sh.length)∧(execOp ρ o).run P w=.ok (.value u) w'∧w.grownBy w' a.ownBlock∧(∀b,a.ownBlock=some b→g.G b=none)∧rF g.G w' (B.ok L) e sh.length xs.length u l∧bF g.G sh xs l∧
  (u.ownBlock=a.ownBlock∨ ∀b,u.ownBlock=some b→w.heap.size≤b)∧0<d.length∧ ∀y,0≤i→l[i.toNat*sh.length+c]? =some y→y=.slice none 0 0
 | .zw L e sh xs i c L3 n d ys=>∃a b h l u,g.O L=some (a,e,sh.length)∧g.C L=some l∧a.ownBlock=some b∧w.heap[b]? =some (.cells h e (0,0))∧i.toNat*sh.length+c<l.length∧u.oneCell'=true∧zG g sh xs a (l.set (i.toNat*sh.length+c) u)∧
  g.O L3=some (u,n,d.length)∧oW g.G d ys u∧(execOp ρ o).run P w=.ok .skip (w.setRow b (h.toList.take (i.toNat*sh.length+c)++[u]++h.toList.drop (i.toNat*sh.length+c+1)).toArray)
 | .alts i vs=>∀(j:Nat) v,i=(j:Int)→vs[j]? =some v→ ∃u,(execOp ρ o).run P w=.ok (.value u) w∧aB g v u
theorem pI (G:aI) (v:Value):aJ G (yu v) v:=by
 unfold yu;split
 ·unfold aJ;rfl
 ·unfold aJ;rfl
 ·rename_i s;unfold aJ;cases s;simp
 ·unfold aJ;rfl
 ·unfold aJ;rfl
 ·unfold aJ;rfl
 ·unfold aJ;trivial
theorem Ay (v:Value):(yu v).plain=true:=by unfold yu;split<;>rfl
theorem pJ (G:aI) (v:Value):aJ G (mo v) v:=by
 unfold mo;split
 ·rename_i a
  unfold aJ;refine⟨a.toList,by simp,(dI _ _).2 ⟨by simp,fun i x v hx b=>?_⟩⟩;simp only[qa,b,qJ,aF] at hx;subst hx;exact pI G v
 ·exact pI G v
theorem Az (v:Value):(mo v).plain=true:=by unfold mo;split;rfl;exact Ay v
section
variable {E:Env} {B:Own} {G0:aI} {w0:World} {s:St} {g:Gh} {a:Act} {w:World}
theorem bR (c:PW (aB g) s.fr a.tmps.toList) {w:World} (i:jQ E g.G w) (x:Operand):aB g (iD E s.fr x) (a.eval x):=by
 cases x with
 |tmp t=>
  show aB g (slot s.fr t) (a.tmps.getD t undef);unfold slot;by_cases h:t<s.fr.length
  ·have d:t<a.tmps.toList.length:=by rw[←c.1];exact h
   have:=c.2 t s.fr[t] a.tmps.toList[t] (gQ h) (gQ d);rw[sQ,gQ h];have b:t<a.tmps.size:=by simpa using d
   have e:a.tmps.getD t undef=a.tmps.toList[t]:=by simp[Array.getD,b]
   rw[e];exact this
  ·have:s.fr.getD t .any=.any:=by rw[sQ,Xi (Nat.le_of_not_lt h)];rfl
   rw[this];simp only[aB,aX];unfold aJ;trivial
 |const v=>exact bA (Az v) (pJ g.G v)
 |global n=>
  show aB g (match E.glob n with|some v=>v|none=> .any) (.pointer (some ⟨n,0,none⟩))
  cases h:E.glob n with
  |none=>simp only[aB,aX];unfold aJ;trivial
  |some v=>exact bA (i n v h).1 (i n v h).2.1
 |func f=>exact⟨[],(z8 _).symm,.nil⟩
end
section
variable {P:Program} {ρ:Operand→Value} {o:Oper} {B:Own} {w:World} {g:Gh} {bx:List (Nat×af)}
theorem aT {v:V} {u:Value} {m:Sem Value} (a:execOp ρ o=(do pure (.value (←m)))) (b:m.run P w=.ok u w) (h3:aB g v u):Does P ρ o B w g bx (.val v):=
 ⟨u,by rw[a];simp[b],h3⟩
theorem bn {b:Bool} {v:Value}:aB g (.bool b) v↔v=.bool b:=by simp only[aB,aX];unfold aJ;rfl
theorem bu {k:IntKind} {n:Int} {v:Value}:aB g (.int k n) v↔v=.int k n:=by simp only[aB,aX];unfold aJ;rfl
theorem dS {l:ah} {v:Value}:aB g (.str l) v↔v=.string ⟨l.toArray⟩:=by simp only[aB,aX];unfold aJ;rfl
theorem j3 {g:Gh} {v:Value}:aB g .nilif v↔v=.nilIface:=by simp only[aB,aX];unfold aJ;exact Iff.rfl
theorem MG {g:Gh} {v:Value}:aB g .nilp v↔v=.pointer none:=by simp only[aB,aX];unfold aJ;exact Iff.rfl
theorem iJ {g:Gh} {t:Nat} {x:V} {v:Value}:aB g (.iface t x) v↔ ∃u,v=.iface t u∧aJ g.G x u:=by
 simp only[aB,aX];constructor
 ·intro h;unfold aJ at h;exact h
 ·intro h;unfold aJ;exact h
theorem gL {v:Value}:aB g .nilsl v↔v=.slice none 0 0:=by simp only[aB,aX];unfold aJ;rfl
theorem gu {b:af} {v:Value}:aB g (.agg b) v↔ ∃a:List Value,v=.agg a.toArray∧PW (aJ g.G) b a:=by simp only[aB,aX];unfold aJ;simp only[dI]
theorem cu {k off:Nat} {v:Value}:aB g (.box k off) v↔ ∃b,g.β k=some b∧v=.pointer (some ⟨b,off,none⟩):=by simp only[aB,aX]
theorem jV {L e:Nat} {sh:List Kd} {xs:af} {i:Int} {off:Nat} {v:Value}:aB g (.eptr L e sh xs i off) v↔ ∃a b,g.O L=some (a,e,sh.length)∧oW g.G sh xs a∧0≤i∧i<(xs.length:Int)∧a.ownBlock=some b∧v=.pointer (some ⟨b,i.toNat*sh.length+off,none⟩):=by simp only[aB,aX]
theorem kF {L e:Nat} {sh:List Kd} {xs:af} {o2:Option Nat} {i:Int} {c b:Nat} {a:List Kd} {ys:af} {v:Value}:aB g (.slz L e sh xs o2 i c b a ys) v↔ ∃l,g.O L=some (v,e,sh.length)∧g.C L=some l∧zG g sh xs v l∧nG g l sh.length o2 i c b a ys:=by simp only[aB,aX]
theorem lN {L e a:Nat} {i:Int} {off:Nat} {v:Value}:aB g (.epz L e a i off) v↔ ∃c b l,g.O L=some (c,e,a)∧g.C L=some l∧0≤i∧i.toNat*a+a≤l.length∧c.ownBlock=some b∧v=.pointer (some ⟨b,i.toNat*a+off,none⟩):=by simp only[aB,aX]
theorem gz {sh:List Kd} {x:V} {off:Nat} {v:Value}:aB g (.rptr sh x off) v↔ ∃b o l,v=.pointer (some ⟨b,o+off,none⟩)∧g.G b=some l∧eP sh x=true∧ ∃u,aJ g.G x u∧(l.drop o).take sh.length=u.cells.toList:=by
 show aJ g.G (.rptr sh x off) v↔_;rw[aJ]
theorem jq {e:Nat} {sh:List Kd} {a:Option Nat} {xs:af} {v:Value} (h:aB g (.sl e sh a xs) v):aJ g.G (.sl e sh none xs) v:=by
 cases a with
 |none=>exact h
 |some L=>exact lM h.2
theorem rV (a b:ah):((⟨a.toArray⟩:ByteArray).toList==(⟨b.toArray⟩:ByteArray).toList)=seq a b:=by
 rw[ByteArray.toList_eq,ByteArray.toList_eq];rfl
theorem MH (a b:ah):(⟨a.toArray⟩:ByteArray)++⟨b.toArray⟩=⟨(fw a b).toArray⟩:=by
 apply ByteArray.ext
 simp[fw]
theorem GY (c:BinOp) (t:TypeId) (x y:Operand) (k d:IntKind) (a b:Int):(eqGuard c t x y (.int k a) (.int d b)).run P w=.ok () w:=by
 unfold eqGuard;split<;>rfl
theorem GZ (c:BinOp) (t:TypeId) (x y:Operand) (a b:ByteArray):(eqGuard c t x y (.string a) (.string b)).run P w=.ok () w:=by
 unfold eqGuard;split<;>rfl
theorem uG (c:BinOp) (t:TypeId) (x y:Operand) (a b:Bool):(eqGuard c t x y (.bool a) (.bool b)).run P w=.ok () w:=by
 unfold eqGuard;split<;>rfl
theorem G4 {op : BinOp} {xt yt : TypeId} {x y : Operand} {X Y : V} (ho : o.op = .binOp op xt x y yt) (hx : aB g X (ρ x)) (hy : aB g Y (ρ y)) {v : V} (h : Sv op X Y = some (true, v))
    (Y2 : ∀ a b, X = .bool a → Y = .bool b → P.underlying xt = some .bool) : Does P ρ o B w g bx (.val v) := by
  have he : execOp ρ o = (do pure (.value (← (do eqGuard op xt x y (ρ x) (ρ y); binOp op xt (ρ x) (ρ y))))) := by simp only [execOp, ho]
  unfold Sv at h
  split at h
  · rename_i k a k' b
    rw [bu] at hx hy
    have key : ∀ u, (binOp op xt (.int k a) (.int k' b)).run P w = .ok u w → aB g v u → Does P ρ o B w g bx (.val v) := by
      intro u hu ht
      refine aT he ?_ ht
      rw [hx, hy]
      simp only [Sem.run_bind, GY, Result.andThen_ok, hu]
    split at h
    · simp only [aF, bP] at h
      obtain ⟨h1, rfl⟩ := h
      unfold aH at h1
      have h1 := B5 h1
      refine key (.int k (VK k a b)) ?_ (bu.2 rfl)
      simp [binOp, Op.shift, VK, Int.not_lt.2 h1]
    · simp only [aF, bP] at h
      obtain ⟨h1, rfl⟩ := h
      unfold aH at h1
      have h1 := B5 h1
      refine key (.int k (Mi k a b)) ?_ (bu.2 rfl)
      simp [binOp, Op.shift, Mi, Int.not_lt.2 h1]
    · rename_i hn1 hn2
      simp only [cond_eq_ite, Iy] at h
      split at h
      · rename_i hk
        subst hk
        unfold Yk at h
        split at h
        all_goals first | (cases h; done) | skip
        all_goals
          simp only [aF, bP] at h
          obtain ⟨h1, rfl⟩ := h
          first
            | refine key _ (by simp only [binOp, ne_eq, ZD, Fj, Op.intArith]; rfl) (bu.2 rfl)
            | refine key _ (by simp only [binOp, ne_eq, ZD, Fj, Op.intBits]; rfl) (bu.2 rfl)
            | refine key _ (by simp only [binOp, ne_eq, ZD, Fj, Op.intCmp]; rfl) (bn.2 rfl)
            | (have hb : b ≠ 0 := by
                 intro hb
                 subst hb
                 simp [aS, ieq] at h1
               refine key _ (by simp only [binOp, ne_eq, ZD, Fj, Op.intDiv, hb]; rfl) (bu.2 rfl))
      · cases h
  · rename_i a b
    rw [dS] at hx hy
    have key : ∀ u, (Op.stringOp op ⟨a.toArray⟩ ⟨b.toArray⟩).run P w = .ok u w → aB g v u → Does P ρ o B w g bx (.val v) := by
      intro u hu ht
      refine aT he ?_ ht
      rw [hx, hy]
      have e : binOp op xt (.string ⟨a.toArray⟩) (.string ⟨b.toArray⟩) = Op.stringOp op ⟨a.toArray⟩ ⟨b.toArray⟩ := by cases op <;> rfl
      simp only [Sem.run_bind, GZ, Result.andThen_ok, e, hu]
    unfold VL at h
    split at h
    all_goals first | (cases h; done) | skip
    all_goals
      simp only [aF, bP] at h
      obtain ⟨h1, rfl⟩ := h
    · unfold jC UR at h1
      have h1 := B5 h1
      refine key (.string ⟨(fw a b).toArray⟩) ?_ (dS.2 rfl)
      have hs : ¬ (((⟨a.toArray⟩ : ByteArray).size + (⟨b.toArray⟩ : ByteArray).size : Nat) : Int) > IntKind.i64.max := by
        have e1 : (⟨a.toArray⟩ : ByteArray).size = a.length := by simp [ByteArray.size]
        have e2 : (⟨b.toArray⟩ : ByteArray).size = b.length := by simp [ByteArray.size]
        rw [e1, e2]
        have : IntKind.i64.max = 9223372036854775807 := by decide
        rw [this]; omega
      simp only [Op.stringOp, hs, Fj, MH]
      rfl
    · refine key _ (by simp only [Op.stringOp, rV]; rfl) (bn.2 rfl)
    · refine key _ (by simp only [Op.stringOp, rV]; rfl) (bn.2 rfl)
    · refine key _ (by simp only [Op.stringOp, ByteArray.toList_eq]; rfl) (bn.2 rfl)
    · refine key _ (by simp only [Op.stringOp, ByteArray.toList_eq]; rfl) (bn.2 rfl)
    · refine key (.bool (av (aS (slt a b)) (aS (seq a b)))) ?_ (bn.2 rfl)
      have e : (!(Op.bytesLess a b || a == b)) = av (aS (slt a b)) (aS (seq a b)) := by
        unfold slt seq; cases Op.bytesLess a b <;> cases a == b <;> rfl
      rw [← e]
      simp only [Op.stringOp, ByteArray.toList_eq]; rfl
    · refine key (.bool (aS (av (aS (slt a b)) (aS (seq a b))))) ?_ (bn.2 rfl)
      have e : (Op.bytesLess a b || a == b) = aS (av (aS (slt a b)) (aS (seq a b))) := by
        unfold slt seq; cases Op.bytesLess a b <;> cases a == b <;> rfl
      rw [← e]
      simp only [Op.stringOp, ByteArray.toList_eq]; rfl
  · rename_i a b
    have hu := Y2 a b rfl rfl
    rw [bn] at hx hy
    have hq : (Op.equal xt (.bool a) (.bool b)).run P w = .ok (a == b) w := by
      have e : Op.equal xt (.bool a) (.bool b) = Op.equalIn (9999 + 1) xt (.bool a) (.bool b) := rfl
      rw [e, Op.equalIn]
      simp only [Sem.run_bind, run_underlying hu, Result.andThen_ok]
      rfl
    split at h
    all_goals first | (cases h; done) | skip
    all_goals
      simp only [aF, bP] at h
      obtain ⟨h1, rfl⟩ := h
    · refine aT he (u := .bool (a == b)) ?_ (bn.2 rfl)
      rw [hx, hy]
      simp only [Sem.run_bind, uG, Result.andThen_ok, binOp, hq, Sem.run_pure]
    · refine aT he (u := .bool (!(a == b))) ?_ (bn.2 rfl)
      rw [hx, hy]
      simp only [Sem.run_bind, uG, Result.andThen_ok, binOp, hq, Sem.run_pure]
  · cases h
end
mutual
theorem Kd.P8: ∀(a b:Kd),Kd.eq a b=true→a=b
 | .bool,.bool,_=>rfl
 | .int k,.int k',h=>by simp only[Kd.eq,fT] at h;rw[h]
 | .str,.str,_=>rfl
 | .sl e sh,.sl e' sh',h=>by
  simp only[Kd.eq,bB,fT] at h;rw[h.1,Kd.fD sh sh' h.2]
 | .oth,.oth,h=>by simp[Kd.eq] at h
 | .bool,.int _,h=>by simp[Kd.eq] at h
 | .bool,.str,h=>by simp[Kd.eq] at h
 | .bool,.sl _ _,h=>by simp[Kd.eq] at h
 | .bool,.oth,h=>by simp[Kd.eq] at h
 | .int _,.bool,h=>by simp[Kd.eq] at h
 | .int _,.str,h=>by simp[Kd.eq] at h
 | .int _,.sl _ _,h=>by simp[Kd.eq] at h
 | .int _,.oth,h=>by simp[Kd.eq] at h
 | .str,.bool,h=>by simp[Kd.eq] at h
 | .str,.int _,h=>by simp[Kd.eq] at h
 | .str,.sl _ _,h=>by simp[Kd.eq] at h
 | .str,.oth,h=>by simp[Kd.eq] at h
 | .sl _ _,.bool,h=>by simp[Kd.eq] at h
 | .sl _ _,.int _,h=>by simp[Kd.eq] at h
 | .sl _ _,.str,h=>by simp[Kd.eq] at h
 | .sl _ _,.oth,h=>by simp[Kd.eq] at h
 | .oth,.bool,h=>by simp[Kd.eq] at h
 | .oth,.int _,h=>by simp[Kd.eq] at h
 | .oth,.str,h=>by simp[Kd.eq] at h
 | .oth,.sl _ _,h=>by simp[Kd.eq] at h
theorem Kd.fD: ∀(a b:List Kd),Kd.zn a b=true→a=b
 |[],[],_=>rfl
 |[],_::_,h=>by simp[Kd.zn] at h
 |_::_,[],h=>by simp[Kd.zn] at h
 |a::l,b::m,h=>by
  simp only[Kd.zn,bB] at h;rw[Kd.P8 a b h.1,Kd.fD l m h.2]
end
theorem vT: ∀(sh:List Kd) (vs:af),bE sh vs=true→ ∀(j:Nat) k v,sh[j]? =some k→vs[j]? =some v→fits k v=true
 |[],_,_,j,_,_,h,_=>by simp at h
 |_::_,[],h,_,_,_,_,_=>by simp[bE] at h
 |k::sh,v::vs,h,0,d,c,b,a=>by
  simp only[bE,av] at h;simp at b a;subst b;subst a;split at h
  ·assumption
  ·cases h
 |k::sh,v::vs,h,j+1,d,c,b,a=>by
  simp only[bE,av] at h;split at h
  ·exact vT sh vs h j d c (by simpa using b) (by simpa using a)
  ·cases h
theorem P9 {G:aI} {k:Kd} {v:V} {u:Value} (a:fits k v=true) (h:aJ G v u):u.oneCell'=true:=by
 cases v<;>cases k<;>simp[fits] at a<;>unfold aJ at h
 all_goals first|(subst h;rfl)|(obtain⟨p,cap,rfl,_⟩:=h;rfl)
theorem SX {G:aI} {k:Kd} {v:V} {u:Value} (a:fits k v=true) (h:aJ G v u):aJ G (eta k v) u:=by
 cases k with
 |bool=>cases v<;>simp[fits] at a;exact h
 |int k=>
  cases v<;>simp[fits] at a
  subst a;exact h
 |str=>cases v<;>simp[fits] at a;exact h
 |sl e sh=>
  cases v with
  |sl d b o xs=>
   simp only[fits,bB,fT] at a;obtain⟨rfl,c⟩:=a;obtain rfl:=Kd.fD _ _ c;exact jU h
  |nilsl=>
   unfold aJ at h;subst h;show aJ G (.sl e sh none []) _;unfold aJ;exact⟨none,0,rfl,iA _,.inl rfl⟩
  |_=>simp[fits] at a
 |oth=>cases v with
  |qD _ _ _=>exact h
  |_=>simp[fits] at a
theorem MI {k:Kd} {v:V} (a:fits k v=true):(eta k v).plain=true:=by
 cases k<;>first|rfl|(cases v<;>first|rfl|(simp[fits] at a;done))
theorem MJ {x y:V} {j:Nat} (h:x.cells[j]? =some y):aN x j=y:=by
 cases x with
 |agg a=>simp only[V.cells] at h;simp[aN,h]
 |_=>
  simp only[V.cells] at h
  cases j with
  |zero=>simp at h;subst h;rfl
  |succ j=>simp at h
section
variable {P:Program} {ρ:Operand→Value} {o:Oper} {B:Own} {w:World} {g:Gh} {bx:List (Nat×af)}
theorem wW {t:TypeId} (h:bf P t=some true): ∃d,P.underlying t=some d∧d.isRow=true:=by
 unfold bf at h;split at h
 ·rename_i a;exact⟨_,a,rfl⟩
 ·rename_i a;exact⟨_,a,rfl⟩
 ·cases h
 ·cases h
theorem j4 {t:TypeId} {b:Bool} (h:bf P t=some b):(isAgg t).run P w=.ok b w:=by
 unfold bf at h;split at h
 ·rename_i a;simp only[aF] at h;subst h;simp[isAgg,run_underlying a]
 ·rename_i a;simp only[aF] at h;subst h;simp[isAgg,run_underlying a]
 ·rename_i d c e a
  simp only[aF] at h;subst h;simp only[isAgg,Sem.run_bind,run_underlying a,Result.andThen_ok]
  cases d<;>first|rfl|exact absurd rfl (c _)|exact absurd rfl (e _ _)
 ·cases h
theorem jr {t:TypeId} {n:Nat} (h:bL P t=some n): ∃i,P.info? t=some i∧i.size=n:=by
 unfold bL at h;split at h
 ·rename_i i a;exact⟨i,a,by simpa using h⟩
 ·cases h
theorem bW {t:TypeId} {n:Nat} (h:bL P t=some n):(Go.sizeOf t).run P w=.ok n w:=by
 obtain⟨i,a,rfl⟩:=jr h;simp[Go.sizeOf,typeInfo,a]
theorem j5 {G:aI} (g:sU G w) {b:Nat} {l:List Value} (h:G b=some l) {j:Nat} {u:Value} (a:l[j]? =some u):w.cell? ⟨b,j,none⟩=some u:=by
 obtain⟨c,e,fr,f,d⟩:=g b l h;have:c.toList[j]? =some u:=by
  rw[←d,Iw] at a;split at a
  ·exact a
  ·cases a
 simp[World.cell?,f,aci] at this⊢;simpa using this
theorem FR {t:TypeId} {b o:Nat} {a:List Value} (e:bf P t=some true) (g:bL P t=some a.length) (h: ∀j u,a[j]? =some u→w.cell? ⟨b,o+j,none⟩=some u):
  (Instr.loadAt t (.pointer (some ⟨b,o,none⟩))).run P w=.ok (.agg a.toArray) w:=by
 obtain⟨d,c,f⟩:=wW e;obtain⟨i,k,l⟩:=jr g;exact run_loadAt_mid w b o t a d h c f (by rw[k];simp[l])
theorem Ad {t:TypeId} {b o:Nat} {u:Value} (c:bf P t=some false) (a:w.cell? ⟨b,o,none⟩=some u):
  (Instr.loadAt t (.pointer (some ⟨b,o,none⟩))).run P w=.ok u w:=by
 simp only[Instr.loadAt,Instr.sureAddr,loadVar,Sem.run_bind,Sem.run_pure,Result.andThen_ok,j4 c,N6,Fj,run_load,a]
theorem Qa (k:Kd) (x:V) (off:Nat):U4 k x off=eta k (aN x off):=by cases k<;>first|rfl|(cases x<;>rfl)
theorem wX {t:TypeId} {a:Operand} {sh:List Kd} {x:V} {off:Nat} {eff:Eff} (M:o.op=.load t a) (Q:sU g.G w) (I:aB g (.rptr sh x off) (ρ a)) (h:Kl P t sh x off=some (true,eff)):Does P ρ o B w g bx eff:=by
 rw[gz] at I;obtain⟨b,q,l,H,hl,r,u,N,R⟩:=I;have J:execOp ρ o=(do pure (.value (←Instr.loadAt t (ρ a)))):=by simp only[execOp,M]
 have hx:x≠.any:=fun e=>by rw[e,jy] at r;cases r
 obtain⟨F,D⟩:=jT N hx;have K:=gU _ _ r;have d: ∀j v,u.cells.toList[j]? =some v→w.cell? ⟨b,q+j,none⟩=some v:=by
  intro j v c;refine j5 Q hl ?_;rw[←R,Iw] at c;split at c
  ·rw[IB] at c;exact c
  ·cases c
 have i: ∀j k v,sh[j]? =some k→u.cells.toList[j]? =some v→fits k (aN x j)=true∧aJ g.G (eta k (aN x j)) v:=by
  intro j k v m c;have z:j<x.cells.length:=by
   have:=(List.getElem?_eq_some_iff.1 m).1;unfold eP at r;omega
  have s:=gQ z;rw[MJ s];have C:=vT sh x.cells r j k _ m s;exact⟨C,SX C (D.2 j _ v s c)⟩
 unfold Kl at h;simp only[Qa] at h;split at h
 ·rename_i n f O
  simp only[cond_eq_ite] at h;split at h
  ·rename_i A
   have A:=R6 A;simp only[ok,aF,bP,je] at h;subst h;have E:((u.cells.toList.drop off).take n).length=n:=by simp;omega
   refine aT J (u:=.agg ((u.cells.toList.drop off).take n).toArray) ?_ (gu.2 ⟨_,rfl,?_⟩)
   ·rw[H]
    refine FR f (by rw[E];exact O) ?_;intro j v c;rw[Iw] at c;split at c
    ·rw[IB] at c
     rw[ZJ];exact d _ _ c
    ·cases c
   ·refine⟨by simp;omega,fun j y v s c=>?_⟩
    rw[Iw] at c;split at c
    ·rename_i z
     rw[IB] at c;simp only[qa,XK z,qJ,aF] at s;subst s;have m:off+j<sh.length:=by omega
     rw[sQ,gQ m];exact(i _ _ _ (gQ m) c).2
    ·cases c
  ·cases h
 ·rename_i f
  simp only[cond_eq_ite] at h;split at h
  ·rename_i p
   have p:off<sh.length:=by simpa[zm] using p
   simp only[ok,aF,bP,je] at h;subst h;have z:off<u.cells.toList.length:=by simp;unfold eP at r;omega
   have c:=gQ z;have m:=gQ p;obtain⟨C,L⟩:=i off _ _ m c;refine aT J (u:=u.cells.toList[off]) ?_ ?_
   ·rw[H];exact Ad f (d _ _ c)
   ·rw[sQ,m]
    exact bA (MI C) L
  ·cases h
 ·cases h
theorem Cu {cells c:af} {us:List Value} {off n:Nat} (h:zI cells off n=some c) (b:PW (aB g) cells us):off+n≤us.length∧PW (aJ g.G) c ((us.drop off).take n):=by
 unfold zI at h;simp only[cond_eq_ite] at h;split at h
 ·rename_i a
  have a:=R6 a;exact⟨by rw[←b.1];exact a,Ab _ _ _ h ((b.drop off).take n)⟩
 ·cases h
theorem getD_some {l:af} {i:Nat} (h:i<l.length):l[i]? =some (l.getD i .any):=by
 rw[sQ,gQ h];rfl
theorem EF {t:TypeId} {a:Operand} {k off:Nat} {cells:af} (A:o.op=.load t a) (hB:Oe P B g bx w) (E:aB g (.box k off) (ρ a)) (hl:aj bx k=some cells):
  (∀n q,bf P t=some true→bL P t=some n→zI cells off n=some q→Does P ρ o B w g bx (.val (.agg q)))∧
  (bf P t=some false→off<cells.length→Does P ρ o B w g bx (.val (cells.getD off .any))):=by
 have x:execOp ρ o=(do pure (.value (←Instr.loadAt t (ρ a)))):=by simp only[execOp,A]
 obtain⟨b,z,s⟩:=cu.1 E;obtain⟨F,c,e,i,_,C,l,_,_⟩:=hB.1 k cells hl;rw[z] at i;simp only[aF] at i;subst i;have d: ∀j v,c.toList[j]? =some v→w.cell? ⟨b,j,none⟩=some v:=by
  intro j v h;simp only[World.cell?,C];simpa using h
 constructor
 ·intro n q f D r
  obtain⟨G,y⟩:=Cu r l;have m:((c.toList.drop off).take n).length=n:=by rw[B6,zk];omega
  refine aT x (u:=.agg ((c.toList.drop off).take n).toArray) ?_ (gu.2 ⟨_,rfl,y⟩);rw[s];refine FR f (by rw[m];exact D) ?_;intro j v h;rw[Iw] at h;split at h
  ·rw[IB] at h;exact d _ _ h
  ·cases h
 ·intro f p
  obtain⟨v,h,r⟩:=l.get (getD_some p);refine aT x (u:=v) ?_ r;rw[s];exact Ad f (d _ _ h)
theorem uH {t:TypeId} {f:Nat} {c:Field} (h:qf P t f=some c): ∃a,P.underlying t=some (.struct a)∧a[f]? =some c:=by
 unfold qf at h;split at h
 ·rename_i a b;exact⟨a,b,h⟩
 ·cases h
theorem ko {t:TypeId} {f:Nat} {a:Field} {n b q:Nat} (h:qf P t f=some a) (e:bL P a.type=some n) (g:n≠0):
  (Instr.fieldAt t (.pointer (some ⟨b,q,none⟩)) f).run P w=.ok (.pointer (some ⟨b,q+a.offset,none⟩)) w:=by
 obtain⟨i,c,d⟩:=uH h;simp[Instr.fieldAt,run_underlying c,d,Instr.sureAddr,fieldPlace,bW e,g,Addr.add_mid]
theorem FT {G:aI} {x y:V} {v:Value} (h:aJ G x v) (a:x.deep=some y):aJ G y v:=by
 cases x with
 |fn f c=>cases c with
  |nil=>simp only[V.deep,aF] at a;subst a;exact h
  |cons _ _=>simp[V.deep] at a
 |iface t x=>simp only[V.deep,aF] at a;subst a;exact h
 |_=>simp[V.deep] at a<;>subst a<;>first|exact h|exact jU h
theorem EG {t:TypeId} {x:Operand} {f:Nat} {c:Field} {k:af} {eff:Eff} (s:o.op=.field t x f) (r:qf P t f=some c) (hx:aB g (.agg k) (ρ x)) (h:partOf P c.type k c.offset=some (true,eff)):Does P ρ o B w g bx eff:=by
 obtain⟨a,C,j⟩:=gu.1 hx;have q:execOp ρ o=(do pure (.value (←Instr.field t (ρ x) f))):=by simp only[execOp,s]
 obtain⟨F,l,m⟩:=uH r;have d:(Instr.field t (ρ x) f).run P w=(part c.type a.toArray c.offset).run P w:=by
  rw[C];simp[Instr.field,run_underlying l,m,asAgg]
 unfold partOf at h;split at h
 ·rename_i n b A
  simp only[cond_eq_ite] at h;split at h
  ·rename_i E
   simp only[ok,aF,bP,je] at h;subst h;refine aT q (u:=.agg ((a.drop c.offset).take n).toArray) ?_ (gu.2 ⟨_,rfl,(j.drop _).take _⟩);rw[d];simp only[part,Sem.run_bind,j4 b,Result.andThen_ok,if_true,bW A,Sem.run_pure];have e:a.toArray.extract c.offset (c.offset+n)=(List.take n (List.drop c.offset a)).toArray:=by
    rw[←Ff];simp
   rw[e]
  ·cases h
 ·rename_i b
  simp only[cond_eq_ite] at h;split at h
  ·rename_i i
   have i:c.offset<k.length:=by simpa[zm] using i
   split at h
   ·rename_i y p
    simp only[ok,aF,bP,je] at h;subst h;obtain⟨v,D,z⟩:=j.get (getD_some i);refine aT q (u:=v) ?_ (bA (iI p) (FT z p));rw[d];simp[part,j4 b,D]
   ·cases h
  ·cases h
 ·cases h
end
theorem tY {G:aI} {sh:List Kd}: ∀(xs:af) (cells:List Value),bF G sh xs cells→ ∀(i:Nat) x,xs[i]? =some x→eP sh x=true∧ ∃u,aJ G x u∧(cells.drop (i*sh.length)).take sh.length=u.cells.toList
 |[],_,_,i,_,h=>by simp at h
 |y::xs,cells,h,0,x,hx=>by
  unfold bF at h;simp at hx;subst hx;exact⟨h.1,by simpa using h.2.1⟩
 |y::xs,cells,h,i+1,x,hx=>by
  unfold bF at h;have:=tY xs _ h.2.2 i x (by simpa using hx);rw[Ke] at this;rw[show(i+1)*sh.length=sh.length+i*sh.length by rw[vo,RS,Vx]];exact this
theorem Cv {G:aI} {sh:List Kd}: ∀(n:Nat) (xs:af) (cells:List Value),bF G sh xs cells→bF G sh (xs.drop n) (cells.drop (n*sh.length))
 |0,xs,cells,h=>by simpa using h
 |n+1,[],cells,h=>by simp[fZ]
 |n+1,y::xs,cells,h=>by
  unfold bF at h;have:=Cv n xs _ h.2.2;rw[Ke] at this;rw[show(n+1)*sh.length=sh.length+n*sh.length by rw[vo,RS,Vx],List.drop_succ_cons];exact this
theorem Cw {G:aI} {sh:List Kd}: ∀(n:Nat) (xs:af) (cells:List Value),bF G sh xs cells→bF G sh (xs.take n) cells
 |0,xs,cells,h=>by simp[fZ]
 |n+1,[],cells,h=>by simp[fZ]
 |n+1,y::xs,cells,h=>by
  unfold bF at h;rw[acz];unfold bF;exact⟨h.1,h.2.1,Cw n xs _ h.2.2⟩
theorem pW {G:aI} {sh:List Kd}: ∀(xs ys:af) (c d:List Value),bF G sh xs c→bF G sh ys d→c.length=xs.length*sh.length→bF G sh (xs++ys) (c++d)
 |[],ys,c,d,_,b,hl=>by
  have:c=[]:=RN (by simpa using hl);subst this;exact b
 |x::xs,ys,c,d,hx,b,hl=>by
  unfold bF at hx;rw[Kb];unfold bF;have a:sh.length≤c.length:=by rw[hl,iy,vo];omega
  refine⟨hx.1,?_,?_⟩
  ·rw[List.take_append_of_le_length a];exact hx.2.1
  ·rw[List.drop_append_of_le_length a]
   exact pW xs ys _ d hx.2.2 b (by rw[zk,hl,iy,vo];omega)
theorem rW {G:aI} {sh:List Kd}: ∀(xs:af) (cells:List Value),bF G sh xs cells→xs.length*sh.length≤cells.length∧bF G sh xs (cells.take (xs.length*sh.length))
 |[],cells,h=>by simp[fZ]
 |x::xs,cells,h=>by
  have d:=h;unfold bF at h;have ⟨i1,i2⟩:=rW xs _ h.2.2;obtain⟨u,b,c⟩:=h.2.1;have a:=lm h.1 b;rw[←c,B6] at a;have e:(x::xs).length*sh.length=sh.length+xs.length*sh.length:=by rw[iy,vo,RS,Vx]
  rw[zk] at i1;refine⟨by rw[e];omega,?_⟩;unfold bF;refine⟨h.1,⟨u,b,?_⟩,?_⟩
  ·rw[acX,e,ZG (by omega)];exact c
  ·rw[acY,e,Nat.add_sub_cancel_left];exact i2
theorem FU {G:aI} {sh:List Kd}: ∀(xs:af) (cells:List Value),bF G sh xs cells→ ∀u∈cells.take (xs.length*sh.length),u.oneCell'=true
 |[],cells,h,u,a=>by simp at a
 |x::xs,cells,h,u,a=>by
  unfold bF at h;obtain⟨v,g,i⟩:=h.2.1;have e:(x::xs).length*sh.length=sh.length+xs.length*sh.length:=by rw[iy,vo,RS,Vx]
  rw[e,List.take_add,R9] at a;rcases a with a|a
  ·rw[i] at a
   have hx:x≠.any:=fun e=>by have f:=h.1;rw[e,jy] at f;cases f
   obtain⟨hl,c⟩:=jT g hx;obtain⟨j,d,rfl⟩:=acB a;have b:j<x.cells.length:=by rw[c.1];exact d
   have k:=gU _ _ h.1;exact P9 (vT sh x.cells h.1 j _ _ (gQ (by omega)) (gQ b)) (c.2 j _ _ (gQ b) (gQ d))
  ·exact FU xs _ h.2.2 u a
theorem nN (a:List Value):(Value.agg a.toArray).cells.toList=a:=by simp[Value.cells]
theorem mM {G:aI} {sh:List Kd} {ag:Bool} (h:(ag||sh.length==1)=true): ∀(n:Nat) (d:af) (us:List Value),PW (aJ G) d us→d.length=n*sh.length→0<sh.length→qd sh (chunks ag sh.length n d)=true→
  bF G sh (chunks ag sh.length n d) us
 |0,d,us,_,_,_,_=>by unfold chunks;exact fZ
 |n+1,d,us,w,hl,A,q=>by
  unfold chunks at q⊢;simp only[qd,av] at q;split at q
  ·rename_i j
   unfold bF;have e:(n+1)*sh.length=sh.length+n*sh.length:=by rw[vo,RS,Vx]
   refine⟨j,?_,mM h n _ _ (w.drop _) (by rw[zk,hl,e];omega) A q⟩
   cases ag with
   |true=>
    refine⟨.agg (us.take sh.length).toArray,?_,by rw[nN]⟩;show aJ G (.agg _) _;unfold aJ;exact⟨_,rfl,(dI _ _).2 (w.take _)⟩
   |false=>
    simp only[Xq,fT] at h;have s:0<d.length:=by rw[hl,e];omega
    obtain⟨v,z,a⟩:=w.get (getD_some (l:=d) (i:=0) s);generalize d.getD 0 .any=x at a j⊢;have r:eP sh (om x)=true:=j;have g:om x≠.any:=by
     intro e;rw[e,jy] at r;exact absurd r (by decide)
    have hx:om x=x∧v.cells= #[v]:=by
     cases x with
     |agg C=>exact absurd rfl g
     |tup C=>exact absurd rfl g
     |any=>exact absurd rfl g
     |bool b=>unfold aJ at a;subst a;exact⟨rfl,rfl⟩
     |int k m=>unfold aJ at a;subst a;exact⟨rfl,rfl⟩
     |str l=>unfold aJ at a;subst a;exact⟨rfl,rfl⟩
     |nilsl=>unfold aJ at a;subst a;exact⟨rfl,rfl⟩
     |sl e B o xs=>unfold aJ at a;obtain⟨p,cap,rfl,_⟩:=a;exact⟨rfl,rfl⟩
     |rptr B x off=>unfold aJ at a;obtain⟨b,o,l,rfl,_⟩:=a;exact⟨rfl,rfl⟩
     |box k o=>unfold aJ at a;exact a.elim
     |eptr _ _ _ _ _ _=>unfold aJ at a;exact a.elim
     |fn f c=>unfold aJ at a;obtain⟨rfl,_⟩:=a;exact⟨rfl,rfl⟩
     |nilif=>unfold aJ at a;subst a;exact⟨rfl,rfl⟩
     |nilp=>unfold aJ at a;subst a;exact⟨rfl,rfl⟩
     |iface t y=>unfold aJ at a;obtain⟨u,rfl,_⟩:=a;exact⟨rfl,rfl⟩
     |bxa _ _=>unfold aJ at a;exact a.elim
     |out _ _ _=>unfold aJ at a;exact a.elim
     |qD _ _ _=>unfold aJ at a;obtain⟨b,l,rfl,_⟩:=a;exact⟨rfl,rfl⟩
     |old _=>unfold aJ at a;exact a.elim
     |slz _ _ _ _ _ _ _ _ _ _=>unfold aJ at a;exact a.elim
     |epz _ _ _ _ _=>unfold aJ at a;exact a.elim
     |keep _ _=>unfold aJ at a;exact a.elim
    show∃u,aJ G (om x) u∧_;refine⟨v,by rw[hx.1];exact a,?_⟩;rw[hx.2,h]
    cases us with
    |nil=>simp at z
    |cons u us=>simp at z;subst z;rfl
  ·cases q
section
variable {P:Program} {ρ:Operand→Value} {o:Oper} {B:Own} {w:World} {g:Gh} {bx:List (Nat×af)}
theorem aR {a b:Bool} (h:av a b=true):a=true∧b=true:=by
 cases a
 ·cases h
 ·exact⟨rfl,h⟩
theorem cK {a b:Int} (h:aH a b=true):a≤b:=B5 h
theorem tZ {a b:Int} (h:aZ a b=true):a<b:=B5 h
theorem oF {t e:TypeId} (h:Cf P t=some e):P.underlying t=some (.slice e):=by
 unfold Cf at h;split at h
 ·rename_i b a;simp only[aF] at h;subst h;exact a
 ·cases h
theorem au {α:Type} {c:Bool} {x:Option α} {y:α} (h:(bif c then x else none)=some y):c=true∧x=some y:=by
 cases c
 ·cases h
 ·exact⟨rfl,h⟩
theorem vU {xs:af} {i:Int} (b:0≤i) (a:i<xs.length):xs[i.toNat]? =some (bq xs i):=by
 unfold bq;exact getD_some (by omega)
theorem MK {L e:Nat} {sh:List Kd} {xs:af} {i:Int} {off:Nat} {v:Value} (h:aB g (.eptr L e sh xs i off) v):aB g (.rptr sh (bq xs i) off) v:=by
 obtain⟨t,b,s,k,h3,c,d,p⟩:=jV.1 h;rcases k with⟨_,a⟩|⟨n,cap,l,q,f,o,hl,hE⟩
 ·rw[a] at c;simp at c;omega
 ·rw[q] at d
  simp only[Value.ownBlock,aF] at d;subst d;obtain⟨j,u,m,r⟩:=tY xs _ hE _ _ (vU h3 c);exact gz.2 ⟨n,i.toNat*sh.length,l,p,o,j,u,m,r⟩
theorem yA {t:TypeId} {x i:Operand} {X:V} {k:IntKind} {n:Int} {eff:Eff} (ho:o.op=.indexAddr t x i) (hx:aB g X (ρ x)) (Q:ρ i=.int k n) (h:rR P t X n=some (true,eff)):Does P ρ o B w g bx eff:=by
 have R:execOp ρ o=(do pure (.value (←Instr.indexAt t (ρ x) (ρ i)))):=by simp only[execOp,ho]
 unfold rR at h;split at h
 ·rename_i e sh ow xs
  split at h
  ·rename_i e' F
   have I:=oF F;split at h
   ·rename_i m J
    have O:=au h;clear h;obtain⟨E,h⟩:=O;obtain rfl:m=sh.length:=by simpa using E
    clear E;simp only[aF,bP] at h;obtain⟨N,rfl⟩:=h;obtain⟨d,c⟩:=aR N;have d:=cK d;have c:=tZ c;unfold aQ at c;have s:=vU d c
    cases ow with
    |some L=>
     obtain⟨hL,M⟩:=hx;have ho2:=M;rcases M with⟨_,r⟩|⟨b,cap,l,y,_,_,_,_⟩
     ·rw[r] at c;simp at c;omega
     ·refine aT R (u:=.pointer (some ⟨b,0+n.toNat*sh.length,none⟩)) ?_ ?_
      ·rw[y,Q]
       simp[Instr.indexAt,asIntOf,run_underlying I,d,c,bW J,Addr.add_mid]
      ·exact jV.2 ⟨ρ x,b,hL,ho2,d,c,by rw[y];rfl,by rw[Fh,Ob]⟩
    |none=>
    have D:=jq hx;unfold aJ at D;obtain⟨p,cap,y,hcap,D⟩:=D;rcases D with D|⟨b,off,l,rfl,W,hE⟩
    ·rw[D] at c;simp at c;omega
    ·obtain⟨Z,u,G,v⟩:=tY xs _ hE _ _ s
     refine aT R (u:=.pointer (some ⟨b,off+n.toNat*sh.length,none⟩)) ?_ ?_
     ·rw[y,Q]
      simp[Instr.indexAt,asIntOf,run_underlying I,d,c,bW J,Addr.add_mid]
     ·rw[gz]
      refine⟨b,off+n.toNat*sh.length,l,rfl,W,Z,u,G,?_⟩;rw[Ke] at v;exact v
   ·cases h
  ·cases h
 ·rename_i L e sh xs o2 i2 c2 e2 Oo ys2
  split at h
  ·rename_i e' F
   have I:=oF F;split at h
   ·rename_i m J
    have O:=au h;clear h;obtain⟨E,h⟩:=O;obtain rfl:m=sh.length:=by simpa using E
    clear E;simp only[aF,bP] at h;obtain⟨N,rfl⟩:=h;obtain⟨d,c⟩:=aR N;have d:=cK d;have c:=tZ c;unfold aQ at c;obtain⟨l,hO,hC,⟨y,hl,_⟩,_⟩:=kF.1 hx;rcases y with⟨_,r⟩|⟨b,cap,y⟩
    ·rw[r] at c;simp at c;omega
    ·refine aT R (u:=.pointer (some ⟨b,0+n.toNat*sh.length,none⟩)) ?_ ?_
     ·rw[y,Q]
      simp[Instr.indexAt,asIntOf,run_underlying I,d,c,bW J,Addr.add_mid]
     ·refine lN.2 ⟨ρ x,b,l,hO,hC,d,?_,by rw[y];rfl,by rw[Fh,Ob]⟩
      have S:n.toNat+1≤xs.length:=by omega
      have h3:=J9 sh.length S;rw[vo,RS] at h3;rw[hl];exact h3
   ·cases h
  ·cases h
 ·rename_i sh z
  split at h
  ·rename_i m e I
   split at h
   ·rename_i f ag J hag
    have O:=au h;clear h;obtain⟨E,h⟩:=O;simp only[bB,fT] at E;obtain⟨⟨⟨hm1,H⟩,Y⟩,U⟩:=E;have H:0<f:=by simpa[zm] using H
    simp only[aF,bP] at h;obtain⟨N,rfl⟩:=h;obtain⟨d,c⟩:=aR N;have d:=cK d;have c:=tZ c;rw[gz] at hx;obtain⟨b,q,l,hp,W,Z,u,D,v⟩:=hx;have K:=D;unfold aJ at K;obtain⟨a,rfl,hL⟩:=K;rw[dI] at hL;have C:=gU _ _ Z;unfold V.cells at C;simp only at C;have j:(sh.take f).length=f:=by
     rw[B6];have:0<m:=by omega
     have:f≤m*f:=Nat.le_mul_of_pos_left _ this;omega
    have hcl:(chunks ag f m z).length=m:=by
     have: ∀(m:Nat) (z:af),(chunks ag f m z).length=m:=by
      intro m;induction m with
      |zero=>intro z;rfl
      |succ m ih=>intro z;unfold chunks;rw[iy,ih]
     exact this m z
    have hE:=mM (sh:=sh.take f) (ag:=ag) (by rw[j];exact Y) m z a hL (by rw[j];omega) (by rw[j];exact H) (by rw[j];exact U);rw[j] at hE;have s:=vU (xs:=chunks ag f m z) d (by rw[hcl];exact c);obtain⟨T,u,G,A⟩:=tY _ _ hE _ _ s;refine aT R (u:=.pointer (some ⟨b,q+n.toNat*f,none⟩)) ?_ ?_
    ·rw[hp,Q]
     simp[Instr.indexAt,asIntOf,run_underlying I,d,c,Instr.sureAddr,bW J,Addr.add_mid]
    ·rw[gz]
     refine⟨b,q+n.toNat*f,l,rfl,W,T,u,G,?_⟩;rw[nN] at v;rw[j] at A⊢;rw[←A,←v,←Ke];rw[acY,acX];congr 1
     have:f≤sh.length-n.toNat*f:=by
      have S:n.toNat+1≤m:=by omega
      have h3:=J9 f S;rw[vo,RS] at h3;omega
     omega
   ·cases h
  ·cases h
 ·cases h
theorem SY {l:ah} {i:Int} (c:0≤i) (b:i<l.length):(⟨l.toArray⟩:ByteArray)[i.toNat]? =some (l.getD i.toNat 0):=by
 have a:i.toNat<l.length:=by omega
 have:i.toNat<(⟨l.toArray⟩:ByteArray).size:=by simpa[ByteArray.size] using a
 rw[getElem?_pos (⟨l.toArray⟩:ByteArray) i.toNat this];congr 1
 show l.toArray[i.toNat]=_;rw[sQ,gQ a];simp
theorem G5 {t:TypeId} {x i:Operand} {X:V} {k:IntKind} {n:Int} {eff:Eff} (c:o.op=.index t x i) (hx:aB g X (ρ x)) (e:ρ i=.int k n) (h:IV P t X n=some (true,eff)):Does P ρ o B w g bx eff:=by
 have f:execOp ρ o=(do pure (.value (←Instr.index t (ρ x) (ρ i)))):=by simp only[execOp,c]
 unfold IV at h;split at h
 ·rename_i l
  split at h
  ·rename_i d
   simp only[aF,bP] at h;obtain⟨j,rfl⟩:=h;obtain⟨a,b⟩:=aR j;have a:=cK a;have b:=tZ b;unfold aK at b;rw[dS] at hx;refine aT f (u:=.int .u8 (sat l n)) ?_ (bu.2 rfl);rw[hx,e];simp only[Instr.index,asIntOf,Sem.run_bind,Sem.run_pure,Result.andThen_ok,run_underlying d,a,if_true,SY a b];rfl
  ·cases h
 ·cases h
theorem qj (l:ah):(⟨l.toArray⟩:ByteArray).size=l.length:=by simp[ByteArray.size]
theorem I4 (l:ah) (a b:Int):(⟨l.toArray⟩:ByteArray).extract a.toNat b.toNat=⟨(dN l a b).toArray⟩:=by
 apply ByteArray.ext
 simp[dN,acY]
theorem qx {y:Nat} {k:IntKind} {i:Int} {a:BoundsCode} (c:0≤i) (b:i≤y):(Instr.sliceBound (.int k i) y a).run P w=.ok i.toNat w:=by
 simp[Instr.sliceBound,asIntOf,c,b]
theorem AA {isSl:Bool} {len cap:Nat} {f e:Option Value} {a b:Int} (j:(f=none∧a=0)∨ ∃k,f=some (.int k a)) (i:(e=none∧b=len)∨ ∃k,e=some (.int k b)) (h:0≤a) (n:a≤b) (g:b≤cap):
  (Instr.sliceBounds isSl len cap f e none).run P w=.ok (a.toNat,b.toNat,cap) w:=by
 unfold Instr.sliceBounds;have c:0≤b:=by omega
 have l:(b.toNat:Int)=b:=Int.toNat_of_nonneg c;have d:a≤(b.toNat:Int):=by omega
 rcases i with⟨rfl,i⟩|⟨o,rfl⟩<;>rcases j with⟨rfl,rfl⟩|⟨m,rfl⟩
 ·have:len=b.toNat:=by omega
  simp[this]
 ·have:len=b.toNat:=by omega
  simp[qx h d,this]
 ·simp[qx c g]
 ·simp[qx c g,qx h d]
theorem BN {t:TypeId} {l:ah} {c d:Option Value} {a b:Int} (f:P.underlying t=some .string) (g:(c=none∧a=0)∨ ∃k,c=some (.int k a)) (m:(d=none∧b=l.length)∨ ∃k,d=some (.int k b))
  (j:0≤a) (i:a≤b) (h:b≤l.length):(Instr.sliceAt t (.string ⟨l.toArray⟩) c d none).run P w=.ok (.string ⟨(dN l a b).toArray⟩) w:=by
 have e:(Instr.sliceAt t (.string ⟨l.toArray⟩) c d none).run P w=(Instr.slice t (.string ⟨l.toArray⟩) c d none).run P w:=by
  simp[Instr.sliceAt,run_underlying f]
 rw[e];simp only[Instr.slice,Sem.run_bind,run_underlying f,Result.andThen_ok,Option.isSome_none,N6,Fj,Sem.run_pure,
  AA (P:=P) (w:=w) (isSl:=false) (len:=(⟨l.toArray⟩:ByteArray).size) (cap:=(⟨l.toArray⟩:ByteArray).size) g (by rw[qj];exact m) j i (by rw[qj];exact h),I4]
theorem BO {t e:TypeId} {p:Option Addr} {len cap f:Nat} {d c:Option Value} {a b:Int} (g:P.underlying t=some (.slice e)) (l:bL P e=some f) (m:(d=none∧a=0)∨ ∃k,d=some (.int k a)) (j:(c=none∧b=len)∨ ∃k,c=some (.int k b))
  (i:0≤a) (n:a≤b) (h:b≤cap):(Instr.sliceAt t (.slice p len cap) d c none).run P w=.ok (.slice (if cap=a.toNat then p else p.map (·.add (a.toNat*f))) (b.toNat-a.toNat) (cap-a.toNat)) w:=by
 have o:(Instr.sliceAt t (.slice p len cap) d c none).run P w=(Instr.slice t (.slice p len cap) d c none).run P w:=by
  simp[Instr.sliceAt,run_underlying g]
 rw[o];simp only[Instr.slice,Sem.run_bind,run_underlying g,Result.andThen_ok,Sem.run_pure,AA (P:=P) (w:=w) (isSl:=true) (len:=len) (cap:=cap) m j i n h,bW l]
theorem S7 {G:aI} {e:Nat} {sh:List Kd} {k:Option Nat} {xs:af} {p:Option Addr} {len cap:Nat} {a b:Int} (h:aJ G (.sl e sh k xs) (.slice p len cap)) (o:0≤a) (r:a≤b) (n:b≤xs.length):
  aJ G (.sl e sh none (yj xs a b)) (.slice (if cap=a.toNat then p else p.map (·.add (a.toNat*sh.length))) (b.toNat-a.toNat) (cap-a.toNat)):=by
 unfold aJ at h⊢;obtain⟨q,d,f,i,h⟩:=h;simp only[Value.slice.injEq] at f;obtain⟨rfl,rfl,rfl⟩:=f;have c:(yj xs a b).length=b.toNat-a.toNat:=by unfold yj;simp;omega
 refine⟨_,cap-a.toNat,by rw[c],by rw[c];omega,?_⟩;rcases h with h|⟨j,off,l,rfl,m,hE⟩
 ·refine .inl ?_
  rw[h];unfold yj;simp
 ·by_cases g:yj xs a b=[]
  ·exact .inl g
  ·refine .inr ⟨j,off+a.toNat*sh.length,l,?_,m,?_⟩
   ·have: ¬cap=a.toNat:=by
     intro s;apply g
     apply RN
     rw[c];omega
    rw[if_neg this,qJ,Addr.add_mid]
   ·rw[←Ke]
    unfold yj;exact Cw _ _ _ (Cv a.toNat xs _ hE)
theorem O8 {r:Operand→V} {ac:Act} (hE: ∀y,aB g (r y) (ac.eval y)) (a:Option Operand) (d:Int):
  (∀k n,a.map r=some (.int k n)→ ∃k,a.map ac.eval=some (.int k n))∧(a.map r=none→a.map ac.eval=none):=by
 cases a with
 |none=>exact⟨fun _ _ h=>(by cases h),fun _=>rfl⟩
 |some y=>
  refine⟨fun k n h=>?_,fun h=>?_⟩
  case refine_2=>cases h
  simp only[qJ,aF] at h;have:=hE y;rw[h,bu] at this;exact⟨k,by rw[qJ,this]⟩
theorem G6 {r:Operand→V} {ac:Act} {t:TypeId} {x:Operand} {F D:Option Operand} {eff:Eff} (ho:o.op=.slice t x F D none) (hE: ∀y,aB g (r y) (ac.eval y))
  (h:IW P t (r x) (F.map r) (D.map r)=some (true,eff)):Does P ac.eval o B w g bx eff:=by
 have he:execOp ac.eval o=(do pure (.value (←Instr.sliceAt t (ac.eval x) (F.map ac.eval) (D.map ac.eval) none))):=by simp only[execOp,ho,Option.map_none]
 have hx:=hE x;obtain⟨W,Q⟩:=O8 hE F 0;obtain⟨S,O⟩:=O8 hE D 0;unfold IW at h;split at h
 ·rename_i l L
  rw[L,dS] at hx;have c: ∀a b:Int,P.underlying t=some .string→((F.map ac.eval=none∧a=0)∨ ∃k,F.map ac.eval=some (.int k a))→((D.map ac.eval=none∧b=l.length)∨ ∃k,D.map ac.eval=some (.int k b))→0≤a→a≤b→b≤l.length→Does P ac.eval o B w g bx (.val (.str (dN l a b))):=by
   intro a b i ha Y T U X;refine aT he (u:=.string ⟨(dN l a b).toArray⟩) ?_ (dS.2 rfl);rw[hx];exact BN i ha Y T U X
  split at h
  ·rename_i k a k' b i f d
   simp only[aF,bP] at h;obtain⟨v,rfl⟩:=h;obtain⟨K,J⟩:=aR v;obtain⟨A,s⟩:=aR K;obtain⟨c3,c4⟩:=aR J;exact c a b i (.inr (W _ _ f)) (.inr (S _ _ d)) (cK c3) (cK c4) (cK s)
  ·rename_i k' b i f d
   simp only[aF,bP] at h;obtain⟨v,rfl⟩:=h;obtain⟨A,s⟩:=aR v;exact c 0 b i (.inl ⟨Q f,rfl⟩) (.inr (S _ _ d)) (Sf _) (cK A) (cK s)
  ·rename_i k a i f d
   simp only[aF,bP] at h;obtain⟨v,rfl⟩:=h;obtain⟨A,s⟩:=aR v;exact c a (aK l) i (.inr (W _ _ f)) (.inl ⟨O d,rfl⟩) (cK A) (cK s) (Sf _)
  ·rename_i i f d
   simp only[ok,aF,bP,je] at h;subst h;have:=c 0 l.length i (.inl ⟨Q f,rfl⟩) (.inl ⟨O d,rfl⟩) (Sf _) (by omega) (Sf _);have e:dN l 0 (l.length:Int)=l:=by unfold dN;simp
   rwa [e] at this
  ·cases h
 ·rename_i e sh ow xs L
  rw[L] at hx;have M:=jq hx;have j:=M;unfold aJ at j;obtain⟨p,cap,hv,hcap,_⟩:=j;rw[hv] at M;split at h
  ·cases h
  ·rename_i e' Z
   have i:=oF Z;split at h
   ·cases h
   ·rename_i n hs
    have hh:=au h;clear h;obtain⟨hn,h⟩:=hh;obtain rfl:n=sh.length:=by simpa using hn
    clear hn;have c: ∀a b:Int,((F.map ac.eval=none∧a=0)∨ ∃k,F.map ac.eval=some (.int k a))→((D.map ac.eval=none∧b=xs.length)∨ ∃k,D.map ac.eval=some (.int k b))→0≤a→a≤b→b≤xs.length→Does P ac.eval o B w g bx (.val (.sl e sh none (yj xs a b))):=by
     intro a b ha Y T U X;refine aT he (u:=.slice (if cap=a.toNat then p else p.map (·.add (a.toNat*sh.length))) (b.toNat-a.toNat) (cap-a.toNat)) ?_ (S7 M T U X);rw[hv];exact BO i hs ha Y T U (by omega)
    split at h
    ·rename_i k a k' b f d
     simp only[aF,bP] at h;obtain⟨v,rfl⟩:=h;obtain⟨K,J⟩:=aR v;obtain⟨A,s⟩:=aR K;obtain⟨c3,c4⟩:=aR J;exact c a b (.inr (W _ _ f)) (.inr (S _ _ d)) (cK c3) (cK c4) (cK s)
    ·rename_i k' b f d
     simp only[aF,bP] at h;obtain⟨v,rfl⟩:=h;obtain⟨A,s⟩:=aR v;exact c 0 b (.inl ⟨Q f,rfl⟩) (.inr (S _ _ d)) (Sf _) (cK A) (cK s)
    ·rename_i k a f d
     simp only[aF,bP] at h;obtain⟨v,rfl⟩:=h;obtain⟨A,s⟩:=aR v;exact c a (aQ xs) (.inr (W _ _ f)) (.inl ⟨O d,rfl⟩) (cK A) (cK s) (Sf _)
    ·rename_i f d
     simp only[ok,aF,bP,je] at h;subst h;have:=c 0 xs.length (.inl ⟨Q f,rfl⟩) (.inl ⟨O d,rfl⟩) (Sf _) (by omega) (Sf _);have e:yj xs 0 (xs.length:Int)=xs:=by unfold yj;simp
     rwa [e] at this
    ·cases h
 ·rename_i sh G L
  rw[L,gz] at hx;split at h
  ·rename_i m e i f d
   split at h
   ·rename_i C ag hs hag
    have hh:=au h;clear h;obtain⟨hm,h⟩:=hh;simp only[bB,fT] at hm;obtain⟨⟨⟨⟨hm1,I⟩,H⟩,hm3⟩,hm4⟩:=hm;have I:0<C:=by simpa[zm] using I
    have H:0<m:=by simpa[zm] using H
    simp only[ok,aF,bP,je] at h;subst h;obtain⟨b,q,l,hp,hG,hf,u,M,N⟩:=hx;have j:=M;unfold aJ at j;obtain⟨a,rfl,hL⟩:=j;rw[dI] at hL;have E:=gU _ _ hf;unfold V.cells at E;simp only at E;have z:(sh.take C).length=C:=by
     rw[B6];have:C≤m*C:=Nat.le_mul_of_pos_left _ H;omega
    have R:(chunks ag C m G).length=m:=by
     have: ∀(m:Nat) (G:af),(chunks ag C m G).length=m:=by
      intro m;induction m with
      |zero=>intro G;rfl
      |succ m ih=>intro G;unfold chunks;rw[iy,ih]
     exact this m G
    have hE:=mM (sh:=sh.take C) (ag:=ag) (by rw[z];exact hm3) m G a hL (by rw[z];omega) (by rw[z];exact I) (by rw[z];exact hm4);rw[z] at hE;rw[nN] at N;refine aT he (u:=.slice (some ⟨b,q,none⟩) m m) ?_ ?_
    ·rw[hp,Q f,O d]
     have hm': ¬m=0:=by omega
     simp[Instr.sliceAt,run_underlying i,Instr.sureAddr,Instr.sliceBounds,bW hs,hm',Addr.add_mid]
    ·refine bA rfl ?_
     unfold aJ;refine⟨some ⟨b,q,none⟩,m,by rw[R],by rw[R];exact iA _,.inr ⟨b,q,l,rfl,hG,?_⟩⟩;exact gy (.refl _) _ _ _ _ hE (by rw[←N];exact List.take_prefix _ _)
   ·cases h
  ·cases h
 ·cases h
theorem MN {t:TypeId} {x:Operand} {X:V} {c:Call} {eff:Eff} (s:o.op=.call c) (q:c.callee=.builtin .len) (j:c.argTypes.toList=[t]) (m:c.args.toList=[x]) (hx:aB g X (ρ x)) (h:VO P t X=some (true,eff)):Does P ρ o B w g bx eff:=by
 obtain⟨callee,args,argTypes⟩:=c;simp only at q j m;subst q;obtain rfl:args= #[x]:=by rw[←Ff];simpa using m
 obtain rfl:argTypes= #[t]:=by rw[←Ff];simpa using j
 have a: ∀u,(Builtin.len_ #[t] o.type #[ρ x]).run P w=.ok u w→(execOp ρ o).run P w=.ok (.value u) w:=by
  intro u d;simp[execOp,s,resolve,invoke,builtin,d]
 unfold VO at h;split at h
 ·rename_i l d
  simp only[ok,aF,bP,je] at h;subst h;rw[dS] at hx;exact⟨_,a (.int .i64 (aK l)) (by rw[hx];simp[Builtin.len_,run_underlying d,goInt,aK,qj]),bu.2 rfl⟩
 ·rename_i r e sh z xs d
  simp only[ok,aF,bP,je] at h;subst h;have k:=jq hx;unfold aJ at k;obtain⟨p,cap,f,_⟩:=k;exact⟨_,a (.int .i64 (aQ xs)) (by rw[f];simp[Builtin.len_,run_underlying d,goInt,aQ]),bu.2 rfl⟩
 ·rename_i e d
  simp only[ok,aF,bP,je] at h;subst h;rw[gL] at hx;exact⟨_,a (.int .i64 0) (by rw[hx];simp[Builtin.len_,run_underlying d,goInt]),bu.2 rfl⟩
 ·rename_i r L e sh xs o2 i c y v ys d
  simp only[ok,aF,bP,je] at h;subst h;obtain⟨l,_,_,⟨f,_⟩,_⟩:=kF.1 hx;obtain⟨p,cap,f⟩: ∃p cap,ρ x=.slice p xs.length cap:=by
   rcases f with⟨f,rfl⟩|⟨b,cap,f⟩
   ·exact⟨_,_,f⟩
   ·exact⟨_,_,f⟩
  exact⟨_,a (.int .i64 (aQ xs)) (by rw[f];simp[Builtin.len_,run_underlying d,goInt,aQ]),bu.2 rfl⟩
 ·rename_i n e d
  simp only[ok,aF,bP,je] at h;subst h;exact⟨_,a (.int .i64 n) (by simp[Builtin.len_,run_underlying d,goInt]),bu.2 rfl⟩
 ·cases h
theorem BP {x:Operand} {i:Nat} {vs:af} (e:o.op=.extract x i) (hx:aB g (.tup vs) (ρ x)) (h:i<vs.length) (c:(match vs.getD i .any with| .tup _=>false| .fn _ _=>false|_=>true)=true):Does P ρ o B w g bx (.val (vs.getD i .any)):=by
 have j:execOp ρ o=(do pure (.value (←Instr.extract (ρ x) i))):=by simp only[execOp,e]
 obtain⟨a,k,b⟩:=hx;obtain⟨u,f,d⟩:=b.get (getD_some h);refine aT j (u:=u) ?_ ?_
 ·rw[k]
  simp[Instr.extract,f]
 ·generalize vs.getD i .any=y at d c
  cases y with
  |tup _=>cases c
  |fn _ _=>cases c
  |_=>simp only[aB];exact d
end
section
variable {P:Program} {ρ:Operand→Value} {o:Oper} {B:Own} {w:World} {g:Gh} {bx:List (Nat×af)}
def upd (G:aI) (b:Nat) (l:List Value):aI:=fun k=>if k=b then some l else G k
theorem upd_same (G:aI) (b:Nat) (l:List Value):upd G b l b=some l:=by simp[upd]
theorem fE (G:aI) (b k:Nat) (l:List Value) (h:k≠b):upd G b l k=G k:=by simp[upd,h]
theorem dU {G:aI} (d:sU G w) {b:Nat} {l:List Value} (h:G b=some l):b<w.heap.size:=by
 obtain⟨c,e,fr,a,_⟩:=d b l h;exact(Array.getElem?_eq_some_iff.1 a).1
theorem EH {G:aI} (a:sU G w) (l:List Value):jB G (upd G w.heap.size l):=by
 intro b m h;have:=dU a h;exact⟨m,by rw[fE _ _ _ _ (by omega)];exact h,IC _⟩
theorem KJ {G:aI} (a:sU G w) {w':World} {c:Array Value} {e:TypeId} {fr:Nat×Nat} (hB:Below w.heap.size w w') (f:w'.heap[w.heap.size]? =some (.cells c e fr)) (n:Nat) (j:n≤c.size):
  New w w' G (upd G w.heap.size (c.toList.take n)):=by
 refine⟨hB,fun b p=>fE _ _ _ _ (by omega),?_⟩;intro b l h;by_cases d:b=w.heap.size
 ·subst d
  rw[upd_same] at h;simp only[aF] at h;subst h;refine⟨c,e,fr,f,?_⟩;have k:c.toList.length=c.size:=by simp
  rw[B6,k,ZG j]
 ·rw[fE _ _ _ _ d] at h
  obtain⟨g,o,fr',m,i⟩:=a b l h;exact⟨g,o,fr',by rw[hB.block b (dU a h)];exact m,i⟩
theorem iM (w:World) (o:Obj):Below w.heap.size w (w.alloc o):=(Below.refl _ _).alloc (iA _) o
theorem gH {t e:TypeId} {sh:List Kd} {z:V} (h:elemOf P t=some (e,sh,z)):P.underlying t=some (.slice e)∧ ∃i a,P.info? e=some i∧i.zero=some a∧z=mo a∧sh=eG P 8 e∧i.size=sh.length∧0<sh.length∧a.cells.size=sh.length∧i.bytes≤8388608∧eP sh z=true:=by
 unfold elemOf at h;split at h
 ·cases h
 ·rename_i n f
  split at h
  ·cases h
  ·rename_i i d
   split at h
   ·cases h
   ·rename_i a l
    have c:=au h;clear h;obtain⟨b,h⟩:=c;simp only[aF,bP] at h;obtain⟨rfl,rfl,rfl⟩:=h;simp only[bB,fT,zm] at b;obtain⟨⟨⟨⟨j,m⟩,h3⟩,g⟩,k⟩:=b;exact⟨oF f,i,a,d,l,rfl,rfl,j,by omega,by omega,R6 g,k⟩
theorem kX {G:aI} {e:Nat} {sh:List Kd} {xs:af} {cap:Nat} {c:Array Value} {w':World} (f:sU G w) (hB:Below w.heap.size w w') (d:w'.heap[w.heap.size]? =some (.cells c e (0,0))) (h:0<sh.length)
  (a:xs.length≤cap) (i:cap≤maxLen) (g:c.size=cap*sh.length) (hE:bF G sh xs (c.toList.take (xs.length*sh.length))):
  ∃G',New w w' G G'∧gq G' w' (w.heap.size≤ ·) e sh xs (.slice (some ⟨w.heap.size,0,none⟩) xs.length cap):=by
 have b:xs.length*sh.length≤c.size:=by rw[g];exact J9 _ a
 refine⟨_,KJ f hB d (xs.length*sh.length) b,h,.inr ⟨w.heap.size,cap,c,_,rfl,iA _,d,a,i,g,upd_same _ _ _,?_,?_⟩⟩
 ·have j:c.toList.length=c.size:=by simp
  rw[B6,j];omega
 ·exact gy (EH f _) sh xs _ _ hE (IC _)
theorem G7 {t:TypeId} {l c:Operand} {L C:V} {eff:Eff} (W:o.op=.makeSlice t l c) (hG:sU g.G w) (hl:aB g L (ρ l)) (O:aB g C (ρ c)) (h:OB P t L C=some (true,eff)):Does P ρ o B w g bx eff:=by
 have he:execOp ρ o=(do pure (.value (←Instr.makeSlice t (ρ l) (ρ c)))):=by simp only[execOp,W]
 unfold OB at h;split at h
 ·rename_i n m e sh z y
  simp only[aF,bP] at h;obtain⟨J,rfl⟩:=h;obtain⟨D,I⟩:=aR J;obtain⟨F,M⟩:=aR I;have D:=cK D;have F:=cK F;have M:=cK M;obtain⟨Z,i,a,hi,U,rfl,_,s,Q,H,X,d⟩:=gH y;rw[bu] at hl O;have q:m≤9223372036854775807:=by omega
  have v:m.toNat*i.size≤m.toNat*i.size:=iA _;have f:(i.bytes:Int)*m≤281474976710656:=by
   have S:(i.bytes:Int)≤8388608:=by omega
   calc (i.bytes:Int)*m≤8388608*m:=Int.mul_le_mul_of_nonneg_right S (by omega)
    _≤8388608*16777216:=by omega
    _≤281474976710656:=by decide
  have Y:=run_make (P:=P) w t e i a Z hi U .i64 .i64 n m D F f q;have u:(madeCells a.cells (m.toNat*i.size)).size=m.toNat*sh.length:=by rw[size_madeCells,s]
  have hE:bF g.G sh (vB n (mo a)) ((madeCells a.cells (m.toNat*i.size)).toList.take ((vB n (mo a)).length*sh.length)):=by
   have hx:mo a≠.any:=fun e=>by rw[e,jy] at d;cases d
   have E: ∀(k:Nat) (cells:List Value),k*sh.length≤cells.length→(∀j,j<k*sh.length→cells[j]? =some (a.cells[j%a.cells.size]!))→bF g.G sh (List.replicate k (mo a)) cells:=by
    intro k;induction k with
    |zero=>intro cells _ _;exact fZ
    |succ k ih=>
     intro cells p x;have N:(k+1)*sh.length=sh.length+k*sh.length:=by rw[vo,RS,Vx]
     rw[acC];unfold bF;refine⟨d,⟨a,pJ _ _,?_⟩,ih _ (by rw[zk];omega) ?_⟩
     ·apply acJ
      intro j;rw[Iw];by_cases r:j<sh.length
      ·rw[if_pos r,x j (by omega),Nat.mod_eq_of_lt (by omega)]
       have:j<a.cells.size:=by omega
       simp[this]
      ·rw[if_neg r,Xi (by simp;omega)]
     ·intro j R
      rw[IB,x _ (by omega),H,Nat.add_mod_left]
   have p:n.toNat≤m.toNat:=by omega
   have b:(vB n (mo a)).length=n.toNat:=by unfold vB;simp
   rw[b];refine E n.toNat _ ?_ ?_
   ·have N:(madeCells a.cells (m.toNat*i.size)).toList.length=m.toNat*sh.length:=by rw[←u];simp
    rw[B6,N];have:=J9 sh.length p;omega
   ·intro j x
    rw[Iw,if_pos x];have K:j<m.toNat*i.size:=by
     have:=J9 sh.length p;rw[s];omega
    simp[madeCells,K]
  have b:(vB n (mo a)).length=n.toNat:=by unfold vB;simp
  have A:=fun hE=>kX (e:=e) (sh:=sh) (xs:=vB n (mo a)) (cap:=m.toNat) (c:=madeCells a.cells (m.toNat*i.size)) hG (iM w (.cells (madeCells a.cells (m.toNat*i.size)) e)) (heap_alloc_new w _) Q (by rw[b];omega) (by unfold maxLen;omega) u hE
  obtain⟨G',hN,T⟩:=A hE;refine⟨_,_,G',?_,hN,T⟩;rw[he,hl,O,b];simp only[Sem.run_bind,Y,Result.andThen_ok,Sem.run_pure]
 ·cases h
theorem AB: ∀(vs:List Value) (cells:Array Value) (off k:Nat),off+k+vs.length≤cells.size→
  ((vs.zipIdx k).foldl (fun a (x:Value×Nat)=>a.setIfInBounds (off+x.2) x.1) cells).toList=cells.toList.take (off+k)++vs++cells.toList.drop (off+k+vs.length)
 |[],cells,off,k,h=>by simp
 |v::vs,cells,off,k,h=>by
  simp only[iy] at h;rw[List.zipIdx_cons,List.foldl_cons,AB vs _ off (k+1) (by simp;omega)];simp only[Xg];have b:off+k<cells.toList.length:=by simp;omega
  rw[show off+(k+1)=off+k+1 by omega,List.take_add_one,Zv b,List.take_set_of_le (iA _),List.drop_set_of_lt (by omega)];simp only[Option.toList_some,iy];rw[show off+k+1+vs.length=off+k+(vs.length+1) by omega];simp
theorem KL {R:V→Value→Prop} {b vs:af} {us a:List Value} (h:PW R b us) (k:PW R vs a) (off:Nat):PW R (over b off vs) (us.take off++a++us.drop (off+a.length)):=by
 unfold over;rw[←k.1];exact((h.take off).append k).append (h.drop _)
theorem oG {G:aI} {n:Nat→Option (Nat×Nat)}: ∀(g:List (Nat×V)) (d:List (Nat×Value)) (m out:af) (cells:Array Value),g.map (·.1)=d.map (·.1)→(∀(i:Nat) (x:V) (v:Value),(g[i]?).map (fun(p:Nat×V)=>p.2)=some x→(d[i]?).map (fun(p:Nat×Value)=>p.2)=some v→ ∀y,x.deep=some y→aJ G y v)→
  PW (aJ G) m cells.toList→qO n m g=some out→ ∃k,Instr.fill n cells d=some k∧PW (aJ G) out k.toList
 |[],d,m,out,cells,q,_,z,h=>by
  cases d with
  |nil=>simp only[qO,aF] at h;subst h;exact⟨cells,rfl,z⟩
  |cons x l=>simp at q
 |(i,x)::u,d,m,out,cells,q,K,z,h=>by
  cases d with
  |nil=>simp at q
  |cons y l=>
   obtain⟨S,v⟩:=y;simp only[yJ,Sb] at q;obtain⟨rfl,q⟩:=q;simp only[qO] at h;split at h
   ·rename_i off size E B w
    have O:=au h;clear h;obtain⟨L,h⟩:=O;simp only[bB,fT] at L;obtain⟨Q,r⟩:=L;have r:=R6 r;have t:=K 0 x v rfl rfl E w;have A:E≠.any:=by
     intro e;subst e;have:=iI w
     cases x with
     |fn f c=>cases c<;>simp[V.deep] at w
     |_=>simp[V.deep] at w
    obtain⟨hl,C⟩:=jT t A;have P:v.cells.size=size:=by omega
    have I:off+v.cells.size≤cells.size:=by
     have J:=z.1;have R:cells.toList.length=cells.size:=by simp
     omega
    have D:((v.cells.toList.zipIdx 0).foldl (fun m (x:Value×Nat)=>m.setIfInBounds (off+x.2) x.1) cells).toList=cells.toList.take off++v.cells.toList++cells.toList.drop (off+v.cells.toList.length):=by
     have:=AB v.cells.toList cells off 0 (by simpa using I);simpa using this
    have o:v.cells.zipIdx.foldl (fun m (x:Value×Nat)=>m.setIfInBounds (off+x.2) x.1) cells=(v.cells.toList.zipIdx 0).foldl (fun m (x:Value×Nat)=>m.setIfInBounds (off+x.2) x.1) cells:=by
     rw[←Array.foldl_toList];simp
    have F:PW (aJ G) (over m off E.cells) (v.cells.zipIdx.foldl (fun m (x:Value×Nat)=>m.setIfInBounds (off+x.2) x.1) cells).toList:=by
     rw[o,D];exact KL z C off
    obtain⟨k,N,H⟩:=oG u l _ out _ q (fun j a b J M=>K (j+1) a b J M) F h;refine⟨k,?_,H⟩;unfold Instr.fill;rw[B];simp only;split
    ·rename_i s
     exfalso;simp at s;omega
    ·exact N
   ·cases h
end
section
variable {P:Program} {ρ:Operand→Value} {o:Oper} {B:Own} {w:World} {g:Gh} {bx:List (Nat×af)}
theorem FV {t:TypeId} {arr:List Value} {off n:Nat} (b:bf P t=some true) (a:bL P t=some n):(part t arr.toArray off).run P w=.ok (.agg ((arr.drop off).take n).toArray) w:=by
 simp only[part,Sem.run_bind,j4 b,Result.andThen_ok,if_true,bW a,Sem.run_pure];have e:arr.toArray.extract off (off+n)=(List.take n (List.drop off arr)).toArray:=by
  rw[←Ff];simp
 rw[e]
theorem Ae {t:TypeId} {arr:List Value} {off:Nat} {v:Value} (a:bf P t=some false) (b:arr[off]? =some v):(part t arr.toArray off).run P w=.ok v w:=by
 simp[part,j4 a,b]
def VX (P:Program) (t:TypeId) (us:List Value) (u:Value):Prop:=(bf P t=some true∧u=.agg us.toArray)∨(bf P t=some false∧us=[u])
theorem Cx {t:TypeId} {arr:List Value} {off n:Nat} {b:Bool} (d:bf P t=some b) (g:bL P t=some n) (a:b=false→((arr.drop off).take n).length=1):
  ∃u,(part t arr.toArray off).run P w=.ok u w∧VX P t ((arr.drop off).take n) u:=by
 cases b with
 |true=>exact⟨_,FV d g,.inl ⟨d,rfl⟩⟩
 |false=>
  have a:=a rfl
  cases e:(arr.drop off).take n with
  |nil=>rw[e] at a;cases a
  |cons u f=>
   cases f with
   |cons _ _=>rw[e] at a;simp at a
   |nil=>
    refine⟨u,Ae d ?_,.inr ⟨d,rfl⟩⟩;have c:((arr.drop off).take n)[0]? =some u:=by rw[e];rfl
    rw[Iw] at c;split at c
    ·rw[IB,Ob] at c;exact c
    ·cases c
theorem Qb {m:Nat} {t:TypeId} {xs ys:af} {c:Bool} (h:RU P m t xs ys=some c): ∃b,bf P t=some b∧(b=false→xs.length=1∧ys.length=1):=by
 cases m with
 |zero=>cases h
 |succ m=>
  unfold RU at h;unfold bf;split at h
  ·rename_i a
   rw[a];refine⟨false,rfl,fun _=>?_⟩;split at h
   ·exact⟨rfl,rfl⟩
   ·cases h
  ·rename_i k a
   rw[a];refine⟨false,rfl,fun _=>?_⟩;split at h
   ·exact⟨rfl,rfl⟩
   ·cases h
  ·rename_i a
   rw[a];refine⟨false,rfl,fun _=>?_⟩;split at h
   ·exact⟨rfl,rfl⟩
   ·cases h
  ·rename_i d a
   rw[a];exact⟨true,rfl,fun h=>by cases h⟩
  ·rename_i k e a
   rw[a];exact⟨true,rfl,fun h=>by cases h⟩
  ·cases h
def SE (P:Program) (w:World) (m d:Nat):Prop:=∀(t:TypeId) (xs ys:af) (c:Bool),RU P m t xs ys=some c→ ∀(G:aI) (us vs:List Value) (u v:Value),PW (aJ G) xs us→PW (aJ G) ys vs→VX P t us u→VX P t vs v→
 (Op.equalIn (d+m) t u v).run P w=.ok c w
theorem step_ok {m d:Nat} (q:SE P w m d) {t:TypeId} {n off:Nat} {xs ys:af} {c:Bool} (j:bL P t=some n) (h:RU P m t ((xs.drop off).take n) ((ys.drop off).take n)=some c) {G:aI} {us vs:List Value} (hx:PW (aJ G) xs us) (l:PW (aJ G) ys vs):
  ∃a b,(part t us.toArray off).run P w=.ok a w∧(part t vs.toArray off).run P w=.ok b w∧(Op.equalIn (d+m) t a b).run P w=.ok c w:=by
 obtain⟨b,i,k⟩:=Qb h;have f:=(hx.drop off).take n;have g:=(l.drop off).take n;obtain⟨u,o,s⟩:=Cx (w:=w) (arr:=us) (off:=off) i j (fun e=>by rw[←f.1];exact(k e).1);obtain⟨v,r,p⟩:=Cx (w:=w) (arr:=vs) (off:=off) i j (fun e=>by rw[←g.1];exact(k e).2);exact⟨u,v,o,r,q t _ _ c h G _ _ u v f g s p⟩
theorem AF {α:Type} {f:α→Option Bool} {a:α} {l:List α} {c:Bool} (h:allEq f (a::l)=some c): ∃p q,f a=some p∧allEq f l=some q∧c=(match p with|true=>q|false=>false):=by
 cases l with
 |nil=>
  simp only[allEq] at h;refine⟨c,true,h,rfl,?_⟩
  cases c<;>rfl
 |cons b l=>
  simp only[allEq] at h;split at h
  ·rename_i p q d e
   simp only[aF] at h;subst h;exact⟨p,q,d,e,rfl⟩
  ·cases h
theorem Cy {m d:Nat} (l:SE P w m d) {xs ys:af} {G:aI} {us vs:List Value} (hx:PW (aJ G) xs us) (k:PW (aJ G) ys vs): ∀(g:List Field) (c:Bool),
  allEq (fun f=>bif f.name== "_" then none else match bL P f.type with
    |some n=>RU P m f.type ((xs.drop f.offset).take n) ((ys.drop f.offset).take n)
    |none=>none) g=some c→(Op.eqFields (d+m) us.toArray vs.toArray g).run P w=.ok c w
 |[],c,h=>by
  simp only[allEq,aF] at h;subst h;rfl
 |f::g,c,h=>by
  obtain⟨p,q,e,o,rfl⟩:=AF h;have h3:=Cy l hx k g q o
  cases j:f.name== "_" with
  |true=>rw[j] at e;cases e
  |false=>
   rw[j,fQ] at e;have i:f.name≠ "_" :=by simpa using j
   split at e
   ·rename_i n t
    obtain⟨a,b,u,s,r⟩:=step_ok l t e hx k;simp only[Op.eqFields,i,ne_eq,not_false_eq_true,if_true,Sem.run_bind,u,s,r,Result.andThen_ok]
    cases p
    ·rfl
    ·simpa using h3
   ·cases e
theorem FW {m d:Nat} (k:SE P w m d) {e:TypeId} {n:Nat} (j:bL P e=some n) {xs ys:af} {G:aI} {us vs:List Value} (hx:PW (aJ G) xs us) (g:PW (aJ G) ys vs): ∀(f:List Nat) (c:Bool),
  allEq (fun i=>RU P m e ((xs.drop (i*n)).take n) ((ys.drop (i*n)).take n)) f=some c→(Op.eqItems (d+m) e n us.toArray vs.toArray f).run P w=.ok c w
 |[],c,h=>by
  simp only[allEq,aF] at h;subst h;rfl
 |i::f,c,h=>by
  obtain⟨p,q,r,l,rfl⟩:=AF h;have h3:=FW k j hx g f q l;obtain⟨a,b,s,t,o⟩:=step_ok k j r hx g;simp only[Op.eqItems,Sem.run_bind,s,t,o,Result.andThen_ok]
  cases p
  ·rfl
  ·simpa using h3
theorem vV (d:Nat): ∀m,SE P w m d
 |0=>fun t xs ys c h=>by cases h
 |m+1=>by
  intro t xs ys c h G us vs u v hx y j g;have I:=vV d m;show(Op.equalIn ((d+m)+1) t u v).run P w=.ok c w;unfold RU at h;split at h
  ·rename_i l
   have o:bf P t=some false:=by unfold bf;rw[l]
   split at h
   ·simp only[aF] at h
    subst h;obtain⟨D,C,rfl,b,q⟩:=hx.cons_inv;obtain⟨B,s',rfl,f,p⟩:=y.cons_inv;rw[q.bH] at j;rw[p.bH] at g;unfold aJ at b f;rcases j with⟨a,_⟩|⟨_,j⟩
    ·rw[o] at a;cases a
    ·rcases g with⟨a,_⟩|⟨_,g⟩
     ·rw[o] at a;cases a
     ·simp only[Sb,and_true] at j g
      rw[←j,←g,b,f];exact run_equalIn_bool' w _ t _ _ l
   ·cases h
  ·rename_i k l
   have o:bf P t=some false:=by unfold bf;rw[l]
   split at h
   ·have J:=au h
    clear h;obtain⟨s,h⟩:=J;have z:=B5 s;clear s;subst z;simp only[aF] at h;subst h;obtain⟨D,C,rfl,b,q⟩:=hx.cons_inv;obtain⟨B,s',rfl,f,p⟩:=y.cons_inv;rw[q.bH] at j;rw[p.bH] at g;unfold aJ at b f;rcases j with⟨a,_⟩|⟨_,j⟩
    ·rw[o] at a;cases a
    ·rcases g with⟨a,_⟩|⟨_,g⟩
     ·rw[o] at a;cases a
     ·simp only[Sb,and_true] at j g
      rw[←j,←g,b,f];exact run_equalIn_int w _ t _ _ _ _ l
   ·cases h
  ·rename_i l
   have o:bf P t=some false:=by unfold bf;rw[l]
   split at h
   ·simp only[aF] at h
    subst h;obtain⟨D,C,rfl,b,q⟩:=hx.cons_inv;obtain⟨B,s',rfl,f,p⟩:=y.cons_inv;rw[q.bH] at j;rw[p.bH] at g;unfold aJ at b f;rcases j with⟨a,_⟩|⟨_,j⟩
    ·rw[o] at a;cases a
    ·rcases g with⟨a,_⟩|⟨_,g⟩
     ·rw[o] at a;cases a
     ·simp only[Sb,and_true] at j g
      rw[←j,←g,b,f,run_equalIn_string w _ t _ _ l,rV]
   ·cases h
  ·rename_i E l
   have o:bf P t=some true:=by unfold bf;rw[l]
   cases r:P.stoodInHeld t with
   |true=>rw[r] at h;cases h
   |false=>
    rw[r,fQ] at h;rcases j with⟨_,rfl⟩|⟨a,_⟩
    ·rcases g with⟨_,rfl⟩|⟨a,_⟩
     ·have x:P.fieldsOf t=E:=by unfold Program.fieldsOf;rw[l]
      rw[run_equalIn_struct w _ t _ _ (by rw[x];exact l) r,x];exact Cy I hx y E.toList c h
     ·rw[o] at a;cases a
    ·rw[o] at a;cases a
  ·rename_i k e l
   have o:bf P t=some true:=by unfold bf;rw[l]
   split at h
   ·rename_i n F
    obtain⟨i,H,A⟩:=jr F;rcases j with⟨_,rfl⟩|⟨a,_⟩
    ·rcases g with⟨_,rfl⟩|⟨a,_⟩
     ·have K:P.cellsOf e=n:=by simp[Program.cellsOf,H,A]
      rw[run_equalIn_array w _ _ _ l H,K];exact FW I F hx y (List.range k) c h
     ·rw[o] at a;cases a
    ·rw[o] at a;cases a
   ·cases h
  ·cases h
theorem Jp {op:BinOp} {d r:TypeId} {x y:Operand} {X Y:V} {eff:Eff} (p:o.op=.binOp op d x y r) (hx:aB g X (ρ x)) (q:aB g Y (ρ y)) (h:VN P op d X Y=some (true,eff))
  (b: ∀{eff:Eff},(bif IU P d X then VM (Sv op X Y) else none)=some (true,eff)→Does P ρ o B w g bx eff):Does P ρ o B w g bx eff:=by
 have n:execOp ρ o=(do pure (.value (←(do eqGuard op d x y (ρ x) (ρ y);binOp op d (ρ x) (ρ y))))):=by simp only[execOp,p]
 unfold VN at h;split at h
 ·rename_i m bs
  cases k:P.eqGuardType P.depth d with
  |true=>rw[k] at h;cases h
  |false=>
   rw[k,fQ] at h;obtain⟨us,j,f⟩:=gu.1 hx;obtain⟨vs,i,e⟩:=gu.1 q;split at h
   ·rename_i c a l
    simp only[ok,aF,bP,je] at h;subst h;have:=vV (P:=P) (w:=w) 9992 8 d m bs c l g.G us vs _ _ f e (.inl ⟨a,rfl⟩) (.inl ⟨a,rfl⟩);refine aT n (u:=.bool c) ?_ (bn.2 rfl);rw[j,i];simp only[Sem.run_bind,run_eqGuard_agg w _ _ _ _ _ _ k,Result.andThen_ok,run_eql_struct,this]
   ·rename_i c a l
    simp only[ok,aF,bP,je] at h;subst h;have:=vV (P:=P) (w:=w) 9992 8 d m bs c l g.G us vs _ _ f e (.inl ⟨a,rfl⟩) (.inl ⟨a,rfl⟩);refine aT n (u:=.bool (aS c)) ?_ (bn.2 rfl);rw[j,i];simp only[Sem.run_bind,run_eqGuard_agg w _ _ _ _ _ _ k,Result.andThen_ok,run_neq_struct,this];rfl
   ·cases h
 ·exact b h
theorem BQ {t:TypeId} {x i:Operand} {k off:Nat} {q:IntKind} {n:Int} {eff:Eff} (z:o.op=.indexAddr t x i) (hx:aB g (.box k off) (ρ x)) (E:ρ i=.int q n) (h:zY P t k off n=some (true,eff)):Does P ρ o B w g bx eff:=by
 have F:execOp ρ o=(do pure (.value (←Instr.indexAt t (ρ x) (ρ i)))):=by simp only[execOp,z]
 unfold zY at h;split at h
 ·rename_i m e C
  split at h
  ·rename_i l D
   obtain⟨I,h⟩:=au h;simp only[aF,bP,je] at h;subst h;obtain⟨b,r,y⟩:=cu.1 hx;intro j v G p;subst G;rw[qa] at p;obtain⟨H,a,rfl⟩:=Option.map_eq_some_iff.1 p;have c:j<m:=by
    have:=(List.getElem?_eq_some_iff.1 a).1;simpa using this
   rw[XK c] at a;simp only[aF] at a;subst a;obtain⟨u,d,f⟩:=(aT (B:=B) (bx:=bx) (v:=.box k (off+j*l)) F (u:=.pointer (some ⟨b,off+j*l,none⟩)) (by
    rw[y,E];have s:(j:Int)<(m:Int):=by omega
    simp[Instr.indexAt,asIntOf,run_underlying C,s,Instr.sureAddr,bW D,Addr.add_mid];intro A;exact absurd A (by omega)) (cu.2 ⟨b,r,rfl⟩):Does P ρ o B w g bx (.val (.box k (off+j*l))))
   exact⟨u,d,f⟩
  ·cases h
 ·cases h
theorem AJ {ag:Bool} {a:Nat}: ∀(n:Nat) (b:af) (j:Nat) (v:V),(chunks ag a n b)[j]? =some v→j<n∧v=(match ag with|true=>V.agg ((b.drop (j*a)).take a)|false=>om ((b.drop (j*a)).getD 0 .any))
 |0,b,j,v,h=>by simp[chunks] at h
 |n+1,b,j,v,h=>by
  unfold chunks at h
  cases j with
  |zero=>
   simp only[BZ,aF] at h;subst h;refine⟨by omega,?_⟩
   cases ag<;>simp
  |succ j=>
   simp only[XG] at h;obtain⟨d,c⟩:=AJ n _ j v h;refine⟨by omega,?_⟩;rw[c];rw[Ke,show a+j*a=(j+1)*a by rw[vo];omega]
theorem MO {v:V} (h:v.one=true):v.plain=true∧om v=v:=by
 cases v with
 |sl e sh a xs=>cases a<;>first|exact⟨rfl,rfl⟩|cases h
 |any=>cases h
 |agg _=>cases h
 |tup _=>cases h
 |box _ _=>cases h
 |eptr _ _ _ _ _ _=>cases h
 |fn _ _=>cases h
 |bxa _ _=>cases h
 |out _ _ _=>cases h
 |qD _ _ _=>cases h
 |old _=>cases h
 |slz _ _ _ _ _ _ _ _ _ _=>cases h
 |epz _ _ _ _ _=>cases h
 |keep _ _=>cases h
 |_=>exact⟨rfl,rfl⟩
theorem Cz {g:Gh} {x:V} {u:Value} (hx:DU x=true) (h:aX g x u):u.cells= #[u]∧u.oneCell'=true:=by
 cases x with
 |box k off=>obtain⟨b,_,rfl⟩:=h;exact⟨rfl,rfl⟩
 |_=>cases hx
theorem Af: ∀(a:List (Nat×Value)) (k:Nat) (cells:Array Value),(∀(i:Nat) (p:Nat×Value),a[i]? =some p→p.1=k+i∧p.2.cells= #[p.2])→cells.size=k+a.length→
  Instr.fill (fun i=>some (i*1,1)) cells a=some (cells.toList.take k++a.map (·.2)).toArray
 |[],k,cells,_,d=>by
  simp only[Instr.fill,List.map_nil,Oa,aF];rw[←Ff];rw[o5,Ob] at d;show cells.toList=cells.toList.take k;rw[J8 (by rw[yG];omega)]
 |p::a,k,cells,h,d=>by
  obtain⟨e,f⟩:=h 0 p rfl;rw[Ob] at e;rw[iy] at d;obtain⟨i,v⟩:=p;simp only at e f;subst e;unfold Instr.fill;simp only[f];rw[if_neg (by simp;omega)];have l:((#[v]:Array Value).zipIdx.foldl (fun m (c,j)=>m.setIfInBounds (i*1+j) c) cells)=cells.setIfInBounds i v:=by simp[Array.zipIdx]
  rw[l,Af a (i+1) (cells.setIfInBounds i v) (fun j p g=>by
   have:=h (j+1) p (by simpa using g);exact⟨by omega,this.2⟩) (by simp;omega)]
  congr 2
  rw[Xg,yJ];have b:i<cells.toList.length:=by rw[yG];omega
  rw[XQ,List.take_succ_eq_append_getElem b,List.set_append_right _ _ (by rw[B6];omega),Iz];have:(cells.toList.take i).length=i:=by rw[B6];omega
  simp[this]
theorem vW: ∀(a:List (Nat×V)) (k:Nat),Ow k a=true→ ∀(i:Nat) (p:Nat×V),a[i]? =some p→p.1=k+i
 |[],_,_,i,p,h=>by simp at h
 |q::a,k,h,i,p,b=>by
  unfold Ow at h;rw[bB,fT] at h
  cases i with
  |zero=>
   simp only[BZ,aF] at b;subst b;rw[Ob];exact h.1
  |succ i=>
   have:=vW a (k+1) h.2 i p (by simpa using b);omega
theorem Jq {r:Operand→V} {ac:Act} {t:TypeId} {a:Array (Nat×Operand)} {vs:af} (N:o.op=.build t a) (hE: ∀y,aB g (r y) (ac.eval y))
  (h:VQ P t (a.toList.map fun(i,x)=>(i,r x))=some vs):Does P ac.eval o B w g bx (.val (.fn rA vs)):=by
 have T:execOp ac.eval o=(do pure (.value (←Instr.build t (a.map fun(i,x)=>(i,ac.eval x))))):=by simp only[execOp,N]
 unfold VQ at h;split at h
 ·rename_i i n e R O
  split at h
  ·rename_i z m M Q
   obtain⟨J,h⟩:=au h;simp only[aF] at h;subst h;simp only[bB,fT] at J;obtain⟨⟨⟨⟨⟨rfl,S⟩,F⟩,C⟩,l⟩,c⟩:=J;have C:0<n:=by simpa[zm] using C
   rw[vk,yG] at F;rw[jJ] at c;have s:PW (aX g) ((a.toList.map fun(i,x)=>(i,r x)).map fun p=>p.2) (a.toList.map fun p=>ac.eval p.2):=⟨by simp,fun j x v hx D=>by
    simp only[qa] at hx D
    cases b:a.toList[j]? with
    |none=>rw[b] at hx;cases hx
    |some p=>
     obtain⟨q,y⟩:=p;rw[b] at hx D;simp only[qJ,aF] at hx D;subst hx;subst D;have A:=c (q,r y) (List.mem_map.2 ⟨(q,y),Bz b,rfl⟩);have:=hE y;simp only at A
     cases I:r y with
     |box k off=>rw[I] at this;exact this
     |_=>rw[I] at A;cases A⟩
   have d:Instr.fill (fun i=>some (i*1,1)) z (a.toList.map fun p=>(p.1,ac.eval p.2))=some (a.toList.map fun p=>ac.eval p.2).toArray:=by
    rw[Af _ 0 z (fun j p f=>?_) (by rw[Fh,vk,yG];omega)]
    ·simp
    ·simp only[qa] at f
     cases b:a.toList[j]? with
     |none=>rw[b] at f;cases f
     |some q=>
      rw[b] at f;simp only[qJ,aF] at f;subst f;have L:=vW _ 0 l j (q.1,r q.2) (by rw[qa,b];rfl);have K:=s.2 j (r q.2) (ac.eval q.2) (by rw[qa,qa,b];rfl) (by rw[qa,b];rfl);have A:=c (q.1,r q.2) (List.mem_map.2 ⟨q,Bz b,rfl⟩);exact⟨L,(Cz A K).1⟩
   have E:(a.toList.map fun p=>ac.eval p.2)≠[]:=fun e=>by
    have:=congrArg List.length e;rw[vk,yG,o5] at this;omega
   refine aT T (u:=.agg (a.toList.map fun p=>ac.eval p.2).toArray) ?_ ⟨_,(FQ E).symm,s⟩;have G:(zeroValue t).run P w=.ok (.agg z) w:=by simp[zeroValue,typeInfo,R,M]
   have H:(a.map fun(i,x)=>(i,ac.eval x)).toList=a.toList.map fun p=>(p.1,ac.eval p.2):=by simp
   simp only[Instr.build,Sem.run_bind,G,Result.andThen_ok,run_underlying O,bW Q,Value.cells,H,d,Sem.run_pure]
  ·cases h
 ·cases h
theorem Bp {t:TypeId} {x i:Operand} {vs:af} {q:IntKind} {n:Int} {eff:Eff} (M:o.op=.index t x i) (hx:aB g (.fn rA vs) (ρ x)) (R:ρ i=.int q n) (D:vs.all DU=true) (h:vP P t vs n=some (true,eff)):Does P ρ o B w g bx eff:=by
 have S:execOp ρ o=(do pure (.value (←Instr.index t (ρ x) (ρ i)))):=by simp only[execOp,M]
 unfold vP at h;split at h
 ·rename_i m e O
  split at h
  ·rename_i k Q s
   obtain⟨H,C⟩:=au h;clear h;simp only[aF,bP,je] at C;subst C;simp only[bB,fT] at H;obtain⟨⟨r,W⟩,d⟩:=H;subst r;have d:0<m:=by simpa[zm] using d
   obtain⟨a,G,c⟩:=hx;have A:a.length=vs.length:=c.1.symm;have p:a≠[]:=fun e=>by rw[e,o5] at A;omega
   rw[FQ p] at G;intro j v T l;subst T;have I:j<vs.length:=(List.getElem?_eq_some_iff.1 l).1;have L:(j:Int)<(m:Int):=by omega
   have f:(Instr.index t (.agg a.toArray) (.int q (j:Int))).run P w=(part e a.toArray (j*1)).run P w:=by
    simp[Instr.index,asIntOf,run_underlying O,L,bW Q];intro N;exact absurd N (by omega)
   obtain⟨u,y,E⟩:=c.get l;have F:=Cz (List.all_eq_true.1 D v (Bz l)) E;have z:aB g v u:=by
    have:=List.all_eq_true.1 D v (Bz l)
    cases v with
    |box k off=>exact E
    |_=>cases this
   have b:(part e a.toArray (j*1)).run P w=.ok u w:=by
    rw[XR];exact Ae s y
   obtain⟨J,K,U⟩:Does P ρ o B w g bx (.val v):=aT S (u:=u) (by rw[G,R,f];exact b) z;exact⟨J,K,U⟩
  ·cases h
 ·cases h
theorem Bq {t:TypeId} {x i:Operand} {b:af} {q:IntKind} {n:Int} {eff:Eff} (O:o.op=.index t x i) (hx:aB g (.agg b) (ρ x)) (H:ρ i=.int q n) (h:vO P t b n=some (true,eff)):Does P ρ o B w g bx eff:=by
 have J:execOp ρ o=(do pure (.value (←Instr.index t (ρ x) (ρ i)))):=by simp only[execOp,O]
 unfold vO at h;split at h
 ·rename_i m e S
  split at h
  ·rename_i c ag G s
   obtain⟨I,h⟩:=au h;simp only[bB,fT] at I;obtain⟨⟨⟨E,y⟩,C⟩,z⟩:=I;have y:0<c:=by simpa[zm] using y
   simp only[aF,bP,je] at h;subst h;obtain⟨a,K,r⟩:=gu.1 hx;intro j v T U;subst T;obtain⟨L,rfl⟩:=AJ _ _ _ _ U;have M:(j:Int)<(m:Int):=by omega
   have d:(Instr.index t (.agg a.toArray) (.int q (j:Int))).run P w=(part e a.toArray (j*c)).run P w:=by
    simp[Instr.index,asIntOf,run_underlying S,M,bW G];intro Q;exact absurd Q (by omega)
   rw[jJ] at z
   cases ag with
   |true=>
    obtain⟨u,k,l⟩:=(aT (B:=B) (bx:=bx) (v:=.agg ((b.drop (j*c)).take c)) J (u:=.agg ((a.drop (j*c)).take c).toArray) (by
     rw[K,H,d];exact FV s G) (gu.2 ⟨_,rfl,(r.drop _).take _⟩):Does P ρ o B w g bx (.val (.agg ((b.drop (j*c)).take c))))
    exact⟨u,k,l⟩
   |false=>
    have F:c=1:=by simpa using C
    subst F;rw[XR] at E;rw[XR];have p:j<b.length:=by omega
    have A:(b.drop j).getD 0 .any=b.getD j .any:=by
     rw[sQ,IB,Ob,sQ]
    rw[A];obtain⟨u,D,R⟩:=r.get (getD_some p);have f:=MO (z _ (show b.getD j .any∈b by rw[sQ,gQ p];exact Fg p));rw[f.2];obtain⟨N,k,l⟩:=(aT (B:=B) (bx:=bx) (v:=b.getD j .any) J (u:=u) (by
     rw[K,H,d,XR];exact Ae s D) (bA f.1 R):Does P ρ o B w g bx (.val (b.getD j .any)))
    exact⟨N,k,l⟩
  ·cases h
 ·cases h
theorem uI {great:Bool} {x y:Operand} {X Y:V} {c:Call} {eff:Eff} (f:o.op=.call c) (j:c.callee=.builtin (match great with|true=> .max|false=> .min)) (i:c.args.toList=[x,y]) (hx:aB g X (ρ x)) (e:aB g Y (ρ y)) (h:qg great X Y=some (true,eff)):Does P ρ o B w g bx eff:=by
 obtain⟨callee,args,d⟩:=c;simp only at j i;subst j;obtain rfl:args= #[x,y]:=by rw[←Ff];simpa using i
 unfold qg at h;split at h
 ·rename_i k a m b
  obtain⟨l,h⟩:=au h;simp only[ok,aF,bP,je] at h;subst h;rw[bu] at hx e
  cases great with
  |true=>
   refine⟨.int k (imax a b),?_,bu.2 rfl⟩;simp only[execOp,f];simp[resolve,invoke,builtin,hx,e,run_max_int2];unfold imax;omega
  |false=>
   refine⟨.int k (sW a b),?_,bu.2 rfl⟩;simp only[execOp,f];simp[resolve,invoke,builtin,hx,e,run_min_int2];unfold sW;omega
 ·cases h
theorem ku (P:Program) (w:World) {t:TypeId} {b:Array (String×TypeId)} (a:P.underlying t=some (.interface b)) (d:TypeId) (e:Value):
  (Op.equal t .nilIface .nilIface).run P w=.ok true w∧(Op.equal t (.iface d e) .nilIface).run P w=.ok false w:=by
 have c:Op.maxDepth=9999+1:=rfl;unfold Op.equal;rw[c];generalize (9999:Nat)=m;constructor
 ·unfold Op.equalIn
  simp only[Sem.run_bind,run_underlying a,Result.andThen_ok];rfl
 ·unfold Op.equalIn
  simp only[Sem.run_bind,run_underlying a,Result.andThen_ok];rfl
theorem MP {y:Operand} (h:zH y=true):y=.const .nilIface:=by
 unfold zH at h;split at h
 ·rfl
 ·cases h
def O9:V→Bool
 | .nilif=>true
 |_=>false
theorem MQ {b:BinOp} {d:TypeId} {e:Bool} {X Y:V} {eff:Eff} (h:Ov P b d e X Y=some (true,eff)):
  e=true∧ ∃a r,P.underlying d=some (.interface a)∧eff=.val (.bool r)∧Y=.nilif∧(X=.nilif∨ ∃u v,X=.iface u v)∧((b=.eql∧r=O9 X)∨(b=.neq∧r= !O9 X)):=by
 unfold Ov at h;split at h
 ·rename_i a c
  simp only[ok,aF,bP,je] at h;exact⟨rfl,_,true,by assumption,h.symm,rfl,.inl rfl,.inl ⟨rfl,rfl⟩⟩
 ·rename_i a u v c
  simp only[ok,aF,bP,je] at h;exact⟨rfl,_,false,by assumption,h.symm,rfl,.inr ⟨_,_,rfl⟩,.inl ⟨rfl,rfl⟩⟩
 ·rename_i a c
  simp only[ok,aF,bP,je] at h;exact⟨rfl,_,false,by assumption,h.symm,rfl,.inl rfl,.inr ⟨rfl,rfl⟩⟩
 ·rename_i a u v c
  simp only[ok,aF,bP,je] at h;exact⟨rfl,_,true,by assumption,h.symm,rfl,.inr ⟨_,_,rfl⟩,.inr ⟨rfl,rfl⟩⟩
 ·cases h
theorem AL {op:BinOp} {a k:TypeId} {x y:Operand} {X Y:V} {eff:Eff} (d:o.op=.binOp op a x y k) (hx:aB g X (ρ x)) (e:aB g Y (ρ y)) (h:Ov P op a (zH y) X Y=some (true,eff)):Does P ρ o B w g bx eff:=by
 have j:execOp ρ o=(do pure (.value (←(do eqGuard op a x y (ρ x) (ρ y);binOp op a (ρ x) (ρ y))))):=by simp only[execOp,d]
 obtain⟨l,n,r,c,rfl,rfl,f,b⟩:=MQ h;obtain rfl:=MP l;refine aT j (u:=.bool r) ?_ (bn.2 rfl);rw[j3.1 e];have i: ∀q,(eqGuard op a x (.const .nilIface) q .nilIface).run P w=.ok () w:=by
  intro q;rcases b with⟨rfl,_⟩|⟨rfl,_⟩<;>cases q<;>simp[eqGuard]
 simp only[Sem.run_bind,i,Result.andThen_ok];rcases f with rfl|⟨u,v,rfl⟩
 ·rw[j3.1 hx]
  rcases b with⟨rfl,rfl⟩|⟨rfl,rfl⟩
  ·show(do pure (Value.bool (←Op.equal a .nilIface .nilIface)):Sem Value).run P w=_
   simp only[Sem.run_bind,(ku P w c 0 .nilIface).1,Result.andThen_ok,Sem.run_pure];rfl
  ·show(do pure (Value.bool (!(←Op.equal a .nilIface .nilIface))):Sem Value).run P w=_
   simp only[Sem.run_bind,(ku P w c 0 .nilIface).1,Result.andThen_ok,Sem.run_pure];rfl
 ·obtain⟨z,m,_⟩:=iJ.1 hx
  rw[m];rcases b with⟨rfl,rfl⟩|⟨rfl,rfl⟩
  ·show(do pure (Value.bool (←Op.equal a (.iface u z) .nilIface)):Sem Value).run P w=_
   simp only[Sem.run_bind,(ku P w c u z).2,Result.andThen_ok,Sem.run_pure];rfl
  ·show(do pure (Value.bool (!(←Op.equal a (.iface u z) .nilIface))):Sem Value).run P w=_
   simp only[Sem.run_bind,(ku P w c u z).2,Result.andThen_ok,Sem.run_pure];rfl
theorem yB {t:TypeId} {x:Operand} {v:V} {d:TypeDesc} {X:V} (c:o.op=.makeInterface t x) (e:P.underlying t=some d) (b: ∀a,d≠.interface a) (f:X.deep=some v) (hx:aB g X (ρ x)):Does P ρ o B w g bx (.val (.iface t v)):=by
 refine⟨.iface t (ρ x),?_,iJ.2 ⟨_,rfl,lq hx f⟩⟩
 cases d with
 |interface a=>exact absurd rfl (b a)
 |_=>simp only[execOp,c,Instr.makeInterface,Sem.run_bind,run_underlying e,Result.andThen_ok];rfl
theorem uJ {t:TypeId} {z:V} (h:Cg P t=some z):z.plain=true∧z.single=true:=by
 unfold Cg at h;split at h
 ·split at h
  ·rename_i u a
   refine⟨iI h,?_⟩;unfold mo at h;split at h
   ·simp only[V.deep,aF] at h;subst h;rfl
   ·unfold yu at h
    split at h<;>simp[V.deep] at h<;>subst h<;>rfl
  ·cases h
 ·cases h
theorem G8 {t:TypeId} {z:V} (h:Cg P t=some z): ∃u,(zeroValue t).run P w=.ok u w∧ ∀G,aJ G z u:=by
 unfold Cg at h;split at h
 ·rename_i i b
  split at h
  ·rename_i u a
   refine⟨u,?_,fun G=>?_⟩
   ·simp[zeroValue,typeInfo,b,a]
   ·exact FT (pJ G u) h
  ·cases h
 ·cases h
theorem wK {x:Operand} {m t:TypeId} {d:TypeDesc} {z X:V} (H:o.op=.typeAssert x m t true) (E:P.underlying t=some d) (C: ∀h,d≠.interface h) (s:Cg P t=some z) (hx:aB g X (ρ x)):
  (X=.nilif→Does P ρ o B w g bx (.val (.tup [z,.bool false])))∧
  (∀u v,X=.iface u v→u≠t→Does P ρ o B w g bx (.val (.tup [z,.bool false])))∧
  (∀u v,X=.iface u v→u=t→aX g v=aJ g.G v→Does P ρ o B w g bx (.val (.tup [v,.bool true]))):=by
 obtain⟨c,k,y⟩:=G8 (w:=w) s;have l:aX g z c:=aL (uJ s).2 (bA (uJ s).1 (y g.G));have f:ρ x=.nilIface→(Instr.typeAssert (ρ x) m t true).run P w=.ok (.tuple #[c,.bool false]) w:=by
  intro b;rw[b]
  cases d with
  |interface h=>exact absurd rfl (C h)
  |_=>simp only[Instr.typeAssert,Sem.run_bind,run_underlying E,Result.andThen_ok];simp[k]
 have a: ∀u v,ρ x=.iface u v→(Instr.typeAssert (ρ x) m t true).run P w=if u=t then .ok (.tuple #[v,.bool true]) w else .ok (.tuple #[c,.bool false]) w:=by
  intro u v b;rw[b]
  cases d with
  |interface h=>exact absurd rfl (C h)
  |_=>
   simp only[Instr.typeAssert,Sem.run_bind,run_underlying E,Result.andThen_ok];by_cases j:u=t
   ·simp[j]
   ·simp[j,k]
 have A:execOp ρ o=(do pure (.value (←Instr.typeAssert (ρ x) m t true))):=by simp only[execOp,H]
 have D:aX g (.bool false) (.bool false):=by show aJ _ _ _;unfold aJ;rfl
 have F:aX g (.bool true) (.bool true):=by show aJ _ _ _;unfold aJ;rfl
 refine⟨fun e=>?_,fun u v e n=>?_,fun u v e p r=>?_⟩
 ·subst e
  have b:=f (j3.1 hx);exact aT A (u:=.tuple #[c,.bool false]) b ⟨[c,.bool false],rfl,.cons l (.cons D .nil)⟩
 ·subst e
  obtain⟨q,b,_⟩:=iJ.1 hx;have i:=a _ _ b;rw[if_neg n] at i;exact aT A (u:=.tuple #[c,.bool false]) i ⟨[c,.bool false],rfl,.cons l (.cons D .nil)⟩
 ·subst e
  obtain⟨q,b,I⟩:=iJ.1 hx;have i:=a _ _ b;rw[if_pos p] at i;exact aT A (u:=.tuple #[q,.bool true]) i ⟨[q,.bool true],rfl,.cons (by rw[r];exact I) (.cons F .nil)⟩
end
end Nt.Ev
