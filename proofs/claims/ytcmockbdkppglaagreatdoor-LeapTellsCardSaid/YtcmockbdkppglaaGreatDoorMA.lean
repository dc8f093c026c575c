/-
  An evaluator of Go code over plain values (no world): integers, strings as byte lists, slices as lists.
-/
import Derived.WalkKit
import Derived.LoopN
import Derived.Orders
import Derived.Laws.AppendOwn
import Derived.Deep.MidRow
import Derived.Great.BuildSlice
import Derived.Laws.MakeOwn
import Derived.Laws.BytesString
import Derived.Laws.StructEq
import Derived.ChangeKeysEq
set_option linter.all false
abbrev aI:=@Option.some.injEq
abbrev bL:=@Bool.and_eq_true
abbrev gP:=@List.getElem?_eq_getElem
abbrev bU:=@Prod.mk.injEq
abbrev fQ:=@List.length_cons
abbrev pU:=@Array.getD_eq_getD_getElem?
abbrev qF:=@Array.getElem?_eq_getElem
abbrev sV:=@List.getD_eq_getElem?_getD
abbrev ko:=@List.all_eq_true
abbrev gF:=@cond_false
abbrev iI:=@Nat.le_refl
abbrev qD:=@beq_eq_false_iff_ne
abbrev qw:=@List.length_append
abbrev nN:=@List.length_nil
abbrev ig:=@beq_iff_eq
abbrev qx:=@Option.getD_some
abbrev rF:=@List.getElem?_map
abbrev xE:=@List.mem_cons_of_mem
abbrev iy:=@cond_true
abbrev vg:=@List.mem_cons_self
abbrev Dt:=@List.getElem?_cons_zero
abbrev Ai:=@Array.length_toList
abbrev sW:=@Option.map_some
abbrev Dp:=@List.mem_of_getElem?
abbrev xB:=@List.length_drop
abbrev ve:=@decide_eq_false
abbrev Du:=@List.getElem?_of_mem
abbrev xC:=@List.length_map
abbrev jw:=@true_and
abbrev Hw:=@List.take_of_length_le
abbrev Fv:=@Bool.or_eq_false_iff
abbrev Dq:=@Int.toNat_natCast
abbrev D7:=@of_decide_eq_true
abbrev Dv:=@List.length_take
abbrev Dw:=@List.any_eq_true
abbrev Oj:=@Array.getElem?_replicate
abbrev Km:=@List.length_singleton
abbrev Fw:=@decide_eq_true_eq
abbrev UJ:=@List.eq_nil_of_length_eq_zero
abbrev Hy:=@List.getElem?_drop
abbrev Ki:=@List.getElem?_take
abbrev Aj:=@List.map_cons
abbrev D8:=@Bool.eq_iff_iff
abbrev MF:=@Nat.mul_le_mul_right
abbrev Hg:=@List.getElem_mem
abbrev Hl:=@beq_self_eq_true
abbrev Dx:=@decide_eq_true
abbrev Fx:=@Bool.or_eq_true
abbrev Kj:=@List.append_assoc
abbrev Hz:=@Array.toList_inj
abbrev xG:=@Nat.add_mul
abbrev QI:=@List.drop_of_length_le
abbrev Kn:=@List.prefix_refl
abbrev Ol:=@decide_eq_true_iff
abbrev Fy:=@Bool.true_and
abbrev Dy:=@Nat.le_trans
abbrev Qx:=@Bool.false_eq_true
abbrev Kk:=@List.drop_drop
abbrev Om:=@List.cons_append
abbrev Ko:=@List.drop_zero
abbrev QJ:=@List.contains_cons
abbrev UY:=@Nat.le_of_ble_eq_true
abbrev A9:=@Nat.blt_eq
abbrev D9:=@Nat.zero_le
abbrev Qy:=@Nat.lt_of_not_le
abbrev On:=@List.append_nil
abbrev Oo:=@List.nil_append
abbrev Qz:=@List.countP_cons
abbrev QA:=@List.take_length
abbrev QK:=@List.size_toArray
abbrev UZ:=@Nat.pow_le_pow_right
abbrev UK:=@List.mem_singleton
abbrev ZX:=@List.set_eq_take_append_cons_drop
abbrev U0:=@List.map_congr_left
abbrev Zy:=@Array.toList_setIfInBounds
abbrev QL:=@List.length_set
abbrev Zz:=@List.drop_eq_getElem_cons
abbrev MG:=@Nat.zero_add
abbrev U1:=@List.any_eq_false
abbrev Oq:=@Nat.add_zero
abbrev ZY:=@List.getElem?_append_left
abbrev ZA:=@List.getElem?_eq_none
abbrev U2:=@List.cons.injEq
abbrev ZB:=@List.contains_iff_mem
abbrev ZZ:=@List.getElem?_cons_succ
abbrev Xj:=@List.nodup_cons
abbrev Xk:=@List.mem_filter
abbrev ZC:=@List.takeWhile_cons
abbrev abD:=@List.getElem?_append_right
abbrev UL:=@List.map_map
abbrev Z0:=@Array.mem_of_getElem?
abbrev U3:=@List.all_cons
abbrev Xl:=@List.take_left
abbrev HV:=@if_false
abbrev X6:=@List.mem_append
abbrev ZD:=@Array.size_append
abbrev X7:=@Nat.not_lt_zero
abbrev U4:=@Nat.sub_zero
abbrev U5:=@Nat.pow_succ
abbrev Z4:=@List.getElem?_range
abbrev UM:=@Nat.one_mul
abbrev Z5:=@Array.toList_append
abbrev Z6:=@List.filter_sublist
abbrev ZE:=@List.filter_cons
abbrev ZF:=@List.nodup_range
abbrev abU:=@List.getElem?_set_self
abbrev abV:=@Nat.ble_eq_true_of_le
abbrev abW:=@List.countP_le_length
abbrev abX:=@List.getElem?_toArray
abbrev ZG:=@Int.natAbs_tdiv
abbrev X8:=@List.any_cons
abbrev Z7:=@List.length_range
abbrev ab1:=@Array.mem_toList_iff
abbrev ZH:=@Nat.mul_le_mul
abbrev ZI:=@List.mem_range
abbrev Z8:=@Array.toList_map
abbrev Xm:=@Int.le_refl
abbrev ab6:=@List.toList_toArray
abbrev ab7:=@List.dropWhile_cons
abbrev X9:=@Nat.add_comm
abbrev Ya:=@Nat.sub_self
abbrev acd:=@List.getElem?_take_of_lt
abbrev ZJ:=@Bool.false_or
abbrev ZK:=@List.mem_cons
abbrev acg:=@not_true_eq_false
abbrev ach:=@Array.getElem?_toList
abbrev aci:=@Array.getElem?_modify
abbrev acj:=@List.eq_nil_iff_forall_not_mem
abbrev ack:=@List.take_append_drop
abbrev acm:=@Int.mul_tdiv_add_tmod
abbrev acn:=@List.range'_succ
abbrev aco:=@List.getElem_map
abbrev acp:=@List.mem_append_left
abbrev acr:=@List.range_eq_range'
abbrev acs:=@Array.toArray_toList
abbrev Z9:=@List.take_set
abbrev Yb:=@bne_iff_ne
abbrev acw:=@List.take_succ_cons
abbrev acy:=@Nat.min_eq_left
abbrev acz:=@List.getElem_of_mem
abbrev acA:=@List.mem_map_of_mem
abbrev acB:=@Nat.div_le_div_left
abbrev acC:=@of_decide_eq_false
abbrev acD:=@Nat.lt_of_lt_of_le
abbrev acE:=@UInt8.toNat_ofNat'
abbrev acF:=@List.mapM_cons
abbrev acG:=@List.ext_getElem?
abbrev acH:=@List.take_add_one
abbrev acI:=@Function.comp_def
abbrev acJ:=@Bool.not_eq_true'
abbrev acK:=@Bool.eq_false_or_eq_true
abbrev acL:=@Bool.eq_false_iff
abbrev acM:=@Nat.add_assoc
abbrev acN:=@Nat.mul_one
abbrev acO:=@Bool.not_true
abbrev acP:=@Nat.pow_pos
abbrev acQ:=@List.not_mem_nil
abbrev acR:=@Nat.zero_mul
abbrev acS:=@List.mem_map
abbrev acT:=@Nat.lt_or_ge
abbrev acU:=@Nat.mod_lt
abbrev acV:=@List.take_take
abbrev acW:=@List.drop_take
abbrev acX:=@List.take_zero
abbrev acY:=@Bool.not_false
abbrev acZ:=@List.map_id
abbrev ah:=List UInt8
namespace Nt.Ev
open Go
inductive Kd where
 |bool|int (k:IntKind)|str|sl (e:Nat) (sh:List Kd)|oth
mutual
def Kd.eq:Kd→Kd→Bool
 | .bool,.bool=>true
 | .int k,.int k'=>k==k'
 | .str,.str=>true
 | .sl e sh,.sl e' sh'=>e==e'&&Kd.Ba sh sh'
 |_,_=>false
def Kd.Ba:List Kd→List Kd→Bool
 |[],[]=>true
 |a::l,b::m=>Kd.eq a b&&Kd.Ba l m
 |_,_=>false
end
inductive V where
 |any
 |bool (b:Bool)
 |int (k:IntKind) (n:Int)
 |str (l:ah)
 |agg (cs:List V)
 |tup (vs:List V)
 |nilsl
 |sl (e:Nat) (sh:List Kd) (o:Option Nat) (xs:List V)
 |rptr (sh:List Kd) (x:V) (off:Nat)
 |box (k off:Nat)
 |eptr (L e:Nat) (sh:List Kd) (xs:List V) (i:Int) (off:Nat)
 |fn (f:Nat) (caps:List V)
 |nilif
 |nilp
 |iface (t:Nat) (x:V)
 |bxa (off:Nat) (cs:List V)
 |out (ku:Bool) (x:V) (bs:List (List V))
 |sK (b:Bool) (x y:V)
 |old (x:V)
 |slz (L e:Nat) (sh:List Kd) (xs:List V) (o2:Option Nat) (i:Int) (c e2:Nat) (QM:List Kd) (ys:List V)
 |epz (L e sz:Nat) (i:Int) (off:Nat)
 |keep (ku:Bool) (x:V)
 deriving Inhabited
abbrev af:=List V
def HL:Nat:=1000000000
def sel {α:Type} (c:Bool) (a b:α):α:=match c with|true=>a|false=>b
def aV (k:IntKind) (a b:Int):Int:=k.wrap (a+b)
def bu (k:IntKind) (a b:Int):Int:=k.wrap (a-b)
def fM (k:IntKind) (a b:Int):Int:=k.wrap (a*b)
def gX (k:IntKind) (a b:Int):Int:=k.wrap (a.tdiv b)
def qG (a b:Int):Int:=a.tmod b
def gu (k:IntKind) (n:Int):Int:=k.wrap n
def yR (a:BinOp) (k:IntKind) (x y:Int):Int:=
 match a with
 | .and=>k.wrap (BitVec.ofInt k.bits x&&& BitVec.ofInt k.bits y).toNat
 | .or=>k.wrap (BitVec.ofInt k.bits x|||BitVec.ofInt k.bits y).toNat
 | .xor=>k.wrap (BitVec.ofInt k.bits x ^^^ BitVec.ofInt k.bits y).toNat
 |_=>k.wrap (BitVec.ofInt k.bits x&&& ~~~BitVec.ofInt k.bits y).toNat
def Yt (k:IntKind) (x y:Int):Int:=k.wrap (x*2 ^ (min y.toNat k.bits))
def Ov (k:IntKind) (x y:Int):Int:=x.fdiv (2 ^ (min y.toNat k.bits))
def um (a b:Int):Int:=min a b
def imax (a b:Int):Int:=max a b
def aU (a b:Int):Bool:=decide (a<b)
def aD (a b:Int):Bool:=decide (a≤b)
def ieq (a b:Int):Bool:=a==b
def Xn (a b:Nat):Bool:=decide (a≤b)
def bC (a b:ah):Bool:=Xn (a.length+b.length) 1152921504606846976
def okStr (a:ah):Bool:=Xn a.length 1152921504606846976
def aT (a:Bool):Bool:=!a
def beq (a b:Bool):Bool:=a==b
def au (a b:Bool):Bool:=match a with|true=>b|false=>false
def aF (l:ah):Int:=(l.length:Int)
def sat (l:ah) (i:Int):Int:=((l.getD i.toNat 0).toNat:Int)
def bW (l:ah) (a b:Int):ah:=(l.drop a.toNat).take (b.toNat-a.toNat)
def bg (a b:ah):ah:=a++b
def seq (a b:ah):Bool:=a==b
def slt (a b:ah):Bool:=Op.bytesLess a b
def aM (xs:af):Int:=(xs.length:Int)
def bf (xs:af) (i:Int):V:=xs.getD i.toNat .any
def zT (xs:af) (a b:Int):af:=(xs.drop a.toNat).take (b.toNat-a.toNat)
def zU (xs:af) (i:Int) (v:V):af:=xs.set i.toNat v
def bS (xs ys:af):af:=xs++ys
def dU (xs ys:af):Bool:=Xn (xs.length+ys.length) 16777216
def qz (ys:af):Bool:=Xn ys.length 16777216
def xJ (n:Int) (x:V):af:=List.replicate n.toNat x
def aH (l:ah):af:=l.map fun c=> .int .u8 (c.toNat:Int)
def dV:V→ah| .str l=>l|_=>[]
def asInt:V→Int| .int _ n=>n|_=>0
def asBool:V→Bool| .bool b=>b|_=>false
def asL:V→af| .sl _ _ _ xs=>xs|_=>[]
def aL (x:V) (j:Nat):V:=match x with| .agg cs=>cs.getD j .any|x=>x
def fD (xs:af):ah:=xs.map fun v=>UInt8.ofNat (asInt (aL v 0)).toNat
def eta:Kd→V→V
 | .bool,x=> .bool (asBool x)
 | .int k,x=> .int k (asInt x)
 | .str,x=> .str (dV x)
 | .sl e sh,x=> .sl e sh none (asL x)
 | .oth,x=>x
def V.cells:V→af
 | .agg a=>a
 |v=>[v]
def V.deep:V→Option V
 | .sl e sh _ xs=>some (.sl e sh none xs)
 | .bool b=>some (.bool b)
 | .int k n=>some (.int k n)
 | .str l=>some (.str l)
 | .agg a=>some (.agg a)
 | .nilsl=>some .nilsl
 | .rptr sh x off=>some (.rptr sh x off)
 | .nilif=>some .nilif
 | .nilp=>some .nilp
 | .iface t x=>some (.iface t x)
 | .fn f []=>some (.fn f [])
 |_=>none
def V.Ib:V→Bool
 | .old _=>true
 |_=>false
def V.yS:V→V
 | .old x=>x
 |v=>v
def V.eH:V→Bool
 | .sl _ _ none _=>true
 | .agg _=>true
 | .rptr _ _ _=>true
 | .iface _ _=>true
 |_=>false
def V.single:V→Bool
 | .tup _=>false
 | .fn _ _=>false
 |_=>true
def V.one:V→Bool
 | .bool _=>true
 | .int _ _=>true
 | .str _=>true
 | .nilsl=>true
 | .sl _ _ none _=>true
 | .rptr _ _ _=>true
 | .nilif=>true
 | .nilp=>true
 | .iface _ _=>true
 |_=>false
def ul:Nat:=1000000
def BM:Nat:=2000000
def AM:Nat:=3000000
def Y2:V→Bool
 | .int _ n=>Nat.blt n.toNat ul
 |_=>false
def bmV (p:V):V→V
 | .int _ n=> .fn BM [.int .i64 n,p]
 |_=> .any
def bY:V→Option (af)
 | .eptr _ _ _ _ _ _=>none
 | .epz _ _ _ _ _=>none
 | .keep _ _=>none
 | .agg a=>bif a.all V.one then some a else none
 | .fn f c=>bif Nat.blt f ul then some [.fn f c] else bif f==AM then(match c with
  |p::l=>bif l.all Y2 then some (l.map (bmV p)) else none
  |[]=>none) else none
 | .any=>none
 | .tup _=>none
 | .bxa _ _=>none
 | .out _ _ _=>none
 | .sK _ _ _=>none
 | .old _=>none
 |v=>some [v]
def V.tu:af→Option (af)
 |[]=>some []
 |v::l=>match v.deep,V.tu l with
  |some v,some l=>some (v::l)
  |_,_=>none
def fits:Kd→V→Bool
 | .bool,.bool _=>true
 | .int k,.int c _=>k==c
 | .str,.str _=>true
 | .sl e sh,.sl b a _ _=>e==b&&Kd.Ba sh a
 | .sl _ _,.nilsl=>true
 | .oth,.sK _ _ _=>true
 |_,_=>false
def flatK:Kd→Bool
 | .bool=>true
 | .int _=>true
 | .str=>true
 |_=>false
def bJ:List Kd→af→Bool
 |[],[]=>true
 |k::l,v::m=>au (fits k v) (bJ l m)
 |_,_=>false
def fG (sh:List Kd) (v:V):Bool:=bJ sh v.cells
def aset (x:V) (off:Nat) (v:V):V:=.agg (x.cells.set off v)
def sO (sh:List Kd) (x:V) (off:Nat) (v:V):V:=match sh with
 |[_]=>v
 |_=>aset x off v
def yT (sh:List Kd) (off:Nat) (v:V):Bool:=match sh[off]? with
 |some k=>fits k v
 |none=>false
def Eb (sh:List Kd) (off:Nat) (v:V):Bool:=sh.all flatK&&yT sh off v
def rJ (sh:List Kd):af→Bool
 |[]=>true
 |v::l=>au (fG sh v) (rJ sh l)
def zV:Value→V
 | .bool b=> .bool b
 | .int k n=> .int k n
 | .string s=> .str s.data.toList
 | .slice none 0 0=> .nilsl
 | .nilIface=> .nilif
 | .pointer none=> .nilp
 |_=> .any
def nO:Value→V
 | .agg a=> .agg (a.toList.map zV)
 |v=>zV v
structure St where
 fr:af
 bx:List (Nat×af)
structure Env where
 P:Program
 glob:Nat→Option V
def slot (fr:af) (t:Nat):V:=fr.getD t .any
def iO (E:Env) (fr:af):Operand→V
 | .tmp t=>slot fr t
 | .const v=>nO v
 | .global g=>match E.glob g with|some v=>v|none=> .any
 | .func f=> .fn f []
def bX (P:Program) (t:TypeId):Option Nat:=match P.info? t with|some i=>some i.size|none=>none
def bE (P:Program) (t:TypeId):Option Bool:=
 match P.underlying t with
 |some (.struct _)=>some true
 |some (.array _ _)=>some true
 |some _=>some false
 |none=>none
def Ec (P:Program) (t:TypeId):Option TypeId:=match P.underlying t with|some (.slice e)=>some e|_=>none
def fE (P:Program):Nat→TypeId→List Kd
 |0,_=>[.oth]
 |n+1,t=>match P.underlying t with
  |some .bool=>[.bool]
  |some (.int k)=>[.int k]
  |some .string=>[.str]
  |some (.slice e)=>[.sl e (fE P n e)]
  |some (.struct a)=>a.toList.flatMap fun f=>fE P n f.type
  |some (.array k e)=>(List.replicate k (fE P n e)).flatten
  |_=>[.oth]
def Ed (P:Program) (t:TypeId):Option V:=match P.info? t with|some i=>(match i.zero with|some z=>(nO z).deep|none=>none)|none=>none
def elemOf (P:Program) (t:TypeId):Option (TypeId×List Kd×V):=
 match Ec P t with
 |none=>none
 |some e=>
  match P.info? e with
  |none=>none
  |some i=>
   match i.zero with
   |none=>none
   |some z=>
    let sh:=fE P 8 e
    bif i.size==sh.length&&Nat.blt 0 i.size&&z.cells.size==i.size&&Nat.ble i.bytes 8388608&&fG sh (nO z) then some (e,sh,nO z) else none
inductive Eff where
 |val (v:V)
 |own (e:Nat) (sh:List Kd) (xs:af)
 |newSl (e:Nat) (sh:List Kd) (xs:af)
 |lD (e:Nat) (cells:af)
 |put (k off:Nat) (cells:af)
 |app (L:Nat) (e:Nat) (sh:List Kd) (xs:af)
 |call (f:Nat) (args:af) (mb ml:List (Nat×Nat))
 |ku (v:V)
 |pick (b:Bool) (x y:V)
 |alts (i:Int) (vs:af)
 |Bd (L e:Nat) (sh:List Kd) (ys:af)
 |ownz (e:Nat) (sh:List Kd) (xs:af) (c e2:Nat) (QM:List Kd)
 |appz (L e:Nat) (sh:List Kd) (xs:af) (i:Int) (c e2:Nat) (QM:List Kd)
 |Be (L e:Nat) (sh:List Kd) (xs:af) (i:Int) (c L3 e2:Nat) (QM:List Kd) (ys:af)
abbrev Bb:=Option (Bool×Eff)
def ok (v:V):Bb:=some (true,.val v)
def intV (c:BinOp) (k:IntKind) (a b:Int):Option (Bool×V):=
 match c with
 | .add=>some (true,.int k (aV k a b))
 | .sub=>some (true,.int k (bu k a b))
 | .mul=>some (true,.int k (fM k a b))
 | .quo=>some (aT (ieq b 0),.int k (gX k a b))
 | .rem=>some (aT (ieq b 0),.int k (qG a b))
 | .and=>some (true,.int k (yR .and k a b))
 | .or=>some (true,.int k (yR .or k a b))
 | .xor=>some (true,.int k (yR .xor k a b))
 | .andNot=>some (true,.int k (yR .andNot k a b))
 | .eql=>some (true,.bool (ieq a b))
 | .neq=>some (true,.bool (aT (ieq a b)))
 | .lss=>some (true,.bool (aU a b))
 | .leq=>some (true,.bool (aD a b))
 | .gtr=>some (true,.bool (aU b a))
 | .geq=>some (true,.bool (aD b a))
 |_=>none
def Yu (c:BinOp) (a b:ah):Option (Bool×V):=
 match c with
 | .add=>some (bC a b,.str (bg a b))
 | .eql=>some (true,.bool (seq a b))
 | .neq=>some (true,.bool (aT (seq a b)))
 | .lss=>some (true,.bool (slt a b))
 | .geq=>some (true,.bool (aT (slt a b)))
 | .gtr=>some (true,.bool (au (aT (slt a b)) (aT (seq a b))))
 | .leq=>some (true,.bool (aT (au (aT (slt a b)) (aT (seq a b)))))
 |_=>none
def Vh (c:BinOp) (x y:V):Option (Bool×V):=
 match x,y with
 | .int k a,.int d b=>
  match c with
  | .shl=>some (aD 0 b,.int k (Yt k a b))
  | .shr=>some (aD 0 b,.int k (Ov k a b))
  |_=>bif decide (k=d) then intV c k a b else none
 | .str a,.str b=>Yu c a b
 | .bool a,.bool b=>
  match c with
  | .eql=>some (true,.bool (beq a b))
  | .neq=>some (true,.bool (aT (beq a b)))
  |_=>none
 |_,_=>none
def Yv:Option (Bool×V)→Bb
 |some (c,v)=>some (c,.val v)
 |none=>none
def KF (P:Program) (t:TypeId):V→Bool
 | .bool _=>match P.underlying t with|some .bool=>true|_=>false
 |_=>true
def allEq {α:Type} (f:α→Option Bool):List α→Option Bool
 |[]=>some true
 |[a]=>f a
 |a::l=>match f a,allEq f l with
  |some p,some q=>some (au p q)
  |_,_=>none
def UN (P:Program):Nat→TypeId→af→af→Option Bool
 |0,_,_,_=>none
 |m+1,t,xs,ys=>match P.underlying t with
  |some .bool=>match xs,ys with
   |[.bool a],[.bool b]=>some (beq a b)
   |_,_=>none
  |some (.int _)=>match xs,ys with
   |[.int k a],[.int d b]=>bif decide (k=d) then some (ieq a b) else none
   |_,_=>none
  |some .string=>match xs,ys with
   |[.str a],[.str b]=>some (seq a b)
   |_,_=>none
  |some (.struct c)=>bif P.stoodInHeld t then none else
   allEq (fun f=>bif f.name== "_" then none else match bX P f.type with
    |some n=>UN P m f.type ((xs.drop f.offset).take n) ((ys.drop f.offset).take n)
    |none=>none) c.toList
  |some (.array k e)=>match bX P e with
   |some n=>allEq (fun i=>UN P m e ((xs.drop (i*n)).take n) ((ys.drop (i*n)).take n)) (List.range k)
   |none=>none
  |_=>none
def Yw (P:Program) (a:BinOp) (t:TypeId) (x y:V):Bb:=
 match x,y with
 | .agg b,.agg bs=>bif P.eqGuardType P.depth t then none else
  match bE P t,a,UN P 8 t b bs with
  |some true,.eql,some c=>ok (.bool c)
  |some true,.neq,some c=>ok (.bool (aT c))
  |_,_,_=>none
 |x,y=>bif KF P t x then Yv (Vh a x y) else none
def QX (P:Program) (a:BinOp) (t:TypeId) (b:Bool) (x y:V):Bb:=
 match a,b,P.underlying t,x,y with
 | .eql,true,some (.interface _),.nilif,.nilif=>ok (.bool true)
 | .eql,true,some (.interface _),.iface _ _,.nilif=>ok (.bool false)
 | .neq,true,some (.interface _),.nilif,.nilif=>ok (.bool false)
 | .neq,true,some (.interface _),.iface _ _,.nilif=>ok (.bool true)
 |_,_,_,_,_=>none
def okTA:V→Bool
 | .bool _=>true
 | .int _ _=>true
 | .str _=>true
 | .agg _=>true
 |_=>false
def Bu:Operand→Bool
 | .const .nilIface=>true
 |_=>false
def rM (P:Program) (t:TypeId) (f:Nat):Option Field:=
 match P.underlying t with
 |some (.struct a)=>a[f]?
 |_=>none
def over (cells:af) (off:Nat) (new:af):af:=cells.take off++new++cells.drop (off+new.length)
def tC (a:Nat→Option (Nat×Nat)) (cells:af):List (Nat×V)→Option (af)
 |[]=>some cells
 |(i,v)::c=>
  match a i,v.deep with
  |some (off,b),some v=>
   bif v.cells.length==b&&Nat.ble (off+b) cells.length then tC a (over cells off v.cells) c else none
  |_,_=>none
def aA:List (Nat×af)→Nat→Option (af)
 |[],_=>none
 |(k,a)::l,j=>bif k==j then some a else aA l j
def gm:List (Nat×af)→Nat→af→List (Nat×af)
 |[],_,_=>[]
 |(k,b)::l,j,a=>bif k==j then(k,a)::l else(k,b)::gm l j a
def pY:V→V
 | .agg _=> .any
 | .tup _=> .any
 |v=>v
def chunks (agg:Bool) (a:Nat):Nat→af→af
 |0,_=>[]
 |n+1,b=>(match agg with|true=>V.agg (b.take a)|false=>pY (b.getD 0 .any))::chunks agg a n (b.drop a)
def XA:Kd→V→Nat→V
 | .oth,x,off=>(match x with| .agg cs=>cs.getD off .any|x=>x)
 | .bool,x,off=> .bool (asBool (aL x off))
 | .int k,x,off=> .int k (asInt (aL x off))
 | .str,x,off=> .str (dV (aL x off))
 | .sl e sh,x,off=> .sl e sh none (asL (aL x off))
def MK (P:Program) (t:TypeId) (sh:List Kd) (x:V) (off:Nat):Bb:=
 match bE P t,bX P t with
 |some true,some n=>
  bif Nat.ble (off+n) sh.length then ok (.agg ((List.range n).map fun j=>eta (sh.getD (off+j) .oth) (aL x (off+j)))) else none
 |some false,_=>bif Nat.blt off sh.length then ok (XA (sh.getD off .oth) x off) else none
 |_,_=>none
def partOf (P:Program) (t:TypeId) (a:af) (off:Nat):Bb:=
 match bE P t,bX P t with
 |some true,some n=>bif Nat.ble (off+n) a.length then ok (.agg ((a.drop off).take n)) else none
 |some false,_=>bif Nat.blt off a.length then(match(a.getD off .any).deep with|some v=>ok v|none=>none) else none
 |_,_=>none
def KG (P:Program) (t:TypeId) (x:V) (i:Int):Bb:=
 match x with
 | .str l=>match P.underlying t with
  |some .string=>some (au (aD 0 i) (aU i (aF l)),.val (.int .u8 (sat l i)))
  |_=>none
 |_=>none
def uJ (P:Program) (t:TypeId) (x:V) (i:Int):Bb:=
 match x with
 | .sl c sh o xs=>match Ec P t with
  |some e=>match bX P e with
   |some n=>bif n==sh.length then some (au (aD 0 i) (aU i (aM xs)),.val (match o with|some L=> .eptr L c sh xs i 0|none=> .rptr sh (bf xs i) 0)) else none
   |none=>none
  |none=>none
 | .slz L c sh xs _ _ _ _ _ _=>match Ec P t with
  |some e=>match bX P e with
   |some n=>bif n==sh.length then some (au (aD 0 i) (aU i (aM xs)),.val (.epz L c sh.length i 0)) else none
   |none=>none
  |none=>none
 | .rptr sh (.agg b) 0=>match P.underlying t with
  |some (.array n e)=>match bX P e,bE P e with
   |some a,some ag=>
    bif n*a==b.length&&Nat.blt 0 a&&(ag||a==1)&&rJ (sh.take a) (chunks ag a n b) then
     some (au (aD 0 i) (aU i n),.val (.rptr (sh.take a) (bf (chunks ag a n b) i) 0)) else none
   |_,_=>none
  |_=>none
 |_=>none
def BQ (P:Program) (t:TypeId) (k off:Nat) (i:Int):Bb:=
 match P.underlying t with
 |some (.array n e)=>match bX P e with
  |some a=>bif Nat.blt 0 a then some (true,.alts i ((List.range n).map fun j=> .box k (off+j*a))) else none
  |none=>none
 |_=>none
def xW (P:Program) (t:TypeId) (b:af) (i:Int):Bb:=
 match P.underlying t with
 |some (.array n e)=>match bX P e,bE P e with
  |some a,some ag=>bif n*a==b.length&&Nat.blt 0 a&&(ag||a==1)&&b.all V.one then some (true,.alts i (chunks ag a n b)) else none
  |_,_=>none
 |_=>none
def KH (P:Program) (t:TypeId) (x:V) (g d:Option V):Bb:=
 match x with
 | .str l=>
  match P.underlying t,g,d with
  |some .string,some (.int _ a),some (.int _ b)=>some (au (au (aD 0 b) (aD b (aF l))) (au (aD 0 a) (aD a b)),.val (.str (bW l a b)))
  |some .string,none,some (.int _ b)=>some (au (aD 0 b) (aD b (aF l)),.val (.str (bW l 0 b)))
  |some .string,some (.int _ a),none=>some (au (aD 0 a) (aD a (aF l)),.val (.str (bW l a (aF l))))
  |some .string,none,none=>ok (.str l)
  |_,_,_=>none
 | .sl e sh _ xs=>
  match Ec P t with
  |none=>none
  |some h=>match bX P h with
   |none=>none
   |some n=>bif n==sh.length then
     match g,d with
     |some (.int _ a),some (.int _ b)=>some (au (au (aD 0 b) (aD b (aM xs))) (au (aD 0 a) (aD a b)),.val (.sl e sh none (zT xs a b)))
     |none,some (.int _ b)=>some (au (aD 0 b) (aD b (aM xs)),.val (.sl e sh none (zT xs 0 b)))
     |some (.int _ a),none=>some (au (aD 0 a) (aD a (aM xs)),.val (.sl e sh none (zT xs a (aM xs))))
     |none,none=>ok (.sl e sh none xs)
     |_,_=>none
    else none
 | .rptr sh (.agg f) 0=>
  match P.underlying t,g,d with
  |some (.array n e),none,none=>match bX P e,bE P e with
   |some c,some ag=>bif n*c==f.length&&Nat.blt 0 c&&Nat.blt 0 n&&(ag||c==1)&&rJ (sh.take c) (chunks ag c n f) then ok (.sl e (sh.take c) none (chunks ag c n f)) else none
   |_,_=>none
  |_,_,_=>none
 |_=>none
def Yx (P:Program) (t:TypeId) (x:V):Bb:=
 match P.underlying t,x with
 |some .string,.str l=>ok (.int .i64 (aF l))
 |some (.slice _),.sl _ _ _ xs=>ok (.int .i64 (aM xs))
 |some (.slice _),.nilsl=>ok (.int .i64 0)
 |some (.slice _),.slz _ _ _ xs _ _ _ _ _ _=>ok (.int .i64 (aM xs))
 |some (.array n _),_=>ok (.int .i64 (n:Int))
 |_,_=>none
def rO (great:Bool) (x y:V):Bb:=
 match x,y with
 | .int k a,.int c b=>bif decide (k=c) then ok (.int k (match great with|true=>imax a b|false=>um a b)) else none
 |_,_=>none
def tailV (sh:List Kd):V→Option (af)
 | .sl _ a _ ys=>bif Kd.Ba sh a then some ys else none
 | .nilsl=>some []
 |_=>none
def QB:List Kd→Nat→Option (Nat×Nat×List Kd)
 |[],_=>none
 | .sl e sh::l,i=>bif (sh.all flatK&&Nat.blt 0 sh.length)&&l.all flatK then some (i,e,sh) else none
 |k::l,i=>bif flatK k then QB l (i+1) else none
def Ow (c:Nat):af→Bool
 |[y]=>y.cells.all (fun v=>match v with
  | .bool _=>true
  | .int _ _=>true
  | .str _=>true
  | .nilsl=>true
  |_=>false)&&(match y.cells.getD c .any with
  | .nilsl=>true
  |_=>false)
 |_=>false
def Dz (e:Nat) (sh:List Kd) (ys:af):Eff:=match QB sh 0 with
 |some (c,b,a)=>bif Ow c ys then .ownz e sh ys c b a else .own e sh ys
 |none=> .own e sh ys
def F4 (P:Program) (f:List TypeId) (s x:V):Bb:=
 match f with
 |[t,u]=>match elemOf P t with
  |none=>none
  |some (e,sh,_)=>
   bif t==u then
    match tailV sh x with
    |none=>none
    |some ys=>
     match s with
     | .nilsl=>some (qz ys,Dz e sh ys)
     | .sl b a (some L) xs=>bif e==b&&Kd.Ba sh a then some (dU xs ys,.app L e sh (bS xs ys)) else none
     | .slz L b a xs _ _ _ _ _ _=>match QB sh 0 with
      |some (c,g,d)=>bif e==b&&Kd.Ba sh a&&Ow c ys then some (dU xs ys,.appz L e sh (bS xs ys) (aM xs) c g d) else none
      |none=>none
     |_=>none
   else match P.underlying u,sh,x with
    |some .string,[.int .u8],.str l=>
     match s with
     | .nilsl=>some (qz (aH l),.own e [.int .u8] (aH l))
     | .sl b a (some L) xs=>bif e==b&&Kd.Ba [.int .u8] a then some (dU xs (aH l),.app L e [.int .u8] (bS xs (aH l))) else none
     |_=>none
    |_,_,_=>none
 |_=>none
def Ra (P:Program) (t:TypeId) (l c:V):Bb:=
 match l,c,elemOf P t with
 | .int .i64 n,.int .i64 m,some (e,sh,z)=>some (au (aD 0 n) (au (aD n m) (aD m 16777216)),.own e sh (xJ n z))
 |_,_,_=>none
def FI (z:V) (n a:Nat):af:=(List.range (n*a)).map fun i=>z.cells.getD (i%a) .any
def qZ (P:Program) (t:TypeId) (n:Nat) (a:List (Nat×V)):Bb:=
 match elemOf P t with
 |some (e,sh,z)=>
  bif n==0 then(match a with|[]=>some (true,.own e sh [])|_=>none) else
  match bE P e,tC (fun i=>some (i*sh.length,sh.length)) (FI z n sh.length) a with
  |some ag,some b=>
   bif (ag||sh.length==1)&&rJ sh (chunks ag sh.length n b)&&Nat.ble (n*sh.length) 16777216 then some (true,.own e sh (chunks ag sh.length n b)) else none
  |_,_=>none
 |none=>none
def KI (P:Program) (a:Array Field) (j:Nat):Option (Nat×Nat):=
 match a[j]? with
 |some f=>(match bX P f.type with|some n=>some (f.offset,n)|none=>none)
 |none=>none
def KJ (P:Program) (t:TypeId) (a:List (Nat×V)):Bb:=
 match P.info? t with
 |some i=>
  match i.zero,P.underlying t with
  |some (.agg z),some (.struct c)=>
   match tC (KI P c) (z.toList.map zV) a with
   |some b=>bif c.all (fun f=>(bX P f.type).isSome) then ok (.agg b) else none
   |none=>none
  |some (.agg z),some (.array _ e)=>
   match bX P e with
   |some n=>match tC (fun i=>some (i*n,n)) (z.toList.map zV) a with
    |some b=>ok (.agg b)
    |none=>none
   |none=>none
  |_,_=>none
 |none=>none
def Rb (P:Program) (b a:TypeId) (x:V):Bb:=
 match P.underlying b,P.underlying a,x with
 |some (.int _),some (.int k),.int _ n=>ok (.int k (gu k n))
 |some .string,some .string,.str l=>ok (.str l)
 |some .string,some (.slice e),.str l=>match P.underlying e with
  |some (.int .u8)=>some (okStr l,.newSl e [.int .u8] (aH l))
  |_=>none
 |some (.slice e),some .string,.sl _ [.int .u8] _ xs=>match P.underlying e with
  |some (.int .u8)=>ok (.str (fD xs))
  |_=>none
 |some (.slice e),some .string,.nilsl=>match P.underlying e with
  |some (.int .u8)=>ok (.str [])
  |_=>none
 |_,_,_=>none
def Bv (cells:af) (off n:Nat):Option (af):=bif Nat.ble (off+n) cells.length then V.tu ((cells.drop off).take n) else none
def lk:List (Nat×Nat)→Nat→Option Nat
 |[],_=>none
 |(k,v)::l,j=>bif k==j then some v else lk l j
def oF:List Nat→Bool
 |[]=>true
 |a::l=>bif l.contains a then false else oF l
def mI (mb ml:List (Nat×Nat)):Bool:=oF (mb.map (·.1))&&oF (mb.map (·.2))&&oF (ml.map (·.1))&&oF (ml.map (·.2))
def sP (mb ml:List (Nat×Nat)):V→V
 | .sl e sh (some L) xs=> .sl e sh (lk ml L) xs
 | .eptr _ _ _ _ _ _=> .any
 | .slz L e sh xs o2 i c d b ys=>match lk ml L with
  |some L'=> .slz L' e sh xs (o2.bind (lk ml)) i c d b ys
  |none=> .any
 | .epz _ _ _ _ _=> .any
 | .box k off=>match lk mb k with|some k'=> .box k' off|none=> .any
 | .fn f a=>match a with|[]=> .fn f []|_=> .any
 | .old x=>bif x.eH then x else .any
 |v=>v
def V.ren (mb ml:List (Nat×Nat)):V→V
 | .tup vs=> .tup (vs.map (sP mb ml))
 |v=>sP mb ml v
def nU (a:Nat→Nat→Nat):Nat→af→List (Nat×Nat)
 |_,[]=>[]
 |i,.sl _ _ (some L) _::l=>(L,a L i)::nU a (i+1) l
 |i,.slz L _ _ _ (some L2) _ _ _ _ _::l=>(L,a L i)::(L2,a L2 (i+500))::nU a (i+1) l
 |i,.slz L _ _ _ none _ _ _ _ _::l=>(L,a L i)::nU a (i+1) l
 |i,_::l=>nU a (i+1) l
def U6:Nat:=1000000000000
def iP:af→af
 |[]=>[]
 |v::l=>(match v with
  | .fn _ a=>a.filterMap fun c=>match c with
   | .box k 0=>some (.box k U6)
   |_=>none
  |_=>[])++iP l
def qI:V→Bool
 | .bxa off _=>off==U6
 |_=>false
def uq (a:af):Bool:=a.all fun c=>match c with
 | .box _ 0=>true
 |_=>false
def oV (bx:List (Nat×af)) (j:Nat):V→List (Nat×Nat)×List (Nat×Nat)
 | .box k _=>match aA bx k with
  |some a=>([(k,HL+j)],nU (fun _ i=>HL+1000*(j+1)+1+i) 0 a)
  |none=>([],[])
 | .sl _ _ (some L) _=>([],[(L,HL+1000*(j+1))])
 |_=>([],[])
def dX (bx:List (Nat×af)):Nat→af→List (Nat×Nat)×List (Nat×Nat)
 |_,[]=>([],[])
 |j,v::l=>((oV bx j v).1++(dX bx (j+1) l).1,(oV bx j v).2++(dX bx (j+1) l).2)
def qJ (bx:List (Nat×af)) (mb ml:List (Nat×Nat)):V→Option V
 | .box k off=>match aA bx k with
  |some a=>some (.bxa off (a.map (V.ren mb ml)))
  |none=>none
 | .sl e sh (some L) xs=>some (sP mb ml (.sl e sh (some L) xs))
 | .fn f (c::a)=>bif Nat.blt f ul&&uq (c::a) then some (.fn f ((c::a).map (sP mb ml))) else none
 |v=>v.deep
def fH (bx:List (Nat×af)) (mb ml:List (Nat×Nat)):af→Option (af)
 |[]=>some []
 |v::l=>match qJ bx mb ml v,fH bx mb ml l with
  |some v,some l=>some (v::l)
  |_,_=>none
def M3 (bx:List (Nat×af)) (j:Nat) (vs:af):Option (af×List (Nat×Nat)×List (Nat×Nat)):=
 match fH bx (dX bx j vs).1 (dX bx j vs).2 vs with
 |some args=>some (args,(dX bx j vs).1,(dX bx j vs).2)
 |none=>none
def FJ:V→Bool
 | .box _ off=>off==U6
 |_=>false
def mJ (bx:List (Nat×af)) (j:Nat) (vs:af):Option (af×List (Nat×Nat)×List (Nat×Nat)):=bif vs.any FJ then none else M3 bx j (vs++iP vs)
def V.vw:V→Bool
 | .bxa _ _=>true
 |_=>false
def V.sZ:V→V
 | .sl e sh _ xs=> .sl e sh none xs
 | .old x=>bif x.eH then x else .any
 |v=>v
def gG (args:af):Bool:=args.any V.vw
def V.handed:V→Bool
 | .bxa _ _=>true
 | .sl _ _ (some _) _=>true
 |_=>false
def handed (args:af):Bool:=args.any V.handed
def Rc (j:Nat):V→V
 | .bxa off _=> .box (HL+j) off
 |v=>v
def bF:Nat→af→af
 |_,[]=>[]
 |j,v::l=>bif qI v then bF (j+1) l else Rc j v::bF (j+1) l
def dF:Nat→af→List (Nat×af)
 |_,[]=>[]
 |j,.bxa _ a::l=>(HL+j,a)::dF (j+1) l
 |j,_::l=>dF (j+1) l
def eY:Nat→af→List (af)→List (Nat×af)
 |_,[],_=>[]
 |j,.bxa _ _::l,a::bs=>(HL+j,a)::eY (j+1) l bs
 |j,.bxa _ _::l,[]=>eY (j+1) l []
 |j,_::l,bs=>eY (j+1) l bs
def Ox:V→Option V
 | .bxa off a=>some (.bxa off a)
 | .sl e sh o xs=>some (.sl e sh o xs)
 | .old x=>bif x.eH then some (.old x) else none
 | .fn f (c::a)=>some (.fn f (c::a))
 |v=>v.deep
def qK:af→Option (af)
 |[]=>some []
 |v::l=>match Ox v,qK l with
  |some v,some l=>some (v::l)
  |_,_=>none
def xM:V→af
 | .tup vs=>vs
 |v=>[v]
def iQ:af→Bool
 | .nilp::_::_=>true
 |_=>false
def Yy (P:Program):Nat→TypeId→Bool
 |0,_=>false
 |k+1,t=>match P.info? t with
  |some i=>(match P.underlying t with
   |some (.struct c)=>(match c.toList with
    |a::l=>(a.name== "addr" &&(match l with|[b]=>b.name== "buf" |_=>false)&&(match i.desc with| .named _ _=>true|_=>false))||(a.offset==0&&Yy P k a.type)
    |_=>false)
   |_=>false)
  |none=>false
def mK (P:Program) (t:TypeId) (n:Nat):Bool:=match P.info? t with
 |some i=>(match i.desc with| .named _ _=>true|_=>false)&&(i.size==n&&Yy P 4 t)
 |none=>false
def jd (P:Program) (f:Nat):Bool:=match P.funcs[f]? with|some fn=>fn.body.isSome|none=>false
def yU:V→Bool
 | .any=>true
 | .bool _=>true
 | .int _ _=>true
 | .str _=>true
 | .nilsl=>true
 | .nilif=>true
 | .nilp=>true
 |_=>false
def Ee:V→Bool
 | .sl _ sh (some _) _=>sh.all flatK
 | .eptr _ _ sh _ _ _=>sh.all flatK
 | .box _ _=>true
 | .old _=>true
 |v=>yU v
def V.flat:V→Bool
 | .tup vs=>vs.all Ee
 | .fn _ vs=>vs.all Ee
 | .agg a=>a.all yU
 |v=>Ee v
def V.forget (v:V):V:=bif v.flat then v else .any
def St.MN (s:St):Bool:=s.fr.all V.flat&&s.bx.all fun(_,cs)=>cs.all V.flat
def St.forget (s:St):St:=⟨s.fr.map V.forget,s.bx.map fun(j,cs)=>(j,cs.map V.forget)⟩
def QY:Nat→List (Nat×V)→Bool
 |_,[]=>true
 |k,p::l=>p.1==k&&QY (k+1) l
def FK:V→Bool
 | .box _ _=>true
 |_=>false
def Yz (P:Program) (t:TypeId) (a:List (Nat×V)):Option (af):=match P.info? t,P.underlying t with
 |some i,some (.array n e)=>match i.zero,bX P e with
  |some (.agg z),some m=>bif m==1&&z.size==n&&n==a.length&&Nat.blt 0 n&&QY 0 a&&a.all (fun p=>FK p.2) then some (a.map fun p=>p.2) else none
  |_,_=>none
 |_,_=>none
def xX (P:Program) (t:TypeId) (vs:af) (n:Int):Bb:=match P.underlying t with
 |some (.array m e)=>match bX P e,bE P e with
  |some k,some false=>bif k==1&&m==vs.length&&Nat.blt 0 m then some (true,.alts n vs) else none
  |_,_=>none
 |_=>none
def xN (L off:Nat):af→Option (Int×Nat×Nat×List Kd×af)
 |[]=>none
 | .slz L' _ sh _ (some L2) i c b a ys::l=>bif (L==L'&&c==off)&&Nat.blt off sh.length then some (i,L2,b,a,ys) else xN L off l
 |_::l=>xN L off l
def Bw (bx:List (Nat×af)) (L off:Nat):List (Nat×af)→Option (Int×Nat×Nat×List Kd×af)
 |[]=>none
 |(k,_)::l=>match aA bx k with
  |some a=>(match xN L off a with
   |some x=>some x
   |none=>Bw bx L off l)
  |none=>Bw bx L off l
def MO (L off:Nat) (bx:List (Nat×af)):Option (Int×Nat×Nat×List Kd×af):=Bw bx L off bx
def xO (L:Nat):af→Option (List Kd×af)
 |[]=>none
 | .slz L' _ sh xs _ _ _ _ _ _::l=>bif L==L' then some (sh,xs) else xO L l
 |_::l=>xO L l
def Bz (bx:List (Nat×af)) (L:Nat):List (Nat×af)→Option (List Kd×af)
 |[]=>none
 |(k,_)::l=>match aA bx k with
  |some a=>(match xO L a with
   |some x=>some x
   |none=>Bz bx L l)
  |none=>Bz bx L l
def MP (L:Nat) (bx:List (Nat×af)):Option (List Kd×af):=Bz bx L bx
def MQ (k:Nat):V→Option V
 | .fn f [.int .i64 n,.box a 0]=>bif (f==BM&&k==a)&&Nat.blt n.toNat ul then some (.int .i64 n) else none
 |_=>none
def BA (k:Nat):af→Option (af)
 |[]=>some []
 |v::l=>match MQ k v,BA k l with
  |some x,some r=>some (x::r)
  |_,_=>none
def YA (P:Program) (t:TypeId) (a:List (Nat×V)):Option (af):=match P.info? t,P.underlying t with
 |some i,some (.array n e)=>match i.zero,bX P e with
  |some (.agg z),some m=>bif m==1&&z.size==n&&n==a.length&&Nat.blt 0 n&&QY 0 a then(match a with
   |(_,.fn _ [_,.box k 0])::_=>(match BA k (a.map fun p=>p.2) with
    |some l=>some (.box k 0::l)
    |none=>none)
   |_=>none) else none
  |_,_=>none
 |_,_=>none
def FL (z:Value):Option (af):=match bY (nO z) with
 |some b=>some b
 |none=>match z with
  | .agg a=>bif a.toList.all (fun u=>u.oneCell') then some (a.toList.map zV) else none
  |_=>none
def Kq (P:Program) (r:Operand→V) (bx:List (Nat×af)) (o:Oper):Bb:=
 match o.op with
 | .move x=>ok (r x)
 | .assign x=>match r x with
  | .nilsl=>match elemOf P o.type with
   |some (e,sh,_)=>some (true,.own e sh [])
   |none=>ok .nilsl
  |v=>ok v
 | .pick c x y=>match r c with
  | .bool b=>some (true,.pick b (r x) (r y))
  |_=>none
 | .alloc t=>match P.info? t with
  |some i=>match i.zero with
   |some z=>match FL z with
    |some h=>bif iQ h&&aT (mK P t h.length) then none else some (true,.lD t h)
    |none=>none
   |none=>none
  |none=>none
 | .box t x=>match bY (r x) with
  |some h=>bif iQ h&&aT (mK P t h.length) then none else some (true,.lD t h)
  |none=>none
 | .build t d=>match Yz P t (d.toList.map fun(i,x)=>(i,r x)) with
  |some vs=>ok (.fn ul vs)
  |none=>match YA P t (d.toList.map fun(i,x)=>(i,r x)) with
  |some vs=>ok (.fn AM vs)
  |none=>KJ P t (d.toList.map fun(i,x)=>(i,r x))
 | .buildSlice t n d=>qZ P t n (d.toList.map fun(i,x)=>(i,r x))
 | .load t a=>match r a with
  | .rptr sh x off=>MK P t sh x off
  | .eptr _ _ sh xs i off=>MK P t sh (bf xs i) off
  | .epz L _ _ i off=>match MO L off bx,bE P t with
   |some (j,L2,p,m,ys),some false=>some (ieq i j,.val (.sl p m (some L2) ys))
   |_,_=>none
  | .box k off=>match aA bx k with
   |some cells=>match bE P t,bX P t with
    |some true,some n=>match Bv cells off n with
     |some h=>ok (.agg h)
     |none=>none
    |some false,_=>bif Nat.blt off cells.length then ok (cells.getD off .any) else none
    |_,_=>none
   |none=>none
  |_=>none
 | .store t a x=>match r a,bY (r x) with
  | .box k off,some vs=>match aA bx k,bX P t with
   |some cells,some n=>bif vs.length==n&&Nat.ble (off+n) cells.length then some (true,.put k off vs) else none
   |_,_=>none
  | .eptr L e sh xs i off,some [v]=>match bE P t,bX P t with
   |some false,some 1=>bif Eb sh off v then some (true,.Bd L e sh (zU xs i (sO sh (bf xs i) off v))) else none
   |_,_=>none
  | .epz L e q i off,some [.sl p m (some L3) ys]=>match MP L bx,bE P t,bX P t with
   |some (sh,xs),some false,some 1=>bif sh.length==q&&(match QB sh 0 with
    |some (c,B,w)=>c==off&&p==B&&Kd.Ba m w
    |none=>false) then some (true,.Be L e sh (zU xs i (sO sh (bf xs i) off (.sl p m none ys))) i off L3 p m ys) else none
   |_,_,_=>none
  |_,_=>none
 | .nilCheck x=>match r x with
  | .eptr L e sh xs i off=>ok (.eptr L e sh xs i off)
  | .epz L e q i off=>ok (.epz L e q i off)
  | .rptr sh v off=>ok (.rptr sh v off)
  | .box k off=>ok (.box k off)
  |_=>none
 | .binOp op t x y _=>match r x,r y with
  | .nilif,.nilif=>QX P op t (Bu y) .nilif .nilif
  | .iface u v,.nilif=>QX P op t (Bu y) (.iface u v) .nilif
  |x,y=>Yw P op t x y
 | .makeInterface t x=>match P.underlying t,(r x).deep with
  |some (.interface _),_=>none
  |some _,some v=>ok (.iface t v)
  |_,_=>none
 | .typeAssert x _ t true=>match P.underlying t,Ed P t with
  |some (.interface _),_=>none
  |some _,some z=>match r x with
   | .nilif=>ok (.tup [z,.bool false])
   | .iface u v=>bif u==t then(bif okTA v then ok (.tup [v,.bool true]) else none) else ok (.tup [z,.bool false])
   |_=>none
  |_,_=>none
 | .panic x=>match r x with
  | .iface t v=>some (true,.ku (.iface t v))
  |_=>none
 | .unOp op _ x=>match op,r x with
  | .not,.bool b=>ok (.bool (aT b))
  | .neg,.int k n=>ok (.int k (bu k 0 n))
  |_,_=>none
 | .convert C A x=>Rb P C A (r x)
 | .makeFunc (.func f) first g=>bif (g.size==0&&Nat.blt 0 first.size&&Nat.blt f ul)&&(first.toList.map r).all V.single then ok (.fn BM (.int .i64 (f:Int)::first.toList.map r)) else bif (first.size==0&&Nat.blt f ul)&&(g.toList.map r).all V.single then ok (.fn f (g.toList.map r)) else none
 | .makeSlice t l c=>Ra P t (r l) (r c)
 | .slice t x E D none=>KH P t (r x) (E.map r) (D.map r)
 | .fieldAddr t x f=>match rM P t f with
  |some f=>match bX P f.type with
   |some 0=>none
   |some _=>match r x with
    | .rptr sh v off=>ok (.rptr sh v (off+f.offset))
    | .eptr L e sh xs i off=>ok (.eptr L e sh xs i (off+f.offset))
    | .epz L e q i off=>ok (.epz L e q i (off+f.offset))
    | .box k off=>ok (.box k (off+f.offset))
    |_=>none
   |none=>none
  |none=>none
 | .field t x f=>match rM P t f,r x with
  |some f,.agg h=>partOf P f.type h f.offset
  |_,_=>none
 | .indexAddr t x i=>match r i with
  | .int _ n=>match r x with
   | .box k off=>BQ P t k off n
   |x=>uJ P t x n
  |_=>none
 | .index t x i=>match r i with
  | .int _ n=>match r x with
   | .agg h=>xW P t h n
   | .fn f vs=>bif f==ul&&vs.all FK then xX P t vs n else none
   |x=>KG P t x n
  |_=>none
 | .extract x i=>match r x with
  | .tup vs=>bif Nat.blt i vs.length&&(match vs.getD i .any with| .tup _=>false| .fn _ _=>false|_=>true) then ok (vs.getD i .any) else none
  |_=>none
 | .call c=>match c.callee with
  | .value f=>match r f with
   | .fn id g=>bif id==BM then(match g with
     | .int .i64 n::h=>(match mJ bx 0 (h++c.args.toList.map r) with
      |some (args,mb,ml)=>bif (jd P n.toNat&&Nat.blt n.toNat ul)&&mI mb ml then some (true,.call n.toNat args mb ml) else none
      |none=>none)
     |_=>none) else(match mJ bx 0 (c.args.toList.map r++g) with
    |some (args,mb,ml)=>bif (jd P id&&Nat.blt id ul)&&mI mb ml then some (true,.call id args mb ml) else none
    |none=>none)
   |_=>none
  | .builtin .min=>match c.args.toList with
   |[x,y]=>rO false (r x) (r y)
   |_=>none
  | .builtin .max=>match c.args.toList with
   |[x,y]=>rO true (r x) (r y)
   |_=>none
  | .builtin .len=>match c.argTypes.toList,c.args.toList with
   |[t],[x]=>Yx P t (r x)
   |_,_=>none
  | .builtin .cap=>match c.argTypes.toList,c.args.toList with
   |[t],[x]=>(match P.underlying t,r x with
    |some (.slice _),.nilsl=>ok (.int .i64 0)
    |_,_=>none)
   |_,_=>none
  | .builtin .append=>match c.args.toList with
   |[s,x]=>F4 P c.argTypes.toList (r s) (r x)
   |_=>none
  |_=>none
 |_=>none
def V.YB:V→V
 | .old x=>x
 |v=>bif yU v then v else .any
def Vi:V→Option Nat
 | .sK _ _ (.int _ g)=>some g.toNat
 |_=>none
def Vj (E:Env) (g:Nat):Option (af):=match E.glob g with
 |some (.rptr _ (.sK _ (.agg a) _) _)=>some a
 |_=>none
def kg:af→Int→ah
 | .agg [.int _ k,.str s]::l,n=>sel (ieq n k) s (kg l n)
 |_,_=>[]
def DD:af→Int→Bool
 | .agg [.int _ k,.str _]::l,n=>sel (ieq n k) true (DD l n)
 |_,_=>false
def yV (E:Env) (fr:af) (o:Oper):Option Bb:=match o.op with
 | .lookup t x i false=>match Vi (iO E fr x),iO E fr i,E.P.underlying t with
  |some g,.int .i64 n,some (.map k e)=>match Vj E g,E.P.underlying k,E.P.underlying e with
   |some a,some (.int .i64),some .string=>some (some (DD a n,.val (.str (kg a n))))
   |_,_,_=>none
  |_,_,_=>none
 |_=>none
def zS (E:Env) (fr:af) (bx:List (Nat×af)) (o:Oper):Bb:=
 match yV E fr o with
 |some r=>r
 |none=>
 let r:=iO E fr
 bif o.op.operands.toList.any fun x=>(r x).Ib then
  (match Kq E.P (fun x=>(r x).YB) [] o with
   |some (c,.val v)=>bif v.eH then some (c,.val (.old v)) else Kq E.P (fun x=>(r x).yS) bx o
   |_=>Kq E.P (fun x=>(r x).yS) bx o)
 else Kq E.P r bx o
def MR (L:Nat):Option Nat→Option Nat
 |some L'=>bif L==L' then none else some L'
 |none=>none
def Vk (L i:Nat):Option Nat→Option Nat
 |some L'=>bif L==L' then some i else some L'
 |none=>none
def lkO (L:Nat):Option Nat→Bool
 |some L'=>L==L'
 |none=>false
def tF (L:Nat):V→V
 | .sl e sh (some L') xs=>bif L==L' then .sl e sh none xs else .sl e sh (some L') xs
 | .eptr L' e sh xs i off=>bif L==L' then .any else .eptr L' e sh xs i off
 | .slz L' e sh xs o2 i c d a ys=>bif L==L' then .any else .slz L' e sh xs (MR L o2) i c d a ys
 | .epz L' e b i off=>bif L==L' then .any else .epz L' e b i off
 |v=>v
def V.kill (L:Nat):V→V
 | .tup vs=> .tup (vs.map (tF L))
 | .fn f vs=> .fn f (vs.map (tF L))
 |v=>tF L v
def St.kill (s:St) (L:Nat):St:=⟨s.fr.map (V.kill L),s.bx.map fun(k,cs)=>(k,cs.map (V.kill L))⟩
def iA (L:Nat):V→Bool
 | .sl _ _ (some L') _=>L==L'
 | .eptr L' _ _ _ _ _=>L==L'
 | .slz L' _ _ _ o2 _ _ _ _ _=>L==L'||lkO L o2
 | .epz L' _ _ _ _=>L==L'
 |_=>false
def V.dG (L:Nat):V→Bool
 | .tup vs=>vs.any (iA L)
 | .fn _ vs=>vs.any (iA L)
 |v=>iA L v
def St.bn (s:St) (L:Nat):Bool:=s.fr.all (fun v=>aT (v.dG L))&&s.bx.all fun(_,cs)=>cs.all fun v=>aT (v.dG L)
def pZ (k:Nat):V→Bool
 | .box j _=>k==j
 |_=>false
def V.fO (k:Nat):V→Bool
 | .tup vs=>vs.any (pZ k)
 | .fn _ vs=>vs.any (pZ k)
 |v=>pZ k v
def St.iR (s:St) (k:Nat):Bool:=s.fr.all (fun v=>aT (v.fO k))&&s.bx.all fun(j,cs)=>aT (j==k)&&cs.all fun v=>aT (v.fO k)
def H6 (L e:Nat) (k:List Kd) (ys:af):V→V
 | .sl a sh (some L') xs=>bif L==L' then .sl e k (some L) ys else .sl a sh (some L') xs
 | .eptr L' a sh xs i off=>bif L==L' then .eptr L e k ys i off else .eptr L' a sh xs i off
 |v=>v
def V.upd (L e:Nat) (k:List Kd) (ys:af):V→V
 | .tup vs=> .tup (vs.map (H6 L e k ys))
 | .fn f vs=> .fn f (vs.map (H6 L e k ys))
 |v=>H6 L e k ys v
def St.upd (s:St) (L e:Nat) (k:List Kd) (ys:af):St:=⟨s.fr.map (V.upd L e k ys),s.bx.map fun(j,cs)=>(j,cs.map (V.upd L e k ys))⟩
def MS (L e:Nat) (sh:List Kd) (xs:af) (i:Int) (c L3 m:Nat) (g:List Kd) (ys:af):V→V
 | .slz L' l h f o2 k j d a b=>bif L==L' then .slz L e sh xs (some L3) i c m g ys else .slz L' l h f o2 k j d a b
 |v=>v
def V.xK (L e:Nat) (sh:List Kd) (xs:af) (i:Int) (c L3 b:Nat) (a:List Kd) (ys:af):V→V
 | .tup vs=> .tup (vs.map (MS L e sh xs i c L3 b a ys))
 | .fn f vs=> .fn f (vs.map (MS L e sh xs i c L3 b a ys))
 |v=>MS L e sh xs i c L3 b a ys v
def St.xK (s:St) (L e:Nat) (sh:List Kd) (xs:af) (i:Int) (c L3 b:Nat) (a:List Kd) (ys:af):St:=⟨s.fr.map (V.xK L e sh xs i c L3 b a ys),s.bx.map fun(j,cs)=>(j,cs.map (V.xK L e sh xs i c L3 b a ys))⟩
def Vl (L:Nat):V→V
 | .slz L' e sh xs o2 i c d a ys=>bif L==L' then .sl e sh (some L) xs else .slz L' e sh xs o2 i c d a ys
 | .epz L' e b i off=>bif L==L' then .any else .epz L' e b i off
 |v=>v
def V.MH (L:Nat):V→V
 | .tup vs=> .tup (vs.map (Vl L))
 | .fn f vs=> .fn f (vs.map (Vl L))
 |v=>Vl L v
def St.MH (s:St) (L:Nat):St:=⟨s.fr.map (V.MH L),s.bx.map fun(k,cs)=>(k,cs.map (V.MH L))⟩
def isZ:V→Bool
 | .slz _ _ _ _ _ _ _ _ _ _=>true
 |_=>false
def Re:af→List Nat
 |[]=>[]
 | .slz L _ _ _ _ _ _ _ _ _::l=>L::Re l
 |_::l=>Re l
def YC (s:St):List Nat→St
 |[]=>s
 |L::l=>YC (s.MH L) l
def Y3:Kd→Bool
 | .sl _ sh=>!(sh.all flatK)
 |_=>false
def RD (P:Program) (o:Oper):Bool:=match o.op with
 | .load t _=>(match bE P t with|some true=>(fE P 8 t).any Y3|_=>false)
 |_=>false
def QZ (P:Program) (ops:List Oper) (s:St):St:=
 bif s.bx.any (fun(_,cs)=>cs.any isZ)&&ops.any (RD P) then YC s (s.bx.flatMap fun(_,cs)=>Re cs) else s
def dz (d:Nat):Nat:=d+500000000
def St.put (s:St) (d:Option Nat) (v:V):St:=match d with|some d=>⟨s.fr.set d v,s.bx⟩|none=>s
def fP (d:Nat):Bool→af→af
 |_,[]=>[]
 |true,.sl e sh (some _) xs::l=> .sl e sh (some d) xs::fP d false l
 |b,.sl e sh _ xs::l=> .sl e sh none xs::fP d b l
 |b,v::l=>v::fP d b l
def V.Ic (d:Nat):V→V
 | .sl e sh (some _) xs=> .sl e sh (some d) xs
 | .tup vs=> .tup (fP d true vs)
 |v=>v
section
variable {α:Type}
def Vm (i:Int) (K:V→Option α):Nat→af→Option α
 |_,[]=>none
 |j,v::l=>sel (ieq i (j:Int)) (K v) (Vm i K (j+1) l)
abbrev Caller (α:Type):=Nat→af→(V→Option α)→Option α
def fe (any:Bool) (L n:Nat):Nat:=bif any&&Nat.ble HL L then HL+n else n
def nV (s:St):List Nat→St
 |[]=>s
 |L::l=>nV (s.kill L) l
def Ef (mb ml:List (Nat×Nat)):List (Nat×Nat)→List (af)→List (Nat×af)→List (Nat×af)
 |(k,_)::l,a::bs,bx=>Ef mb ml l bs (gm bx k (a.map (V.ren mb ml)))
 |_,_,bx=>bx
def Bi (any:Bool) (d:Nat) (x:V):List (Nat×Nat)→List (af)→List (Nat×Nat)
 |(k,_)::l,a::bs=>nU (fun L i=>fe any L (10000*(k%HL+1)+i)) 0 a++Bi any d x l bs
 |_,_=>nU (fun L i=>fe any L (match i with|0=>d|_=>d+1000*i)) 0 (xM x)
def mM:List Nat→List (Nat×Nat)→List (Nat×Nat)
 |_,[]=>[]
 |done,(L,n)::l=>bif done.contains L then mM done l else(L,n)::mM (L::done) l
def eG (l:List (Nat×Nat)):List (Nat×Nat):=l.map fun(a,b)=>(b,a)
def tH:List (Nat×Nat)→Bool
 |[]=>false
 |(L,_)::l=>Nat.ble HL L||tH l
def dOr:Option Nat→Nat
 |some d=>d
 |none=>0
def M4 (s:St) (d:Option Nat) (mb ml:List (Nat×Nat)) (x:V) (bs:List (af)) (a:List (Nat×Nat)):Option St:=
 bif oF (a.map (·.2))&&bs.length==mb.length then
  let b:=nV (nV s (ml.map (·.1))) (a.map (·.2))
  some (St.put ⟨b.fr,Ef (eG mb) a mb bs b.bx⟩ d (x.ren (eG mb) a))
 else none
def mO (s:St) (d:Option Nat) (mb ml:List (Nat×Nat)) (x:V) (bs:List (af)):Option St:=
 M4 s d mb ml x bs (mM [] (Bi (tH ml) (dOr d) x mb bs))
def kY:V→Option Value
 | .bool b=>some (.bool b)
 | .int k n=>some (.int k n)
 |_=>none
def kZ:af→Option (List Value)
 |[]=>some []
 |v::l=>match kY v,kZ l with
  |some v,some l=>some (v::l)
  |_,_=>none
def bQ:V→Option Value
 | .iface t (.agg a)=>match kZ a with|some l=>some (.iface t (.agg l.toArray))|none=>none
 | .iface t v=>match kY v with|some v=>some (.iface t v)|none=>none
 |_=>none
def Rf:V→Bool
 | .tup []=>true
 | .bool _=>true
 | .int _ _=>true
 | .str _=>true
 |_=>false
def YD (dr:Bool) (call:Caller α) (s:St) (d:Option Nat) (eff:Eff) (K:St→Option α) (KP:V→St→Option α):Option α:=
 match eff with
 | .val v=>K (s.put d v)
 | .newSl e sh xs=>K (s.put d (.sl e sh none xs))
 | .own e sh xs=>match d with
  |some d=>bif (s.put (some d) .any).bn d&&Nat.blt d HL then K (s.put (some d) (.sl e sh (some d) xs)) else none
  |none=>none
 | .app L e sh xs=>match d with
  |some d=>bif (s.kill L).bn (fe true L d)&&Nat.blt d HL then K ((s.kill L).put (some d) (.sl e sh (some (fe true L d)) xs)) else none
  |none=>none
 | .lD _ g=>match d with
  |some d=>bif s.iR d&&g.all (fun v=>aT (v.fO d))&&Nat.blt d HL then K ⟨s.fr.set d (.box d 0),(d,g)::s.bx⟩ else none
  |none=>none
 | .put k off g=>match aA s.bx k with
  |some old=>bif iQ (over old off g)&&aT (iQ old) then none else K (St.put ⟨s.fr,gm s.bx k (over old off g)⟩ d (.tup []))
  |none=>none
 | .call f args mb ml=>call f args fun r=>match r with
  | .out p x bs=>bif dr then none else(match p with
   |true=>match mO s none mb ml x bs with
    |some s'=>(match bQ x with|some _=>KP x s'|none=>none)
    |none=>none
   |false=>match mO s d mb ml x bs with
    |some s'=>K s'
    |none=>none)
  | .keep p x=>bif dr then none else(match p with
   |true=>(match bQ x with|some _=>KP x s|none=>none)
   |false=>bif Rf x then K (s.put d x) else none)
  |r=>bif gG args then none else(match d with
   |some d=>bif s.bn d&&Nat.blt d HL then K (s.put (some d) (r.Ic d)) else none
   |none=>K s)
 | .ku v=>bif dr then none else(match bQ v with|some _=>KP v s|none=>none)
 | .pick b x y=>sel b (K (s.put d x)) (K (s.put d y))
 | .alts i vs=>Vm i (fun v=>K (s.put d v)) 0 vs
 | .Bd L e k ys=>bif Nat.blt L HL then K ((s.forget.upd L e k ys).put d (.tup [])) else none
 | .ownz e sh xs c h a=>match d with
  |some d=>bif (s.put (some d) .any).bn d&&((s.put (some d) .any).bn (dz d)&&Nat.blt (dz d) HL) then K (s.put (some d) (.slz d e sh xs (some (dz d)) 0 c h a [])) else none
  |none=>none
 | .appz L e sh xs i c h a=>match d with
  |some d=>bif (s.kill L).bn (fe true L d)&&((s.kill L).bn (dz d)&&Nat.blt (dz d) HL) then K ((s.kill L).put (some d) (.slz (fe true L d) e sh xs (some (dz d)) i c h a [])) else none
  |none=>none
 | .Be L e sh xs i c L3 h a ys=>K ((s.xK L e sh xs i c L3 h a ys).put d (.tup []))
def FM:Eff→Bool
 | .put _ _ _=>true
 | .app _ _ _ _=>true
 | .Bd _ _ _ _=>true
 | .ku _=>true
 | .ownz _ _ _ _ _ _=>true
 | .appz _ _ _ _ _ _ _ _=>true
 | .Be _ _ _ _ _ _ _ _ _ _=>true
 |_=>false
def Q0 (E:Env) (call:Caller α) (dr:Option (List (Nat×af))) (o:Oper) (s:St) (K:St→Option α) (KP:V→St→Option α):Option α:=
 match zS E s.fr (match dr with|some b=>b|none=>s.bx) o with
 |none=>none
 |some (c,eff)=>bif dr.isSome&&FM eff then none else sel c (YD dr.isSome call s o.dst eff K KP) none
def RE (ops:List Oper) (s:St) (o:Oper) (j:Nat) (a:Bool) (c e:St→Option α):Option α:=
 match ops[j]? with
 |none=>none
 |some f=>match f.dst with
  |none=>none
  |some d=>match slot s.fr d with
   | .bool b=>sel b ((match a with|true=>c|false=>e) ⟨s.fr.set d (.bool true),s.bx⟩) ((match a with|true=>e|false=>c) ⟨s.fr.set d (.bool false),s.bx⟩)
   | .tup []=>e s
   |_=>none
def FN {β:Type}:af→(af→β)→β
 |[],k=>k []
 |v::l,k=>FN l fun l=>k (v::l)
def pf (K:St→Option α) (s:St):Option α:=FN s.fr fun fr=>K ⟨fr,s.bx⟩
def jm (E:Env) (call:Caller α) (ops:List Oper) (bx:Option (List (Nat×af))) (KP:V→St→Option α):List Oper→St→(St→Option α)→Option α
 |[],s,K=>K s
 |o::l,s,K=>
  match o.guard with
  |none=>Q0 E call bx o s (pf fun s=>jm E call ops bx KP l s K) KP
  |some (j,a)=>RE ops s o j a (pf fun s=>Q0 E call bx o s (pf fun s=>jm E call ops bx KP l s K) KP)
   (pf fun s=>pf (fun s=>jm E call ops bx KP l s K) (s.put o.dst (.tup [])))
def tmpsOf (l:List Operand):List Nat:=l.filterMap fun| .tmp t=>some t|_=>none
def qM (o:Oper):List Nat:=tmpsOf o.op.operands.toList
def QC:Code→List Nat
 | .region _ ops _=>ops.toList.flatMap qM
 | .seq a b=>QC a++QC b
 | .cond c a b=>tmpsOf [c]++QC a++QC b
 | .block _ b=>QC b
 | .loop b=>QC b
 | .scope b=>QC b
 | .rangeFunc f _ a b=>tmpsOf [f]++QC a++QC b
 |_=>[]
def UO:Code→List Nat
 | .region _ ops _=>ops.toList.filterMap (·.dst)
 | .seq a b=>UO a++UO b
 | .cond _ a b=>UO a++UO b
 | .block _ b=>UO b
 | .loop b=>UO b
 | .scope b=>UO b
 | .rangeFunc _ c a b=>c.toList++UO a++UO b
 |_=>[]
def XB:List Oper→List Nat→List Nat×List Nat
 |[],W=>([],W)
 |o::l,W=>let r:=XB l (o.dst.toList++W);((qM o).filter (fun t=>!W.contains t)++r.1,r.2)
def UQ:Code→List Nat→List Nat×List Nat
 | .region _ ops _,W=>XB ops.toList W
 | .seq a b,W=>let x:=UQ a W;let y:=UQ b x.2;(x.1++y.1,y.2)
 | .cond c a b,W=>let x:=UQ a W;let y:=UQ b W;((tmpsOf [c]).filter (fun t=>!W.contains t)++x.1++y.1,x.2.filter y.2.contains)
 | .block _ b,W=>((UQ b W).1,W)
 | .loop b,W=>((UQ b W).1,W)
 | .scope b,W=>((UQ b W).1,W)
 | .rangeFunc f _ a b,W=>((tmpsOf [f])++(UQ a W).1++(UQ b W).1,W)
 |_,W=>([],W)
def RF:List Oper→List Nat→List Nat
 |[],_=>[]
 |o::l,W=>(qM o).filter (fun t=>!W.contains t)++RF l (o.dst.toList++W)
def Bf:Code→List Nat
 | .region _ ops _=>RF ops.toList []
 | .seq a b=>Bf a++Bf b
 | .cond _ a b=>Bf a++Bf b
 | .block _ b=>Bf b
 | .loop b=>Bf b
 | .scope b=>Bf b
 | .rangeFunc f _ a b=>tmpsOf [f]++Bf a++Bf b
 |_=>[]
def xP (tot Xo:List Nat) (n:Nat) (body:Code):List Nat:=
 let c:=QC body
 let a:=(UQ body []).1
 let b:=UO body
 (List.range n).filter fun t=>!Xo.contains t||(b.contains t&& !a.contains t&&tot.count t==c.count t)
def pW (L i:Nat):V→V
 | .sl e sh (some L') xs=>bif L==L' then .sl e sh (some i) xs else .sl e sh (some L') xs
 | .eptr L' e sh xs j off=>bif L==L' then .eptr i e sh xs j off else .eptr L' e sh xs j off
 | .slz L' e sh xs o2 j c d a ys=> .slz (bif L==L' then i else L') e sh xs (Vk L i o2) j c d a ys
 | .epz L' e b j off=> .epz (bif L==L' then i else L') e b j off
 |v=>v
def V.canon (L i:Nat):V→V
 | .tup vs=> .tup (vs.map (pW L i))
 | .fn f vs=> .fn f (vs.map (pW L i))
 |v=>pW L i v
def St.canon (s:St) (L i:Nat):St:=⟨s.fr.map (V.canon L i),s.bx.map fun(k,cs)=>(k,cs.map (V.canon L i))⟩
def jh:af→Nat→List Nat→St→St
 |[],_,_,s=>s
 | .sl _ _ (some L) _::l,i,a,s=>bif a.contains L||L==fe true L i then jh l (i+1) (L::a) s else
  bif s.bn (fe true L i)&&Nat.blt i HL then jh l (i+1) (L::a) (s.canon L (fe true L i)) else jh l (i+1) (L::a) s
 |_::l,i,a,s=>jh l (i+1) a s
def BB (n L:Nat) (s:St):St:=bif L==fe true L n||s.fr.any (fun v=>v.dG L) then s else
 bif s.bn (fe true L n)&&Nat.blt n HL then s.canon L (fe true L n) else s
def lF (b:Nat):af→Nat→St→St
 |[],_,s=>s
 | .sl _ _ (some L) _::l,i,s=>bif L==fe true L (b+i)||s.fr.any (fun v=>v.dG L) then lF b l (i+1) s else
  bif s.bn (fe true L (b+i))&&Nat.blt (b+i) HL then lF b l (i+1) (s.canon L (fe true L (b+i))) else lF b l (i+1) s
 | .slz L _ _ _ o2 _ _ _ _ _::l,i,s=>
  lF b l (i+1) (match o2 with
   |some L2=>BB (b+i+5000) L2 (BB (b+i) L s)
   |none=>BB (b+i) L s)
 |_::l,i,s=>lF b l (i+1) s
def Ak:List (Nat×af)→St→St
 |[],s=>s
 |(k,a)::l,s=>Ak l (lF (10000*(k%HL+1)) a 0 s)
def xQ (a:List Nat):af→Nat→af
 |[],_=>[]
 |v::l,i=>(bif a.contains i then .any else v)::xQ a l (i+1)
def FP {β:Type}:List Nat→(List Nat→β)→β
 |[],k=>k []
 |a::l,k=>FP l fun l=>k (a::l)
theorem En {β:Type}: ∀(l:List Nat) (k:List Nat→β),FP l k=k l
 |[],_=>rfl
 |a::l,k=>by unfold FP;exact En l _
def BD (a:List Nat) (s:St):St:=FP a fun a=>
 let fr:=xQ a s.fr 0
 let b:=jh fr 0 [] ⟨fr,s.bx.filter fun(k,_)=>!a.contains k||fr.any (V.fO k)⟩
 Ak b.bx b
inductive Ex where
 |norm|exit (id:Nat)|ret|ku (v:V)
def Oy (b:Code) (K:Ex→St→Option α) (next:St→Option α):Ex→St→Option α
 | .norm,s=>next s
 |e,s=>K e s
def RG (id:Nat) (K:Ex→St→Option α):Ex→St→Option α
 | .exit i,s=>bif i==id then K .norm s else K (.exit i) s
 |e,s=>K e s
def lG (n:Nat) (ops:List Oper):Bool:=
 let a:=ops.zipIdx
 a.all fun(o,i)=>
  (match o.dst with|some d=>Nat.blt d n|none=>false)&&
  a.all (fun(o',j)=>i==j||o.dst != o'.dst)&&
  o.after.toList.all (fun e=>!Region.binds .any e||Nat.blt e.on i)&&
  (qM o).all (fun t=>a.all fun(o',j)=>o'.dst != some t||(Nat.blt j i&&o.after.toList.any fun e=>Region.binds .any e&&e.on==j))&&
  (match o.guard with|none=>true|some (j,_)=>Nat.blt j i&&o.after.toList.any fun e=>Region.binds .any e&&e.on==j)
def waits (ops:List Oper):Nat→Nat→Nat→Bool
 |0,_,_=>false
 |n+1,j,i=>match ops[j]? with
  |some o=>o.after.toList.any fun e=>Region.binds .any e&&(e.on==i||waits ops n e.on i)
  |none=>false
def addN (l:List Nat):List Nat→List Nat
 |[]=>l
 |a::m=>bif l.contains a then addN l m else addN (a::l) m
def fF (o:Oper):List Nat:=(o.after.toList.filter fun e=>Region.binds .any e).map (·.on)
def uw:List Nat→(List Nat→Bool)→Bool
 |[],k=>k []
 |a::l,k=>uw l fun l=>k (a::l)
def FQ (ops:List Oper):Nat→List Nat→Bool
 |0,_=>true
 |i+1,S=>bif S.contains i then uw (addN S (match ops[i]? with|some o=>fF o|none=>[])) (fun S=>FQ ops i S) else false
def vG (ops:List Oper) (j:Nat):Bool:=match ops[j]? with
 |some o=>(fF o).all (fun e=>Nat.blt e j)&&uw (fF o) fun S=>FQ ops j S
 |none=>false
def jU:List Oper→Nat
 |[]=>0
 |o::l=>match o.dst with|some _=>jU l+1|none=>0
def FR (ops:List Oper):Nat→Nat
 |0=>0
 |k+1=>bif vG ops k then FR ops k else k+1
def eP (ops:List Oper):Nat:=FR ops (jU ops)
def FT (ops:List Oper):Nat→Nat→Bool
 |_,0=>true
 |m,n+1=>vG ops m&&FT ops (m+1) n
def kD (ops:List Oper) (m:Nat):Bool:=FT ops m (ops.length-m)
def Ie (ops:Array Oper) (l:Nat):Bool:=match ops[l]? with
 |some o=>(match o.op with| .extract _ _=>true|_=>false)&&(match o.guard with|none=>true|some _=>false)&&
  (List.range ops.size).all fun j=>j==l||(match ops[j]? with|some oj=>(fF o).contains j||(fF oj).contains l||o.apart ops oj|none=>true)
 |none=>false
def vH (ops:List Oper) (late:Nat→Bool):Nat→List Nat→Bool
 |0,_=>true
 |i+1,S=>bif S.contains i then uw (addN S (match ops[i]? with|some o=>fF o|none=>[])) (fun S=>vH ops late i S) else late i&&vH ops late i S
def BR (ops:List Oper) (late:Nat→Bool) (j:Nat):Bool:=match ops[j]? with
 |some o=>(fF o).all (fun e=>Nat.blt e j)&&uw (fF o) fun S=>vH ops late j S
 |none=>false
def vI (ops:List Oper) (late:Nat→Bool):Nat→Nat→Bool
 |_,0=>true
 |m,n+1=>BR ops late m&&vI ops late (m+1) n
def Ig (ops:Array Oper) (m i:Nat):Bool:=Nat.blt i m&&Ie ops i
def uK (ops:Array Oper) (m:Nat):Bool:=Region.noSelect ops&&vI ops.toList (Ig ops m) m (ops.toList.length-m)
def dO (ops:List Oper) (s:St):Bool:=ops.all fun o=>match o.dst with|some d=>s.bn d&&s.iR d|none=>false
def je (ops:List Oper) (s:St):Bool:=
 let idx:=ops.zipIdx
 idx.all (fun(oi,i)=>match oi.dst with
  |none=>false
  |some a=>idx.all (fun(oj,j)=>match oj.dst with
    |none=>false
    |some b=>i==j||(aT ((slot s.fr b).dG a)&&aT ((slot s.fr b).fO a))||waits ops ops.length j i)&&
   s.bx.all fun(k,cs)=>(cs.all fun v=>aT (v.dG a)&&aT (v.fO a))||idx.any fun(oj,j)=>oj.dst==some k&&waits ops ops.length j i)
def FU (ops:List Oper) (m:Nat):Bool:=match ops[m]? with
 |some p=>(match p.dst with|none=>true|some _=>false)&&(match p.guard with|none=>true|some _=>false)&&p.after.toList.all (fun e=>!Region.binds .any e)&&
  (qM p).all (fun t=>(ops.take m).all fun o=>o.dst != some t)
 |none=>false
def qN:List (Nat×af)→Nat→List (Nat×af)
 |[],_=>[]
 |(k,a)::l,j=>bif k==j then qN l j else(k,a)::qN l j
def yX (b:Code) (body:St→(Ex→St→Option α)→Option α) (a:List Nat) (K:Ex→St→Option α):Nat→St→Option α
 |0,_=>none
 |n+1,s=>body s fun e s'=>match e with
  | .norm=>pf (yX b body a K n) (BD a s')
  |e=>K e s'
def XD (P:Program) (t:TypeId):Bool:=match P.underlying t with|some (.slice _)=>true|_=>false
def Rh (P:Program) (t:TypeId) (f:Nat):Bool:=match P.underlying t with
 |some (.struct b)=>match b[f]? with
  |some a=>match P.info? a.type with
   |some i=>i.size != 0
   |none=>false
  |none=>false
 |_=>false
def vJ (P:Program) (o:Oper):Bool:=
 (match o.op with| .move _=>true| .nilCheck _=>true| .slice t _ _ _ none=>XD P t| .makeFunc _ _ _=>true| .fieldAddr t _ f=>Rh P t f|_=>false)&&(match o.guard with|none=>true|some _=>false)&&(match o.dst with|some _=>true|none=>false)
def rP (P:Program) (ops:Array Oper) (L:List Nat) (l:Nat):Bool:=match ops[l]? with
 |some o=>vJ P o&&(fF o).all (fun e=>L.contains e)&&
  (List.range ops.size).all fun j=>j==l||(match ops[j]? with|some oj=>(fF o).contains j||(fF oj).contains l||o.apart ops oj|none=>true)
 |none=>false
def mP (P:Program) (ops:Array Oper):List Nat→List Nat→List Nat
 |[],L=>L
 |l::r,L=>bif rP P ops L l then mP P ops r (L++[l]) else mP P ops r L
def cZ (P:Program) (ops:Array Oper):List Nat:=mP P ops (List.range ops.size) []
def fA (ops:Array Oper) (L:List Nat):List Nat:=(List.range ops.size).filter fun i=>!L.contains i
def H7 (p:List Nat) (o:Oper):Oper:=
 {o with after:=((o.after.toList.filter fun e=>p.contains e.on).map fun e=>{e with on:=p.idxOf e.on}).toArray,guard:=o.guard.map fun g=>(p.idxOf g.1,g.2)}
def bV (ops:Array Oper) (p:List Nat):Array Oper:=(p.map fun i=>H7 p (ops.getD i default)).toArray
def Eg (ops:Array Oper) (p:List Nat):Bool:=
 ops.toList.all fun o=>(match o.guard with|some (j,_)=>p.contains j|none=>true)&&o.after.toList.all fun e=>Nat.blt e.on ops.size
def evH {α:Type} (E:Env):List Oper→St→(St→Option α)→Option α
 |[],s,K=>K s
 |o::l,s,K=>match zS E s.fr s.bx o with
  |some (c,.val v)=>sel c (evH E l (s.put o.dst v) K) none
  |_=>none
def plainO (o:Oper):Bool:=match o.op with
 | .call c=>(match c.callee with| .builtin .append=>false|_=>true)
 | .store _ _ _=>false
 |_=>true
def Y4 (o:Oper):Bool:=match o.op with
 | .call c=>(match c.callee with| .value _=>true|_=>false)
 |_=>false
def isClo:V→Bool
 | .fn f (_::_)=>Nat.blt f ul
 |_=>false
def mkClo (o:Oper):Bool:=match o.op with
 | .makeFunc _ _ a=>a.size != 0
 |_=>false
def noClo (s:St) (l:List Oper):Bool:=!(l.any Y4&&l.any fun o=>mkClo o||(qM o).any fun t=>isClo (slot s.fr t))
def BF (s:St) (l:List Oper):Bool:=l.all plainO&&noClo s l
def KL (n:Nat) (ops:List Oper) (s:St):Bool:=BF s (ops.take (eP ops))&&lG n (ops.take (eP ops))&&kD ops (eP ops)&&dO (ops.take (eP ops)) s
structure Rd where
 tot:List Nat
 Xo:List Nat
 ord:Bool
def Ri (E:Env) (call:Caller α) (ops:Array Oper) (s:St) (K:Ex→St→Option α) (FB:St→Option α):Option α:=
 bif BF s (ops.toList.take (eP ops.toList))&&(lG s.fr.length (ops.toList.take (eP ops.toList))&&kD ops.toList (eP ops.toList)&&dO (ops.toList.take (eP ops.toList)) s) then
   jm E call ops.toList (some s.bx) (fun _ _=>none) (ops.toList.take (eP ops.toList)) s fun s'=>bif je (ops.toList.take (eP ops.toList)) s' then jm E call ops.toList none (fun v s=>K (.ku v) s) (ops.toList.drop (eP ops.toList)) s' fun s=>K .norm s else none
  else bif BF s (ops.toList.take (eP ops.toList))&&(lG s.fr.length (ops.toList.take (eP ops.toList))&&uK ops (eP ops.toList)&&dO (ops.toList.take (eP ops.toList)) s) then
   jm E call ops.toList (some s.bx) (fun _ _=>none) (ops.toList.take (eP ops.toList)) s fun s'=>bif je (ops.toList.take (eP ops.toList)) s' then jm E call ops.toList none (fun _ _=>none) (ops.toList.drop (eP ops.toList)) s' fun s=>K .norm s else none
  else bif FU ops.toList (jU ops.toList)&&lG s.fr.length (ops.toList.take (jU ops.toList))&&kD ops.toList (jU ops.toList+1) then
   (match ops.toList[jU ops.toList]? with
   |some p=>match zS E s.fr s.bx p with
    |some (c,.put k off a)=>sel c (match aA s.bx k with
     |some old=>bif (bif iQ (over old off a) then iQ old else true)&&dO (ops.toList.take (jU ops.toList)) s&&dO (ops.toList.take (jU ops.toList)) ⟨s.fr,gm s.bx k (over old off a)⟩ then
       jm E call ops.toList (some (qN s.bx k)) (fun _ _=>none) (ops.toList.take (jU ops.toList)) ⟨s.fr,gm s.bx k (over old off a)⟩ fun s'=>
        bif je (ops.toList.take (jU ops.toList)) s'&&je (ops.toList.take (jU ops.toList)) ⟨s'.fr,gm s'.bx k old⟩ then jm E call ops.toList none (fun v s=>K (.ku v) s) (ops.toList.drop (jU ops.toList+1)) s' fun s=>K .norm s else none
      else none
     |none=>none) none
    |_=>none
   |none=>none)
  else bif Region.noSelect ops&&Eg ops (fA ops (cZ E.P ops)) then
   evH E ((cZ E.P ops).map fun i=>ops.getD i default) s fun s=>bif KL s.fr.length (bV ops (fA ops (cZ E.P ops))).toList s then
    jm E call (bV ops (fA ops (cZ E.P ops))).toList (some s.bx) (fun _ _=>none) ((bV ops (fA ops (cZ E.P ops))).toList.take (eP (bV ops (fA ops (cZ E.P ops))).toList)) s fun s'=>
     bif je ((bV ops (fA ops (cZ E.P ops))).toList.take (eP (bV ops (fA ops (cZ E.P ops))).toList)) s' then
      jm E call (bV ops (fA ops (cZ E.P ops))).toList none (fun _ _=>none) ((bV ops (fA ops (cZ E.P ops))).toList.drop (eP (bV ops (fA ops (cZ E.P ops))).toList)) s' fun s=>K .norm s else none
    else FB s
  else none
noncomputable def both {α:Type} (a b:Option α):Option α:=@ite _ (a=b) (Classical.propDecidable _) a none
noncomputable def Q5 {α:Type} (f:Nat→Option α):List Nat→Option α
 |[]=>none
 |[i]=>f i
 |i::j::l=>both (f i) (Q5 f (j::l))
def FV (ops:List Oper) (L:List Nat):List Nat:=(List.range ops.length).filter fun i=>!L.contains i&&(match ops[i]? with|some o=>(fF o).all (fun e=>L.contains e)|none=>false)
noncomputable def Eh (E:Env) (call:Caller α) (ops:List Oper) (K:St→Option α):Nat→List Nat→St→Option α
 |0,_,_=>none
 |n+1,L,s=>match FV ops L with
  |[]=>K s
  |i::l=>Q5 (fun i=>match ops[i]? with|some o=>jm E call ops none (fun _ _=>none) [o] s fun s=>Eh E call ops K n (i::L) s|none=>none) (i::l)
noncomputable def ev (E:Env) (call:Caller α) (d:Rd) (fuel:Nat):Code→St→(Ex→St→Option α)→Option α
 | .skip,s,K=>K .norm s
 | .region _ ops false,s,K=>jm E call ops.toList none (fun v s=>K (.ku v) s) ops.toList (QZ E.P ops.toList s) fun s=>K .norm s
 | .region _ ops true,s,K=>Ri E call ops (QZ E.P ops.toList s) K fun s=>bif d.ord then Eh E call (bV ops (fA ops (cZ E.P ops))).toList (K .norm) ((bV ops (fA ops (cZ E.P ops))).size+1) [] s else none
 | .seq a b,s,K=>ev E call d fuel a s (Oy b K fun s=>ev E call d fuel b s K)
 | .cond c a b,s,K=>match iO E s.fr c with
  | .bool t=>sel t (ev E call d fuel a s K) (ev E call d fuel b s K)
  |_=>none
 | .block id b,s,K=>ev E call d fuel b s (RG id K)
 | .loop b,s,K=>yX b (fun s K=>ev E call d fuel b s K) (xP d.tot d.Xo s.fr.length b) K fuel (BD (xP d.tot d.Xo s.fr.length b) s)
 | .exit id,s,K=>K (.exit id) s
 | .label _,s,K=>K .norm s
 | .ret,s,K=>K .ret s
 |_,_,_=>none
structure Xp where
 l:Oper
 r:Oper
 t:TypeId
 m:Operand
 it:Nat
 L:Nat
 n:Oper
 nx:Nat
 o2:List Oper
 c:Operand
 L2:Nat
 e:Oper
 en:Nat
 o3:List Oper
 body:Code
def itA:Code→Option Xp
 | .seq (.region _ a false) (.block L (.loop (.seq (.region _ o2 false) (.seq (.cond c .skip (.exit L1)) (.block L2 (.seq (.region _ o3 false) body))))))=>
  match a.toList,o2.toList,o3.toList with
  |[l,r],n::p,e::q=>match r.op,n.op,e.op,r.dst,n.dst,e.dst,r.guard,n.guard,e.guard with
   | .range t m,.next (.tmp i) false,.entry (.tmp j),some it,some nx,some en,none,none,none=>bif i==it&&j==it&&L1==L then some ⟨l,r,t,m,it,L,n,nx,p,c,L2,e,en,q,body⟩ else none
   |_,_,_,_,_,_,_,_,_=>none
  |_,_,_=>none
 |_=>none
def XE:Code→Bool
 | .seq a b=>(itA a).isSome||XE b
 |_=>false
abbrev IT:Nat:=HL+9999
def isIt:V→Bool
 | .box k 0=>k==IT
 |_=>false
def Yc (d:Xp) (K:Ex→St→Option α):Ex→St→Option α:=fun e s=>bif (s.put (some d.it) .any).iR IT then K e (s.put (some d.it) .any) else none
noncomputable def Kv (E:Env) (call:Caller α) (a:Rd) (fuel:Nat) (d:Xp) (K:Ex→St→Option α):Nat→af→St→Option α
 |0,_,_=>none
 |n+1,left,s=>bif isIt (slot s.fr d.it) then bif left.isEmpty then jm E call (d.n::d.o2) none (fun _ _=>none) d.o2 (s.put (some d.nx) (.tup [.bool false])) fun s=>match iO E s.fr d.c with
   | .bool false=>Yc d K .norm s
   |_=>none
  else Q5 (fun i=>match left[i]? with
   |some (.agg vs)=>jm E call (d.n::d.o2) none (fun _ _=>none) d.o2 (s.put (some d.nx) (.tup (.bool true::vs))) fun s=>match iO E s.fr d.c with
    | .bool true=>bif isIt (slot s.fr d.it) then jm E call (d.e::d.o3) none (fun _ _=>none) d.o3 (s.put (some d.en) (.tup vs)) fun s=>ev E call a fuel d.body s fun e s=>match e with
      | .norm=>Kv E call a fuel d K n (left.eraseIdx i) s
      | .exit j=>bif j==d.L2 then Kv E call a fuel d K n (left.eraseIdx i) s else bif j==d.L then Yc d K .norm s else Yc d K (.exit j) s
      | .ret=>Yc d K .ret s
      | .ku v=>Yc d K (.ku v) s
     else none
    |_=>none
   |_=>none) (List.range left.length) else none
noncomputable def evM (E:Env) (call:Caller α) (b:Rd) (fuel:Nat) (d:Xp) (s:St) (K:Ex→St→Option α):Option α:=
 jm E call [d.l,d.r] none (fun _ _=>none) [d.l] s fun s=>match Vi (iO E s.fr d.m),E.P.underlying d.t with
  |some g,some (.map _ _)=>match Vj E g with
   |some a=>bif s.iR IT then Kv E call b fuel d K (a.length+1) a (s.put (some d.it) (.box IT 0)) else none
   |none=>none
  |_,_=>none
noncomputable def U7 (E:Env) (call:Caller α) (e:Rd) (fuel:Nat):Code→St→(Ex→St→Option α)→Option α
 | .seq a b,s,K=>match itA a with
  |some d=>evM E call e fuel d s (Oy b K fun s=>U7 E call e fuel b s K)
  |none=>ev E call e fuel a s (Oy b K fun s=>U7 E call e fuel b s K)
 |c,s,K=>ev E call e fuel c s K
def loopC (b:Code) (body:St→(Ex→St→Option α)→Option α) (a:List Nat) (K:Ex→St→Option α) (n:Nat):Ex→St→Option α
 | .norm,s=>pf (yX b body a K n) (BD a s)
 |e,s=>K e s
def ZL:List Nat→Code→Code
 |[],c=>c
 |i::p,c=>match c with
  | .seq a b=>ZL p (match i with|0=>a|_=>b)
  | .cond _ a b=>ZL p (match i with|0=>a|_=>b)
  | .block _ b=>ZL p b
  | .loop b=>ZL p b
  | .scope b=>ZL p b
  |c=>c
noncomputable def Oz (E:Env) (call:Caller α) (d:Rd) (fuel f:Nat):List Nat→Code→List Nat→(Ex→St→Option α)→(Ex→St→Option α)
 |[],_,_,K=>K
 |i::p,c,e,K=>match c with
  | .seq a b=>match i with
   |0=>Oz E call d fuel f p a e (Oy b K fun s=>ev E call d fuel b s K)
   |_=>Oz E call d fuel f p b e K
  | .cond _ a b=>Oz E call d fuel f p (match i with|0=>a|_=>b) e K
  | .block id b=>Oz E call d fuel f p b e (RG id K)
  | .loop b=>match e with
   |n::e=>Oz E call d fuel f p b e (loopC b (fun s K=>ev E call d fuel b s K) (xP d.tot d.Xo f b) K n)
   |[]=>K
  |_=>K
def vU (fn:Func):List Nat:=fn.results.toList.map fun| .tmp t=>t| .cell a _=>a
def V.Ih:V→Option V
 | .fn _ _=>none
 |v=>v.deep
def tJ (P:Program) (s:St):ResultVar→Option V
 | .tmp t=>match(slot s.fr t).yS with
  | .sl e sh o xs=>some (.sl e sh o xs)
  |v=>v.Ih
 | .cell a t=>match slot s.fr a with
  | .box k off=>match aA s.bx k with
   |some cells=>match bE P t with
    |some true=>match bX P t with
     |some n=>match Bv cells off n with
      |some b=>some (.agg b)
      |none=>none
     |none=>none
    |some false=>bif Nat.blt off cells.length then(cells.getD off .any).Ih else none
    |none=>none
   |none=>none
  |_=>none
def oW (P:Program) (s:St):List ResultVar→Option (af)
 |[]=>some []
 |x::l=>match tJ P s x with
  |none=>none
  |some v=>match oW P s l with
   |none=>none
   |some r=>some (v::r)
def Ii:af→V
 |[v]=>v
 |vs=> .tup (fP 0 true vs)
def lQ (s:St):Nat→af→Option (List (af))
 |_,[]=>some []
 |j,.bxa _ _::l=>match aA s.bx (HL+j),lQ s (j+1) l with
  |some a,some bs=>some (a::bs)
  |_,_=>none
 |j,_::l=>lQ s (j+1) l
def OA:Nat→List (af)→List (Nat×Nat)
 |_,[]=>[]
 |j,a::bs=>nU (fun L i=>fe true L (1000*(j+1)+1+i)) 0 a++OA (j+1) bs
def jc:Nat→af→List (Nat×Nat)
 |_,[]=>[]
 |j,.bxa _ _::l=>(HL+j,HL+j)::jc (j+1) l
 |j,_::l=>jc (j+1) l
def nW (p:Bool) (x:V) (s:St) (args:af) (K:V→Option α):Option α:=
 match lQ s 0 args with
 |some bs=>
  let ml:=mM [] (nU (fun L i=>fe true L i) 0 (xM x)++OA 0 bs)
  let mb:=jc 0 args
  bif oF (ml.map (·.2)) then K (.out p (x.ren mb ml) (bs.map fun a=>a.map (V.ren mb ml))) else none
 |none=>none
def MU:af→V
 |[v]=>v
 |vs=> .tup vs
def Kw:V→Option Kd
 | .bool _=>some .bool
 | .int k _=>some (.int k)
 | .str _=>some .str
 | .sl e sh _ _=>bif Kd.Ba sh sh then some (.sl e sh) else none
 |_=>none
def Ei:af→Option (List Kd)
 |[]=>some []
 |v::l=>match Kw v,Ei l with
  |some k,some a=>some (k::a)
  |_,_=>none
def Bj (s:St):List ResultVar→Option V
 |[.tmp t]=>match slot s.fr t with
  | .box k off=>bif off==0 then(match aA s.bx k with
   |some cells=>match Ei cells with
    |some sh=>match V.tu cells with
     |some a=>some (.rptr sh (.agg a) 0)
     |none=>none
    |none=>none
   |none=>none) else none
  |_=>none
 |_=>none
def zW (P:Program) (fn:Func) (args:af) (K:V→Option α):Ex→St→Option α
 | .norm,s=>match oW P s fn.results.toList with|some vs=>(bif handed args then nW false (MU vs) s args K else K (Ii vs))|none=>bif handed args then none else(match Bj s fn.results.toList with|some r=>K r|none=>none)
 | .ret,s=>match oW P s fn.results.toList with|some vs=>(bif handed args then nW false (MU vs) s args K else K (Ii vs))|none=>bif handed args then none else(match Bj s fn.results.toList with|some r=>K r|none=>none)
 | .ku v,s=>match bQ v with|some _=>nW true v s args K|none=>none
 |_,_=>none
abbrev aN:=af→Option (Bool×V)
def rdOf (fn:Func) (c:Code):Rd:=⟨vU fn++QC c,vU fn++Bf c,false⟩
def H8 (o:Bool) (fn:Func) (c:Code):Rd:=⟨vU fn++QC c,vU fn++Bf c,o⟩
def fI:List (Nat×aN)→Nat→Option aN
 |[],_=>none
 |(f,s)::l,g=>bif f==g then some s else fI l g
def rQ (fn:Func) (args:af):af:=args++List.replicate (fn.ntmps-args.length) (.tup [])
def F5:Code→Option (Code×Oper×Oper×Code)
 | .seq a (.seq (.region _ ops false) b)=>match ops.toList with
  |[c,o2]=>match o2.op with
   | .defer _=>some (a,c,o2,b)
   |_=>none
  |_=>none
 |_=>none
noncomputable def Ij (o:Bool) (E:Env) (call:Caller α) (fuel f:Nat) (args:af) (rec:V) (K:V→Option α):Option α:=
 match E.P.funcs[f]? with
 |none=>none
 |some fn=>match fn.body with
  |some c=>match c with
   | .seq (.region _ ops false) b=>match ops.toList with
    |[op]=>match op.op,op.guard,op.dst,fn.results.toList with
     | .call a,none,some d,[]=>match a.callee,a.args.toList with
      | .builtin .recover,[]=>ev E call (H8 o fn c) fuel b (St.put ⟨rQ fn (bF 0 args),dF 0 args⟩ (some d) rec) fun e s=>match e with
       | .norm=>nW false (.tup []) s args K
       | .ret=>nW false (.tup []) s args K
       |_=>none
      |_,_=>none
     |_,_,_,_=>none
    |_=>none
   |_=>none
  |none=>none
noncomputable def U8 (o:Bool) (E:Env) (call:Caller α) (fuel:Nat) (fn:Func) (g:Nat) (a args:af) (K:V→Option α) (rec:V) (s:St):Option α:=
 match mJ s.bx 0 a with
 |some (b,mb,ml)=>bif mI mb ml then
   Ij o E call fuel g b rec fun r=>match r with
    | .out false x bs=>match mO s none mb ml x bs with
     |some s'=>zW E.P fn args K .ret s'
     |none=>none
    |_=>none
  else none
 |none=>none
noncomputable def YE (o:Bool) (E:Env) (call:Caller α) (fuel:Nat) (fn:Func) (g:Nat) (a args:af) (K:V→Option α):Ex→St→Option α
 | .norm,s=>U8 o E call fuel fn g a args K .nilif s
 | .ret,s=>U8 o E call fuel fn g a args K .nilif s
 | .ku v,s=>match bQ v with|some _=>U8 o E call fuel fn g a args K v s|none=>none
 |_,_=>none
def rbV (k a:Nat):V→V
 | .box j off=>bif j==k then .box a off else .box j off
 |v=>v
def V.rb (k a:Nat):V→V
 | .tup vs=> .tup (vs.map (rbV k a))
 | .fn f vs=> .fn f (vs.map (rbV k a))
 |v=>rbV k a v
def Vn (k a:Nat):List (Nat×af)→List (Nat×af)
 |[]=>[]
 |(j,b)::l=>(bif j==k then a else j,b.map (V.rb k a))::Vn k a l
def St.rb (s:St) (k a:Nat):St:=⟨s.fr.map (V.rb k a),Vn k a s.bx⟩
def nY:Nat→af→St→Option St
 |_,[],s=>some s
 |j,.box k 0::l,s=>bif s.iR (HL+5000+j)&&Nat.blt k HL then nY (j+1) l (s.rb k (HL+5000+j)) else none
 |_,_,_=>none
def jF:Nat→af→af
 |_,[]=>[]
 |j,_::l=> .box (HL+5000+j) 0::jF (j+1) l
def mG (args:af):af:=bif handed args then args.map (fun v=>match v with| .bxa _ _=> .bxa 0 []| .sl e sh (some L) _=> .sl e sh (some L) []|_=> .nilsl) else[]
noncomputable def Bl (o:Bool) (E:Env) (call:Caller α) (fuel:Nat):Caller α:=fun f args K=>
 match E.P.funcs[f]? with
 |none=>none
 |some fn=>match fn.body,qK args with
  |some c,some args=>match F5 c with
   |none=>ev E call (H8 (o&& !handed args) fn c) fuel c ⟨rQ fn (bF 0 args),dF 0 args⟩ (zW E.P fn (mG args) K)
   |some (a,h,o2,b)=>match h.op,h.guard,h.dst,o2.op,o2.guard,o2.dst with
    | .makeFunc (.func g) _ _,none,some t,.defer i,none,none=>match i.callee,i.args.toList with
     | .value (.tmp j),[]=>bif t==j then
       ev E call (rdOf fn c) fuel a ⟨rQ fn (bF 0 args),dF 0 args⟩ fun e s=>match e with
        | .norm=>match zS E s.fr s.bx h with
         |some (true,.val (.fn g' d))=>bif g'==g&&Nat.blt t s.fr.length&&(Nat.blt args.length 5000&&Nat.blt g ul) then
           match nY 0 d (s.put (some t) (.fn g d)) with
           |some k=>ev E call (H8 (o&& !handed args) fn c) fuel b k (YE (o&& !handed args) E call fuel fn g (jF 0 d) (mG args) K)
           |none=>none
          else none
         |_=>none
        |_=>none
      else none
     |_,_=>none
    |_,_,_,_,_,_=>none
  |_,_=>none
def itFn (E:Env) (f:Nat):Bool:=match E.P.funcs[f]? with
 |some fn=>(match fn.body with|some c=>XE c|none=>false)
 |none=>false
noncomputable def Rj (E:Env) (call:Caller α) (fuel:Nat):Caller α:=fun f args K=>match E.P.funcs[f]? with
 |none=>none
 |some fn=>match fn.body,qK args with
  |some c,some args=>U7 E call (H8 false fn c) fuel c ⟨rQ fn (bF 0 args),dF 0 args⟩ (zW E.P fn (mG args) K)
  |_,_=>none
noncomputable def dn (E:Env) (call:Caller α) (fuel:Nat):Caller α:=fun f args K=>bif itFn E f then Rj E call fuel f args K else Bl true E call fuel f args K
def GX:Nat:=1000000
def zX (K:V→Option α):V→Option α
 | .sK b x y=>sel b (zX K x) (zX K y)
 |v=>K v
def KX:Nat:=2000000
noncomputable def cu (E:Env) (a:List (Nat×aN)) (fuel:Nat):Nat→Caller α
 |0,f,args,K=>match fI a (KX+f) with
  |some b=>match b args with|some (c,r)=>sel c (zX (fun v=>match v with| .keep p x=>K (.keep p x)|_=>none) r) none|none=>none
  |none=>match fI a (GX+f) with
  |some b=>match b args with|some (c,r)=>sel c (zX (fun v=>match v with| .out p x bs=>K (.out p x bs)|_=>none) r) none|none=>none
  |none=>bif Nat.blt f GX then(match fI a f with
   |some b=>match b (args.map V.sZ) with|some (c,r)=>sel c (match r with| .out _ _ _=>none| .keep _ _=>none|r=>K r) none|none=>none
   |none=>none) else none
 |d+1,f,args,K=>match fI a (KX+f) with
  |some b=>match b args with|some (c,r)=>sel c (zX (fun v=>match v with| .keep p x=>K (.keep p x)|_=>none) r) none|none=>none
  |none=>match fI a (GX+f) with
  |some b=>match b args with|some (c,r)=>sel c (zX (fun v=>match v with| .out p x bs=>K (.out p x bs)|_=>none) r) none|none=>none
  |none=>bif Nat.blt f GX then(match fI a f with
   |some b=>match b (args.map V.sZ) with|some (c,r)=>sel c (match r with| .out _ _ _=>none| .keep _ _=>none|r=>K r) none|none=>none
   |none=>Bl false E (cu E a fuel d) fuel f (bif gG args then args else args.map V.sZ) K) else none
noncomputable def F6 (o:Bool) (E:Env) (a:List (Nat×aN)) (fuel d f:Nat) (p e:List Nat) (KE:Func→Ex→St→Option α) (n:Nat) (s:St):Option α:=
 match E.P.funcs[f]? with
 |none=>none
 |some fn=>match fn.body with
  |none=>none
  |some c=>match ZL p c with
   | .loop b=>yX b (fun s K=>ev E (cu E a fuel d) (H8 o fn c) fuel b s K) (xP (H8 o fn c).tot (H8 o fn c).Xo fn.ntmps b) (Oz E (cu E a fuel d) (H8 o fn c) fuel fn.ntmps p c e (KE fn)) n s
   |_=>none
noncomputable def eB (E:Env) (a:List (Nat×aN)) (fuel d f:Nat) (p b:List Nat) (K:V→Option α) (n:Nat) (s:St):Option α:=
 F6 true E a fuel d f p b (fun fn=>zW E.P fn [] K) n s
noncomputable def F7 (E:Env) (a:List (Nat×aN)) (fuel d f:Nat) (args:af) (p b:List Nat) (K:V→Option α) (n:Nat) (s:St):Option α:=
 F6 (!handed args) E a fuel d f p b (fun fn=>zW E.P fn args K) n s
noncomputable def Al (E:Env) (a:List (Nat×aN)) (fuel d f g:Nat) (b args:af) (p c:List Nat) (K:V→Option α) (n:Nat) (s:St):Option α:=
 F6 (!handed args) E a fuel d f p c (fun fn=>YE (!handed args) E (cu E a fuel d) fuel fn g b args K) n s
def RH:List (Nat×V)→Nat→V
 |[],_=> .any
 |(i,v)::l,j=>bif i==j then v else RH l j
def iN (n:Nat) (l:List (Nat×V)) (bx:List (Nat×af)):St:=⟨(List.range n).map (RH l),bx⟩
end
open Go.RowKit
abbrev aJ:=Nat→Option (List Value)
mutual
def aK (G:aJ):V→Value→Prop
 | .any,_=>True
 | .bool b,v=>v=.bool b
 | .int k n,v=>v=.int k n
 | .str l,v=>v=.string ⟨l.toArray⟩
 | .agg cs,v=>∃a:List Value,v=.agg a.toArray∧oQ G cs a
 | .tup vs,v=>∃a:List Value,v=.tuple a.toArray∧oQ G vs a
 | .nilsl,v=>v=.slice none 0 0
 | .sl _ sh _ xs,v=>∃p cap,v=.slice p xs.length cap∧xs.length≤cap∧(xs=[]∨ ∃b off l,p=some ⟨b,off,none⟩∧G b=some l∧bM G sh xs (l.drop off))
 | .rptr sh x off,v=>∃b o l,v=.pointer (some ⟨b,o+off,none⟩)∧G b=some l∧fG sh x=true∧ ∃u,aK G x u∧(l.drop o).take sh.length=u.cells.toList
 | .box _ _,_=>False
 | .eptr _ _ _ _ _ _,_=>False
 | .fn f caps,v=>v=.func (.func f) #[] #[]∧caps=[]
 | .nilif,v=>v=.nilIface
 | .nilp,v=>v=.pointer none
 | .iface t x,v=>∃u,v=.iface t u∧aK G x u
 | .bxa _ _,_=>False
 | .out _ _ _,_=>False
 | .sK _ _ y,v=>∃(b:Nat) (l:List Value),v=.map (some b)∧G (asInt y).toNat=some l∧l[0]? =some v
 | .old _,_=>False
 | .slz _ _ _ _ _ _ _ _ _ _,_=>False
 | .epz _ _ _ _ _,_=>False
 | .keep _ _,_=>False
def oQ (G:aJ):af→List Value→Prop
 |[],vs=>vs=[]
 |x::xs,vs=>∃v t,vs=v::t∧aK G x v∧oQ G xs t
def bM (G:aJ) (sh:List Kd):af→List Value→Prop
 |[],_=>True
 |x::xs,cells=>fG sh x=true∧(∃u,aK G x u∧cells.take sh.length=u.cells.toList)∧bM G sh xs (cells.drop sh.length)
end
def PW (R:V→Value→Prop) (xs:af) (vs:List Value):Prop:=xs.length=vs.length∧ ∀(i:Nat) x v,xs[i]? =some x→vs[i]? =some v→R x v
theorem PW.nil {R:V→Value→Prop}:PW R [] []:=⟨rfl,by simp⟩
theorem PW.cons {R:V→Value→Prop} {x:V} {v:Value} {xs:af} {vs:List Value} (h:R x v) (t:PW R xs vs):PW R (x::xs) (v::vs):=by
 refine⟨by simp[t.1],fun i y u a b=>?_⟩
 cases i with
 |zero=>simp at a b;subst a;subst b;exact h
 |succ i=>exact t.2 i y u (by simpa using a) (by simpa using b)
theorem PW.head {R:V→Value→Prop} {x:V} {v:Value} {xs:af} {vs:List Value} (h:PW R (x::xs) (v::vs)):R x v:=h.2 0 x v rfl rfl
theorem PW.tail {R:V→Value→Prop} {x:V} {v:Value} {xs:af} {vs:List Value} (h:PW R (x::xs) (v::vs)):PW R xs vs:=
 ⟨by simpa using h.1,fun i y u a b=>h.2 (i+1) y u (by simpa using a) (by simpa using b)⟩
theorem PW.bR {R:V→Value→Prop} {vs:List Value} (h:PW R [] vs):vs=[]:=UJ h.1.symm
theorem PW.cons_inv {R:V→Value→Prop} {x:V} {xs:af} {vs:List Value} (h:PW R (x::xs) vs): ∃v t,vs=v::t∧R x v∧PW R xs t:=by
 cases vs with
 |nil=>exact absurd h.1 (by simp)
 |cons v t=>exact⟨v,t,rfl,h.head,h.tail⟩
theorem PW.mono {R S:V→Value→Prop} {xs:af} {vs:List Value} (h:PW R xs vs) (a: ∀x∈xs,∀v,R x v→S x v):PW S xs vs:=
 ⟨h.1,fun i x v hx b=>a x (Dp hx) v (h.2 i x v hx b)⟩
theorem PW.get {R:V→Value→Prop} {xs:af} {vs:List Value} (h:PW R xs vs) {i:Nat} {x:V} (hx:xs[i]? =some x): ∃v,vs[i]? =some v∧R x v:=by
 have a:i<vs.length:=by rw[←h.1];exact(List.getElem?_eq_some_iff.1 hx).1
 exact⟨vs[i],gP a,h.2 i x _ hx (gP a)⟩
theorem PW.set {R:V→Value→Prop} {xs:af} {vs:List Value} (h:PW R xs vs) (i:Nat) {x:V} {v:Value} (hx:R x v):PW R (xs.set i x) (vs.set i v):=by
 refine⟨by simp[h.1],fun j y u a b=>?_⟩;rw[List.getElem?_set] at a b;by_cases e:i=j
 ·subst e
  simp only[if_true] at a b;split at a<;>split at b<;>simp_all
 ·rw[if_neg e] at a b
  exact h.2 j y u a b
theorem PW.append {R:V→Value→Prop} {xs ys:af} {vs us:List Value} (h:PW R xs vs) (k:PW R ys us):PW R (xs++ys) (vs++us):=by
 refine⟨by simp[h.1,k.1],fun i x v hx a=>?_⟩;by_cases b:i<xs.length
 ·rw[ZY b] at hx
  rw[ZY (by rw[←h.1];exact b)] at a;exact h.2 i x v hx a
 ·rw[abD (by omega)] at hx
  rw[abD (by rw[←h.1];omega),←h.1] at a;exact k.2 _ x v hx a
theorem PW.drop {R:V→Value→Prop} {xs:af} {vs:List Value} (h:PW R xs vs) (n:Nat):PW R (xs.drop n) (vs.drop n):=
 ⟨by simp[h.1],fun i x v hx a=>h.2 (n+i) x v (by simpa using hx) (by simpa using a)⟩
theorem PW.take {R:V→Value→Prop} {xs:af} {vs:List Value} (h:PW R xs vs) (n:Nat):PW R (xs.take n) (vs.take n):=by
 refine⟨by simp[h.1],fun i x v hx a=>?_⟩;rw[Ki] at hx a;split at hx
 ·rename_i b;rw[if_pos b] at a;exact h.2 i x v hx a
 ·cases hx
theorem eD {G:aJ}: ∀(xs:af) (vs:List Value),oQ G xs vs↔PW (aK G) xs vs
 |[],vs=>by
  unfold oQ;exact⟨fun h=>by rw[h];exact .nil,fun h=>h.bR⟩
 |x::xs,vs=>by
  unfold oQ;constructor
  ·rintro⟨v,t,rfl,h,c⟩
   exact .cons h ((eD xs t).1 c)
  ·intro h
   obtain⟨v,t,rfl,b,a⟩:=h.cons_inv;exact⟨v,t,rfl,b,(eD xs t).2 a⟩
def jP (G G':aJ):Prop:=∀b l,G b=some l→ ∃a,G' b=some a∧l<+:a
theorem jP.refl (G:aJ):jP G G:=fun b l h=>⟨l,h,Kn l⟩
theorem take_prefix {l a:List Value} {n:Nat} {u:List Value} (h:l.take n=u) (b:u.length=n) (c:l<+:a):a.take n=u:=by
 obtain⟨t,rfl⟩:=c;have:n≤l.length:=by rw[←h] at b;simp at b;omega
 rw[List.take_append_of_le_length this,h]
theorem q8 {l a:List Value} (n:Nat) (c:l<+:a) (b:n≤l.length):l.drop n<+:a.drop n:=by
 obtain⟨t,rfl⟩:=c;rw[List.drop_append_of_le_length b];exact List.prefix_append _ _
theorem iB: ∀(sh:List Kd) (vs:af),bJ sh vs=true→sh.length=vs.length
 |[],[],_=>rfl
 |[],_::_,h=>by simp[bJ] at h
 |_::_,[],h=>by simp[bJ] at h
 |k::sh,v::vs,h=>by
  simp only[bJ,au] at h;split at h
  ·simp[iB sh vs h]
  ·cases h
theorem kE {G:aJ} {x:V} {u:Value} (h:aK G x u) (hx:x≠.any):x.cells.length=u.cells.size∧PW (aK G) x.cells u.cells.toList:=by
 cases x with
 |agg g=>
  unfold aK at h;obtain⟨a,rfl,h⟩:=h;rw[eD] at h;exact⟨by simp[V.cells,Value.cells,h.1],by simpa[V.cells,Value.cells] using h⟩
 |any=>exact absurd rfl hx
 |bool b=>unfold aK at h;subst h;exact⟨rfl,.cons (by unfold aK;rfl) .nil⟩
 |int k n=>unfold aK at h;subst h;exact⟨rfl,.cons (by unfold aK;rfl) .nil⟩
 |str l=>unfold aK at h;subst h;exact⟨rfl,.cons (by unfold aK;rfl) .nil⟩
 |nilsl=>unfold aK at h;subst h;exact⟨rfl,.cons (by unfold aK;rfl) .nil⟩
 |tup vs=>have d:=h;unfold aK at d;obtain⟨a,rfl,_⟩:=d;exact⟨rfl,.cons h .nil⟩
 |sl e sh o xs=>have d:=h;unfold aK at d;obtain⟨p,cap,rfl,_⟩:=d;exact⟨rfl,.cons h .nil⟩
 |rptr sh x off=>have d:=h;unfold aK at d;obtain⟨b,o,l,rfl,_⟩:=d;exact⟨rfl,.cons h .nil⟩
 |box k o=>unfold aK at h;exact h.elim
 |eptr _ _ _ _ _ _=>unfold aK at h;exact h.elim
 |fn f c=>have d:=h;unfold aK at d;obtain⟨rfl,_⟩:=d;exact⟨rfl,.cons h .nil⟩
 |nilif=>have d:=h;unfold aK at d;subst d;exact⟨rfl,.cons h .nil⟩
 |nilp=>have d:=h;unfold aK at d;subst d;exact⟨rfl,.cons h .nil⟩
 |iface t x=>have d:=h;unfold aK at d;obtain⟨u,rfl,_⟩:=d;exact⟨rfl,.cons h .nil⟩
 |bxa _ _=>unfold aK at h;exact h.elim
 |out _ _ _=>unfold aK at h;exact h.elim
 |sK _ _ _=>have d:=h;unfold aK at d;obtain⟨b,l,rfl,_⟩:=d;exact⟨rfl,.cons h .nil⟩
 |old _=>unfold aK at h;exact h.elim
 |slz _ _ _ _ _ _ _ _ _ _=>unfold aK at h;exact h.elim
 |epz _ _ _ _ _=>unfold aK at h;exact h.elim
 |keep _ _=>unfold aK at h;exact h.elim
theorem jM {sh:List Kd}:fG sh .any=false:=by
 unfold fG V.cells
 cases sh with
 |nil=>rfl
 |cons k l=>cases k<;>rfl
theorem l9 {G:aJ} {sh:List Kd} {x:V} {u:Value} (a:fG sh x=true) (h:aK G x u):u.cells.toList.length=sh.length:=by
 have hx:x≠.any:=fun e=>by rw[e,jM] at a;cases a
 have c:=(kE h hx).1;have b:=iB _ _ a;rw[Ai,←c,b]
theorem gH {G:aJ} {sh:List Kd} {cells:List Value}:bM G sh [] cells:=by unfold bM;trivial
mutual
theorem gq {G G':aJ} (hm:jP G G'): ∀(x:V) (v:Value),aK G x v→aK G' x v
 | .any,_,_=>by unfold aK;trivial
 | .bool b,v,h=>by unfold aK at h⊢;exact h
 | .int k n,v,h=>by unfold aK at h⊢;exact h
 | .str l,v,h=>by unfold aK at h⊢;exact h
 | .agg cs,v,h=>by
  unfold aK at h⊢;obtain⟨a,rfl,h⟩:=h;exact⟨a,rfl,xY hm cs a h⟩
 | .tup vs,v,h=>by
  unfold aK at h⊢;obtain⟨a,rfl,h⟩:=h;exact⟨a,rfl,xY hm vs a h⟩
 | .nilsl,v,h=>by unfold aK at h⊢;exact h
 | .sl e sh o xs,v,h=>by
  unfold aK at h⊢;obtain⟨p,cap,rfl,hcap,h⟩:=h;refine⟨p,cap,rfl,hcap,?_⟩;rcases h with h|⟨b,off,l,rfl,hG,h⟩
  ·exact .inl h
  ·obtain⟨l',hl',hp⟩:=hm b l hG
   by_cases hx:xs=[]
   ·exact .inl hx
   ·refine .inr ⟨b,off,l',rfl,hl',?_⟩
    by_cases hoff:off≤l.length
    ·exact gL hm sh xs _ _ h (q8 off hp hoff)
    ·have:l.drop off=[]:=QI (by omega)
     rw[this] at h;exact gL hm sh xs _ _ h List.nil_prefix
 | .rptr sh x off,v,h=>by
  unfold aK at h⊢;obtain⟨b,o,l,rfl,hG,hf,u,hu,hc⟩:=h;obtain⟨l',hl',hp⟩:=hm b l hG;refine⟨b,o,l',rfl,hl',hf,u,gq hm x u hu,?_⟩;have hlen:=l9 hf hu;by_cases ho:o≤l.length
  ·exact take_prefix hc hlen (q8 o hp ho)
  ·have h0:l.drop o=[]:=QI (by omega)
   rw[h0] at hc;exact take_prefix hc hlen List.nil_prefix
 | .box _ _,_,h=>by unfold aK at h;exact h.elim
 | .eptr _ _ _ _ _ _,_,h=>by unfold aK at h;exact h.elim
 | .fn _ _,_,h=>by unfold aK at h⊢;exact h
 | .nilif,v,h=>by unfold aK at h⊢;exact h
 | .nilp,v,h=>by unfold aK at h⊢;exact h
 | .iface t x,v,h=>by
  unfold aK at h⊢;obtain⟨u,rfl,h⟩:=h;exact⟨u,rfl,gq hm x u h⟩
 | .bxa _ _,_,h=>by unfold aK at h;exact h.elim
 | .out _ _ _,_,h=>by unfold aK at h;exact h.elim
 | .sK _ _ y,v,h=>by
  unfold aK at h⊢;obtain⟨b,l,h1,h2,h3⟩:=h;obtain⟨l',h4,t,rfl⟩:=hm _ l h2;exact⟨b,l++t,h1,h4,by rw[ZY (List.getElem?_eq_some_iff.1 h3).1];exact h3⟩
 | .old _,_,h=>by unfold aK at h;exact h.elim
 | .slz _ _ _ _ _ _ _ _ _ _,_,h=>by unfold aK at h;exact h.elim
 | .epz _ _ _ _ _,_,h=>by unfold aK at h;exact h.elim
 | .keep _ _,_,h=>by unfold aK at h;exact h.elim
theorem xY {G G':aJ} (hm:jP G G'): ∀(xs:af) (vs:List Value),oQ G xs vs→oQ G' xs vs
 |[],_,h=>by unfold oQ at h⊢;exact h
 |x::xs,vs,h=>by
  unfold oQ at h⊢;obtain⟨v,t,rfl,h1,h2⟩:=h;exact⟨v,t,rfl,gq hm x v h1,xY hm xs t h2⟩
theorem gL {G G':aJ} (hm:jP G G') (sh:List Kd): ∀(xs:af) (c c':List Value),bM G sh xs c→c<+:c'→bM G' sh xs c'
 |[],_,_,_,_=>by unfold bM;trivial
 |x::xs,c,c',h,hp=>by
  unfold bM at h⊢;obtain⟨hf,⟨u,hu,hc⟩,ht⟩:=h;have hlen:=l9 hf hu;refine⟨hf,⟨u,gq hm x u hu,take_prefix hc hlen hp⟩,gL hm sh xs _ _ ht (q8 _ hp ?_)⟩;rw[←hc] at hlen;simp at hlen;omega
end
def V.plain:V→Bool
 | .eptr _ _ _ _ _ _=>false
 | .box .. =>false
 | .fn _ a=>a.isEmpty
 | .sl _ _ (some _) _=>false
 | .tup _=>false
 | .bxa _ _=>false
 | .out _ _ _=>false
 | .old _=>false
 | .slz _ _ _ _ _ _ _ _ _ _=>false
 | .epz _ _ _ _ _=>false
 | .keep _ _=>false
 |_=>true
structure Gh where
 G:aJ
 O:Nat→Option (Value×Nat×Nat)
 β:Nat→Option Nat
 G1:aJ
 C:Nat→Option (List Value)
def qC (G:aJ) (sh:List Kd) (xs:af) (v:Value):Prop:=
 (v=.slice none 0 0∧xs=[])∨ ∃b cap l,v=.slice (some ⟨b,0,none⟩) xs.length cap∧xs.length≤cap∧G b=some l∧l.length=xs.length*sh.length∧bM G sh xs l
def oZ (g:Gh) (l:List Value) (d:Nat) (o2:Option Nat) (i:Int) (c e:Nat) (a:List Kd) (ys:af):Prop:=
 match o2 with
 |none=>True
 |some L2=>∃b,g.O L2=some (b,e,a.length)∧qC g.G a ys b∧ ∀u,0≤i→l[i.toNat*d+c]? =some u→u=b
def zG (g:Gh) (sh:List Kd) (xs:af) (v:Value) (l:List Value):Prop:=((v=.slice none 0 0∧xs=[])∨ ∃b cap,v=.slice (some ⟨b,0,none⟩) xs.length cap)∧l.length=xs.length*sh.length∧bM g.G sh xs l
def bA (g:Gh):V→Value→Prop
 | .box k off,v=>∃b,g.β k=some b∧v=.pointer (some ⟨b,off,none⟩)
 | .sl e sh (some L) xs,v=>g.O L=some (v,e,sh.length)∧qC g.G sh xs v
 | .eptr L e sh xs i off,v=>∃a b,g.O L=some (a,e,sh.length)∧qC g.G sh xs a∧0≤i∧i<(xs.length:Int)∧a.ownBlock=some b∧v=.pointer (some ⟨b,i.toNat*sh.length+off,none⟩)
 | .old x,v=>aK g.G1 x v∧aK g.G x v∧x.plain=true
 | .slz L e sh xs o2 i c h f ys,v=>∃l,g.O L=some (v,e,sh.length)∧g.C L=some l∧zG g sh xs v l∧oZ g l sh.length o2 i c h f ys
 | .epz L e d i off,v=>∃a b l,g.O L=some (a,e,d)∧g.C L=some l∧0≤i∧i.toNat*d+d≤l.length∧a.ownBlock=some b∧v=.pointer (some ⟨b,i.toNat*d+off,none⟩)
 |x,v=>aK g.G x v
def Ik (p:Value):Value→Value
 | .int _ n=> .func (.func n.toNat) #[p] #[]
 |v=>v
def DF (f:Nat) (a:List Value):Value:=bif f==ul&& !a.isEmpty then .agg a.toArray else bif f==BM then(match a with
 | .int _ n::l=> .func (.func n.toNat) l.toArray #[]
 |_=> .func (.func f) #[] a.toArray) else bif f==AM then(match a with
 |p::l=> .agg (l.map (Ik p)).toArray
 |[]=> .func (.func f) #[] #[]) else .func (.func f) #[] a.toArray
theorem vK {f:Nat} {a:List Value} (h:Nat.blt f ul=true):DF f a=.func (.func f) #[] a.toArray:=by
 unfold DF;rw[A9] at h;have h:f<1000000:=h;have b:(f==ul)=false:=by rw[qD];show f≠1000000;omega
 have c:(f==BM)=false:=by rw[qD];show f≠2000000;omega
 have h3:(f==AM)=false:=by rw[qD];show f≠3000000;omega
 rw[b,c,h3];rfl
theorem BS (f:Nat):DF f []=.func (.func f) #[] #[]:=by
 unfold DF
 cases f==ul<;>cases f==BM<;>cases f==AM<;>rfl
theorem M5 (k:IntKind) (n:Int) (a:List Value):DF BM (.int k n::a)=.func (.func n.toNat) a.toArray #[]:=rfl
theorem M6 (p:Value) (l:List Value):DF AM (p::l)=.agg (l.map (Ik p)).toArray:=rfl
theorem Io {a:List Value} (h:a≠[]):DF ul a=.agg a.toArray:=by
 unfold DF
 cases a with
 |nil=>exact absurd rfl h
 |cons x a=>rfl
def aG (g:Gh):V→Value→Prop
 | .tup vs,v=>∃a:List Value,v=.tuple a.toArray∧PW (bA g) vs a
 | .fn f b,v=>∃a:List Value,v=DF f a∧PW (bA g) b a
 |x,v=>bA g x v
def FE (g:Gh) (x:V) (v:Value):Prop:=aG g x v∨bA g x v
structure Ext (g g':Gh):Prop where
 G:jP g.G g'.G
 O: ∀L x,g.O L=some x→g'.O L=some x
 OG: ∀L v e sz b,g.O L=some (v,e,sz)→v.ownBlock=some b→g'.G b=g.G b
 β: ∀k b,g.β k=some b→g'.β k=some b
 G1:g'.G1=g.G1
 C: ∀L x,g.O L=some x→g'.C L=g.C L
theorem Ext.refl (g:Gh):Ext g g:=⟨.refl _,fun _ _ h=>h,fun _ _ _ _ _ _ _=>rfl,fun _ _ h=>h,rfl,fun _ _ _=>rfl⟩
theorem vV {G G':aJ} {sh:List Kd} {xs:af} {v:Value} (h:qC G sh xs v) (f:jP G G') (d: ∀b,v.ownBlock=some b→G' b=G b):qC G' sh xs v:=by
 rcases h with h|⟨b,cap,l,rfl,a,e,hl,c⟩
 ·exact .inl h
 ·exact .inr ⟨b,cap,l,rfl,a,by rw[d b rfl];exact e,hl,gL f sh xs _ _ c (Kn _)⟩
theorem Vy {g g':Gh} (a:jP g.G g'.G) {sh:List Kd} {xs:af} {v:Value} {l:List Value} (h:zG g sh xs v l):zG g' sh xs v l:=⟨h.1,h.2.1,gL a sh xs _ _ h.2.2 (Kn _)⟩
theorem OI {g g':Gh} (d:Ext g g') {l:List Value} {e:Nat} {o2:Option Nat} {i:Int} {c j:Nat} {a:List Kd} {ys:af} (h:oZ g l e o2 i c j a ys):oZ g' l e o2 i c j a ys:=by
 cases o2 with
 |none=>trivial
 |some L2=>
  obtain⟨m,f,k,h3⟩:=h;exact⟨m,d.O _ _ f,vV k d.G fun b n=>d.OG L2 _ _ _ b f n,h3⟩
theorem BU {g g':Gh} (a:Ext g g') {x:V} {v:Value} (h:bA g x v):bA g' x v:=by
 cases x with
 |box k off=>obtain⟨b,j,rfl⟩:=h;exact⟨b,a.β k b j,rfl⟩
 |eptr L e sh xs i off=>obtain⟨n,b,d,f,h3,m,p,r⟩:=h;exact⟨n,b,a.O L _ d,vV f a.G fun b j=>a.OG L _ _ _ b d j,h3,m,p,r⟩
 |sl e sh o xs=>
  cases o with
  |none=>exact gq a.G _ _ h
  |some L=>obtain⟨d,f⟩:=h;exact⟨a.O L _ d,vV f a.G fun b j=>a.OG L _ _ _ b d j⟩
 |old x=>obtain⟨d,f,h3⟩:=h;exact⟨by rw[a.G1];exact d,gq a.G _ _ f,h3⟩
 |slz L e sh xs o2 i c s q ys=>obtain⟨l,d,f,h3,m⟩:=h;exact⟨l,a.O L _ d,(a.C L _ d).trans f,Vy a.G h3,OI a m⟩
 |epz L e t i off=>obtain⟨n,b,l,d,f,h3⟩:=h;exact⟨n,b,l,a.O L _ d,(a.C L _ d).trans f,h3⟩
 |_=>exact gq a.G _ _ h
theorem o7 {g g':Gh} (b:Ext g g') {x:V} {v:Value} (h:aG g x v):aG g' x v:=by
 cases x with
 |tup vs=>obtain⟨a,rfl,h⟩:=h;exact⟨a,rfl,h.mono fun _ _ _=>BU b⟩
 |fn f c=>obtain⟨a,rfl,h⟩:=h;exact⟨a,rfl,h.mono fun _ _ _=>BU b⟩
 |_=>simp only[aG] at h⊢;exact BU b h
theorem jZ {G:aJ} {e:Nat} {o:Option Nat} {sh:List Kd} {xs:af} {v:Value} (h:qC G sh xs v):aK G (.sl e sh o xs) v:=by
 unfold aK;rcases h with⟨rfl,rfl⟩|⟨b,cap,l,rfl,a,d,hl,c⟩
 ·exact⟨none,0,rfl,iI _,.inl rfl⟩
 ·exact⟨some ⟨b,0,none⟩,cap,rfl,a,.inr ⟨b,0,l,rfl,d,by simpa using c⟩⟩
theorem kF {G:aJ} {e:Nat} {o o':Option Nat} {sh:List Kd} {xs:af} {v:Value} (h:aK G (.sl e sh o xs) v):aK G (.sl e sh o' xs) v:=by
 unfold aK at h⊢;exact h
theorem xZ {g:Gh} {x y:V} {v:Value} (h:bA g x v) (b:x.deep=some y):aK g.G y v:=by
 cases x with
 |sl e sh o xs=>
  simp only[V.deep,aI] at b;subst b
  cases o with
  |none=>exact h
  |some L=>exact jZ h.2
 |any=>simp[V.deep] at b
 |tup vs=>simp[V.deep] at b
 |box k o=>simp[V.deep] at b
 |eptr _ _ _ _ _ _=>simp[V.deep] at b
 |slz _ _ _ _ _ _ _ _ _ _=>simp[V.deep] at b
 |epz _ _ _ _ _=>simp[V.deep] at b
 |keep _ _=>simp[V.deep] at b
 |fn f c=>
  cases c with
  |cons a c=>simp[V.deep] at b
  |nil=>simp only[V.deep,aI] at b;subst b;exact h
 |bxa _ _=>simp[V.deep] at b
 |out _ _ _=>simp[V.deep] at b
 |sK _ _ _=>simp[V.deep] at b
 |old _=>simp[V.deep] at b
 |_=>simp only[V.deep,aI] at b;subst b;exact h
theorem mg {g:Gh} {x y:V} {v:Value} (h:aG g x v) (b:x.deep=some y):aK g.G y v:=by
 cases x with
 |tup vs=>simp[V.deep] at b
 |fn f c=>
  cases c with
  |cons a c=>simp[V.deep] at b
  |nil=>
   simp only[V.deep,aI] at b;subst b;obtain⟨a,rfl,d⟩:=h;rw[d.bR];unfold aK;exact⟨BS f,rfl⟩
 |_=>simp only[aG] at h;exact xZ h b
theorem bI {g:Gh} {x:V} {v:Value} (hx:x.plain=true) (h:aK g.G x v):aG g x v:=by
 cases x with
 |sl e sh o xs=>cases o with
  |none=>exact h
  |some L=>simp[V.plain] at hx
 |box k o=>simp[V.plain] at hx
 |eptr _ _ _ _ _ _=>simp[V.plain] at hx
 |slz _ _ _ _ _ _ _ _ _ _=>simp[V.plain] at hx
 |epz _ _ _ _ _=>simp[V.plain] at hx
 |keep _ _=>simp[V.plain] at hx
 |fn f c=>
  unfold aK at h;obtain⟨rfl,rfl⟩:=h;exact⟨[],(BS f).symm,.nil⟩
 |tup vs=>simp[V.plain] at hx
 |bxa _ _=>simp[V.plain] at hx
 |out _ _ _=>simp[V.plain] at hx
 |sK _ _ _=>exact h
 |old _=>simp[V.plain] at hx
 |_=>exact h
theorem iV {x y:V} (a:x.deep=some y):y.plain=true:=by
 cases x with
 |fn f c=>cases c<;>simp[V.deep] at a;subst a;rfl
 |_=>simp[V.deep] at a<;>subst a<;>rfl
theorem BV {g:Gh}: ∀(xs ys:af) (vs:List Value),V.tu xs=some ys→PW (aG g) xs vs→PW (aK g.G) ys vs
 |[],ys,vs,h,c=>by
  simp[V.tu] at h;subst h;rw[c.bR];exact .nil
 |x::xs,ys,vs,h,c=>by
  obtain⟨v,t,rfl,i,d⟩:=c.cons_inv;simp only[V.tu] at h;split at h
  ·rename_i a b f e
   simp only[aI] at h;subst h;exact .cons (mg i f) (BV xs b t e d)
  ·cases h
theorem aP {g:Gh} {x:V} {v:Value} (a:x.single=true) (h:aG g x v):bA g x v:=by
 cases x with
 |tup vs=>cases a
 |fn f c=>cases a
 |_=>simp only[aG] at h;exact h
theorem bq {g:Gh} {x:V} {v:Value} (a:x.single=true) (h:bA g x v):aG g x v:=by
 cases x with
 |tup vs=>cases a
 |fn f c=>cases a
 |_=>simp only[aG];exact h
def vk (G:aJ) (w:World):Prop:=∀b l,G b=some l→ ∃c e fr,w.heap[b]? =some (.cells c e fr)∧c.toList.take l.length=l
structure Own where
 m:Nat→Prop
 n:Nat
 β:Nat→Option Nat
 df:List Deferred
def Own.ok (B:Own) (L b:Nat):Prop:=B.m b∧(L<HL→B.n≤b)
def kX (g:Gh) (L b:Nat) (a:Array Value) (l:List Value):Prop:=
 match g.C L with
 |none=>g.G b=some l
 |some c=>g.G b=none∧c=l∧a.toList.take l.length=l
theorem kX.known {g:Gh} {L b:Nat} {a:Array Value} {l c:List Value} (h:kX g L b a l) (d:g.G b=some c):c=l∧g.C L=none:=by
 unfold kX at h;split at h
 ·rename_i e;rw[d] at h;exact⟨Option.some.inj h,e⟩
 ·rw[d] at h;cases h.1
theorem kX.nested {g:Gh} {L b:Nat} {a:Array Value} {l c:List Value} (h:kX g L b a l) (d:g.C L=some c):g.G b=none∧c=l∧a.toList.take l.length=l:=by
 unfold kX at h;rw[d] at h;exact h
theorem kX.mk0 {g:Gh} {L b:Nat} {a:Array Value} {l:List Value} (c:g.C L=none) (d:g.G b=some l):kX g L b a l:=by
 unfold kX;rw[c];exact d
theorem kX.mk1 {g:Gh} {L b:Nat} {a:Array Value} {l:List Value} (c:g.C L=some l) (e:g.G b=none) (d:a.toList.take l.length=l):kX g L b a l:=by
 unfold kX;rw[c];exact⟨e,rfl,d⟩
theorem kX.keep {g g':Gh} {L b:Nat} {a:Array Value} {l:List Value} (h:kX g L b a l) (c:g'.C L=g.C L) (d:g'.G b=g.G b):kX g' L b a l:=by
 unfold kX at h⊢;rw[c,d];exact h
def Ho (B:Own) (g:Gh) (w:World):Prop:=
 (∀L v e c,g.O L=some (v,e,c)→0<c∧(v=.slice none 0 0∨ ∃b n cap a l,v=.slice (some ⟨b,0,none⟩) n cap∧B.ok L b∧w.heap[b]? =some (.cells a e (0,0))∧n≤cap∧cap≤maxLen∧a.size=cap*c∧kX g L b a l∧l.length=n*c))∧
 (∀L L' v f e h c d b,g.O L=some (v,e,c)→g.O L'=some (f,h,d)→v.ownBlock=some b→f.ownBlock=some b→L=L')
theorem KM {p q:Bool} {α:Type} {x:Option α} {r:α} (h:(bif p&&aT q then none else x)=some r):x=some r∧(p=true→q=true):=by
 cases p with
 |false=>exact⟨h,fun h=>by cases h⟩
 |true=>cases q with
  |false=>cases h
  |true=>exact⟨h,fun _=>rfl⟩
theorem OJ {f:V→V} (d: ∀x,f x=.nilp→x=.nilp) {c:af} (h:iQ (c.map f)=true):iQ c=true:=by
 match c,h with
 |a::b::l,h=>
  cases e:f a with
  |nilp=>rw[d a e];rfl
  |_=>rw[Aj,Aj,e] at h;cases h
 |[],h=>cases h
 |[a],h=>
  rw[Aj,List.map_nil] at h
  cases e:f a<;>rw[e] at h<;>cases h
theorem jA {P:Program} {e:TypeId} {f:V→V} {a:af} (b: ∀x,f x=.nilp→x=.nilp) (q:iQ a=true→mK P e a.length=true):iQ (a.map f)=true→mK P e (a.map f).length=true:=fun h=>by
 rw[xC];exact q (OJ b h)
theorem Sr {old vs:af} {off:Nat} (h:off+vs.length≤old.length):(over old off vs).length=old.length:=by
 unfold over;rw[qw,qw,Dv,xB];omega
theorem OL (L:Nat): ∀x:V,x.kill L=.nilp→x=.nilp:=by
 intro x h
 cases x with
 |nilp=>rfl
 |sl e sh o xs=>
  cases o with
  |none=>cases h
  |some L'=>
   have h:(bif L==L' then V.sl e sh none xs else .sl e sh (some L') xs)=.nilp:=h
   cases a:L==L'<;>rw[a] at h<;>cases h
 |eptr L' e sh xs i off=>
  have h:(bif L==L' then V.any else .eptr L' e sh xs i off)=.nilp:=h
  cases a:L==L'<;>rw[a] at h<;>cases h
 |slz L' e sh xs o2 i c f b ys=>
  have h:(bif L==L' then V.any else .slz L' e sh xs (MR L o2) i c f b ys)=.nilp:=h
  cases a:L==L'<;>rw[a] at h<;>cases h
 |epz L' e d i off=>
  have h:(bif L==L' then V.any else .epz L' e d i off)=.nilp:=h
  cases a:L==L'<;>rw[a] at h<;>cases h
 |_=>cases h
theorem Ls (L i:Nat): ∀x:V,x.canon L i=.nilp→x=.nilp:=by
 intro x h
 cases x with
 |nilp=>rfl
 |sl e sh o xs=>
  cases o with
  |none=>cases h
  |some L'=>
   have h:(bif L==L' then V.sl e sh (some i) xs else .sl e sh (some L') xs)=.nilp:=h
   cases a:L==L'<;>rw[a] at h<;>cases h
 |eptr L' e sh xs j off=>
  have h:(bif L==L' then V.eptr i e sh xs j off else .eptr L' e sh xs j off)=.nilp:=h
  cases a:L==L'<;>rw[a] at h<;>cases h
 |_=>cases h
theorem Ss (L e:Nat) (k:List Kd) (ys:af): ∀x:V,x.upd L e k ys=.nilp→x=.nilp:=by
 intro x h
 cases x with
 |nilp=>rfl
 |sl b sh o xs=>
  cases o with
  |none=>cases h
  |some L'=>
   have h:(bif L==L' then V.sl e k (some L) ys else .sl b sh (some L') xs)=.nilp:=h
   cases a:L==L'<;>rw[a] at h<;>cases h
 |eptr L' b sh xs i off=>
  have h:(bif L==L' then V.eptr L e k ys i off else .eptr L' b sh xs i off)=.nilp:=h
  cases a:L==L'<;>rw[a] at h<;>cases h
 |_=>cases h
theorem Vz (k a:Nat): ∀x:V,x.rb k a=.nilp→x=.nilp:=by
 intro x h
 cases x with
 |nilp=>rfl
 |box j off=>
  have h:(bif j==k then V.box a off else .box j off)=.nilp:=h
  cases b:j==k<;>rw[b] at h<;>cases h
 |_=>cases h
theorem BX (mb ml:List (Nat×Nat)): ∀x:V,x.ren mb ml=.nilp→x=.nilp:=by
 intro x h
 cases x with
 |nilp=>rfl
 |sl e sh o xs=>
  cases o with
  |none=>cases h
  |some L=>cases h
 |box k off=>
  have h:(match lk mb k with|some k'=>V.box k' off|none=> .any)=.nilp:=h
  cases b:lk mb k<;>rw[b] at h<;>cases h
 |fn f a=>
  have h:(match a with|[]=>V.fn f []|_=> .any)=.nilp:=h
  cases a<;>cases h
 |slz L e sh xs o2 i c g d ys=>
  have h:(match lk ml L with|some L'=>V.slz L' e sh xs (o2.bind (lk ml)) i c g d ys|none=> .any)=.nilp:=h
  cases b:lk ml L<;>rw[b] at h<;>cases h
 |old x=>
  have h:(bif x.eH then x else .any)=.nilp:=h
  cases b:x.eH<;>rw[b] at h
  ·cases h
  ·have h:x=.nilp:=h
   subst h
   cases b
 |_=>cases h
theorem Sv (L:Nat): ∀x:V,x.MH L=.nilp→x=.nilp:=by
 intro x h
 cases x with
 |nilp=>rfl
 |slz L' e sh xs o2 i c f a ys=>
  have h:(bif L==L' then V.sl e sh (some L) xs else .slz L' e sh xs o2 i c f a ys)=.nilp:=h
  cases b:L==L'<;>rw[b] at h<;>cases h
 |epz L' e d i off=>
  have h:(bif L==L' then V.any else .epz L' e d i off)=.nilp:=h
  cases b:L==L'<;>rw[b] at h<;>cases h
 |_=>cases h
theorem OM (L e:Nat) (sh:List Kd) (xs:af) (i:Int) (c L3 k:Nat) (a:List Kd) (ys:af): ∀x:V,x.xK L e sh xs i c L3 k a ys=.nilp→x=.nilp:=by
 intro x h
 cases x with
 |nilp=>rfl
 |slz L' o j g o2 n l f b d=>
  have h:(bif L==L' then V.slz L e sh xs (some L3) i c k a ys else .slz L' o j g o2 n l f b d)=.nilp:=h
  cases m:L==L'<;>rw[m] at h<;>cases h
 |_=>cases h
def QD (P:Program) (B:Own) (g:Gh) (bx:List (Nat×af)) (w:World):Prop:=
 (∀k a,aA bx k=some a→ ∃b c e,g.β k=some b∧B.m b∧w.heap[b]? =some (.cells c e (0,0))∧PW (aG g) a c.toList∧(∀u∈c.toList,u.oneCell'=true)∧g.G b=none∧(iQ a=true→mK P e a.length=true))∧
 (∀k f a d,aA bx k=some a→aA bx f=some d→g.β k=g.β f→k=f)
structure RI (es:af) (ms:Array MapEntry) (ck:Nat):Prop where
 look: ∀n:Int,DD es n=true→ ∃j,Instr.findNow (.int .i64) (.int .i64 n) ms.toList 0=some (some (j,.string ⟨(kg es n).toArray⟩))
 perm: ∃ps:List (Int×ah),es=ps.map (fun p=> .agg [.int .i64 p.1,.str p.2])∧(ms.toList.map fun x=>(x.key,x.val)).Perm (ps.map fun p=>(Value.int .i64 p.1,Value.string ⟨p.2.toArray⟩))
 born:(∀x∈ms.toList,x.born<ck)∧(ms.toList.map (·.born)).Nodup
def OB (G:aJ) (w:World) (n:Nat):V→Prop
 | .rptr _ (.sK _ (.agg d) _) _=>∃l b a c,G n=some l∧l[0]? =some (.map (some b))∧w.heap[b]? =some (.map a c)∧RI d a c
 |_=>True
def kC (E:Env) (G:aJ) (w:World):Prop:=∀n v,E.glob n=some v→v.plain=true∧aK G v (.pointer (some ⟨n,0,none⟩))∧OB G w n v
def BG (w w':World):Prop:=∀(b:Nat) (a:Array MapEntry) (c:Nat),w.heap[b]? =some (.map a c)→w'.heap[b]? =some (.map a c)
theorem wJ {w w':World} (h:Below w.heap.size w w'):BG w w':=fun b d c a=>(h.block b (Array.getElem?_eq_some_iff.1 a).1).trans a
theorem qb {w w':World} {j:Nat} {c:Array Value} {e:TypeId} {fr:Nat×Nat} (d:w.heap[j]? =some (.cells c e fr)) (h: ∀b,b≠j→b<w.heap.size→w'.heap[b]? =w.heap[b]?):BG w w':=fun b g f a=>by
 refine(h b (fun e=>?_) (Array.getElem?_eq_some_iff.1 a).1).trans a;rw[e,d] at a;cases a
theorem OB.more {G G':aJ} {w w':World} (e:jP G G') (d:BG w w') {n:Nat}: ∀{v:V},OB G w n v→OB G' w' n v:=by
 intro v h;unfold OB at h⊢;split at h
 ·obtain⟨l,b,c,j,g,a,h3,f⟩:=h
  obtain⟨k,i,t,rfl⟩:=e _ l g;exact⟨l++t,b,c,j,i,by rw[ZY (List.getElem?_eq_some_iff.1 a).1];exact a,d _ _ _ h3,f⟩
 ·trivial
theorem kC.more {E:Env} {G G':aJ} {w w':World} (h:kC E G w) (b:jP G G') (c:BG w w'):kC E G' w':=fun n v a=>⟨(h n v a).1,gq b _ _ (h n v a).2.1,(h n v a).2.2.more b c⟩
structure jH (m:Nat→Prop) (w w':World):Prop where
 iq:Below 0 w w'
 row: ∀b,¬m b→w'.heap[b]? =w.heap[b]?
 map:BG w w'
theorem jH.refl (m:Nat→Prop) (w:World):jH m w w:=⟨.refl _ _,fun _ _=>rfl,fun _ _ _ h=>h⟩
theorem jH.trans {m:Nat→Prop} {a b c:World} (h:jH m a b) (k:jH m b c):jH m a c:=⟨h.iq.trans k.iq,fun j d=>(k.row j d).trans (h.row j d),fun b e c f=>k.map b e c (h.map b e c f)⟩
theorem jH.mono {m c:Nat→Prop} {a b:World} (h:jH m a b) (d: ∀j,m j→c j):jH c a b:=⟨h.iq,fun j f=>h.row j fun e=>f (d j e),h.map⟩
theorem jH.of_below {m:Nat→Prop} {w w':World} (h:Below w.heap.size w w') (a: ∀b,w.heap.size≤b→m b):jH m w w':=⟨h.mono (D9 _),fun b c=>h.block b (Qy fun h=>c (a b h)),wJ h⟩
theorem jH.below {w w':World} (h:jH (fun b=>w.heap.size≤b) w w'):Below w.heap.size w w':=⟨h.iq.os,h.iq.tape,h.iq.output,h.iq.size,fun b a=>h.row b (Nat.not_le.2 a)⟩
structure Inv (E:Env) (B:Own) (G0:aJ) (w0:World) (s:St) (g:Gh) (a:Act) (w:World):Prop where
 fr:PW (aG g) s.fr a.tmps.toList
 df:a.defers=B.df
 gok:vk g.G w
 own:Ho B g w
 bxs:QD E.P B g s.bx w
 iq:jH B.m w0 w
 hB:B.n≤w.heap.size∧ ∀b,w.heap.size≤b→B.m b
 ext:(∀b,¬B.m b→g.G b=G0 b)∧jP G0 g.G∧ ∀k,HL≤k→g.β k=B.β k
 glob:kC E G0 w0∧ ∀b l,G0 b=some l→b<B.n
 g1:jP g.G1 G0
 zb: ∀k cs L v e sz b,aA s.bx k=some cs→g.O L=some (v,e,sz)→v.ownBlock=some b→g.β k≠some b
theorem Inv.fB {E:Env} {B:Own} {G0:aJ} {w0:World} {s:St} {g:Gh} {a:Act} {w:World} (h:Inv E B G0 w0 s g a w):kC E g.G w:=
 h.glob.1.more h.ext.2.1 h.iq.map
theorem jP.trans {G G' G'':aJ} (h:jP G G') (k:jP G' G''):jP G G'':=fun b l g=>by
 obtain⟨d,e,c⟩:=h b l g;obtain⟨a,h3,f⟩:=k b d e;exact⟨a,h3,c.trans f⟩
theorem Inv.m1 {E:Env} {B:Own} {G0:aJ} {w0:World} {s:St} {g:Gh} {a:Act} {w:World} (h:Inv E B G0 w0 s g a w):jP g.G1 g.G:=h.g1.trans h.ext.2.1
theorem Am {B:Own} {w w':World} (h:B.n≤w.heap.size∧ ∀b,w.heap.size≤b→B.m b) (a:w.heap.size≤w'.heap.size):B.n≤w'.heap.size∧ ∀b,w'.heap.size≤b→B.m b:=
 ⟨Dy h.1 a,fun b c=>h.2 b (Dy a c)⟩
theorem Jm {g:Gh} {x:V} {v:Value} (hx:x.plain=true) (h:aK g.G x v):bA g x v:=by
 cases x with
 |sl e sh o xs=>cases o with
  |none=>exact h
  |some L=>cases hx
 |box k o=>cases hx
 |eptr _ _ _ _ _ _=>cases hx
 |slz _ _ _ _ _ _ _ _ _ _=>cases hx
 |epz _ _ _ _ _=>cases hx
 |keep _ _=>cases hx
 |old _=>cases hx
 |_=>exact h
theorem uL {g:Gh} {x:V} {v:Value} (h:aG g x v):aG g x.yS v:=by
 cases x with
 |old x=>exact bI h.2.2 h.2.1
 |_=>exact h
theorem gY {g g':Gh} {x:V} {v:Value} (a:yU x=true) (h:aG g x v):aG g' x v:=by
 cases x with
 |any=>exact(show aK g'.G .any v by unfold aK;trivial)
 |bool b=>exact h
 |int k n=>exact h
 |str l=>exact h
 |nilsl=>exact h
 |nilif=>exact h
 |nilp=>exact h
 |_=>cases a
theorem gI {g:Gh} {v:Value}:aG g .any v:=show aK g.G .any v by unfold aK;trivial
def Gh.g0 (g:Gh):Gh:=⟨g.G1,fun _=>none,fun _=>none,fun _=>none,fun _=>none⟩
theorem Eo {g:Gh} {x:V} {v:Value} (h:aG g x v):aG g.g0 x.YB v:=by
 cases x with
 |old x=>exact bI h.2.2 h.1
 |any=>exact gI
 |bool b=>exact gY (g:=g) rfl h
 |int k n=>exact gY (g:=g) rfl h
 |str l=>exact gY (g:=g) rfl h
 |nilsl=>exact gY (g:=g) rfl h
 |nilif=>exact gY (g:=g) rfl h
 |nilp=>exact gY (g:=g) rfl h
 |_=>exact gI
theorem Gv {g:Gh} {x:V} {v:Value} (hx:x.eH=true) (b:jP g.G1 g.G) (h:aG g.g0 x v):aG g (.old x) v:=by
 have a:x.plain=true∧aK g.G1 x v:=by
  cases x with
  |sl e sh o xs=>cases o with
   |none=>exact⟨rfl,h⟩
   |some L=>cases hx
  |agg c=>exact⟨rfl,h⟩
  |rptr sh y off=>exact⟨rfl,h⟩
  |iface t y=>exact⟨rfl,h⟩
  |_=>cases hx
 exact⟨a.2,gq b _ _ a.2,a.1⟩
structure qy (E:Env):Prop where
 mixed:E.P.follows .mixedOrders=true
 names:(E.P.funcs.all fun fn=>fn.body.isNone||fn.name != "runtime.NumGoroutine")=true
def New (w w':World) (G G':aJ):Prop:=Below w.heap.size w w'∧(∀b,b<w.heap.size→G' b=G b)∧vk G' w'
def gJ (G:aJ) (w:World) (B:Nat→Prop) (e:Nat) (sh:List Kd) (xs:af) (u:Value):Prop:=
 0<sh.length∧((u=.slice none 0 0∧xs=[])∨ ∃b cap a l,u=.slice (some ⟨b,0,none⟩) xs.length cap∧B b∧w.heap[b]? =some (.cells a e (0,0))∧xs.length≤cap∧cap≤maxLen∧
  a.size=cap*sh.length∧G b=some l∧l.length=xs.length*sh.length∧bM G sh xs l)
def uy (G:aJ) (w:World) (B:Nat→Prop) (e c n:Nat) (u:Value) (l:List Value):Prop:=
 0<c∧l.length=n*c∧((u=.slice none 0 0∧n=0)∨ ∃b cap a,u=.slice (some ⟨b,0,none⟩) n cap∧B b∧w.heap[b]? =some (.cells a e (0,0))∧n≤cap∧cap≤maxLen∧a.size=cap*c∧a.toList.take l.length=l∧G b=none)
def Does (P:Program) (ρ:Operand→Value) (o:Oper) (B:Own) (w:World) (g:Gh) (bx:List (Nat×af)):Eff→Prop
 | .val v=>∃u,(execOp ρ o).run P w=.ok (.value u) w∧aG g v u
 | .own e sh xs=>∃u w' G',(execOp ρ o).run P w=.ok (.value u) w'∧New w w' g.G G'∧gJ G' w' (w.heap.size≤ ·) e sh xs u
 | .newSl e sh xs=>∃u w' G',(execOp ρ o).run P w=.ok (.value u) w'∧New w w' g.G G'∧aK G' (.sl e sh none xs) u
 | .lD e m=>∃c,(execOp ρ o).run P w=.ok (.value (.pointer (some ⟨w.heap.size,0,none⟩))) (w.alloc (.cells c e))∧PW (aG g) m c.toList∧(∀u∈c.toList,u.oneCell'=true)∧(iQ m=true→mK P e m.length=true)
 | .put k off m=>∃b c e us old,g.β k=some b∧aA bx k=some old∧w.heap[b]? =some (.cells c e (0,0))∧PW (aG g) old c.toList∧
  (execOp ρ o).run P w=.ok .skip (w.setRow b (c.toList.take off++us++c.toList.drop (off+us.length)).toArray)∧PW (aG g) m us∧(∀u∈us,u.oneCell'=true)∧off+m.length≤old.length
 | .app L e sh xs=>∃a u w' G',g.O L=some (a,e,sh.length)∧(execOp ρ o).run P w=.ok (.value u) w'∧w.grownBy w' a.ownBlock∧(∀b,b<w.heap.size→some b≠a.ownBlock→G' b=g.G b)∧jP g.G G'∧vk G' w'∧
  gJ G' w' (B.ok L) e sh xs u∧(u.ownBlock=a.ownBlock∨ ∀b,u.ownBlock=some b→w.heap.size≤b)
 | .call f args mb ml=>∃(vs:List Value) (q:af),(execOp ρ o).run P w=.ok (.enter f vs.toArray) w∧PW (FE g) q vs∧mJ bx 0 q=some (args,mb,ml)∧mI mb ml=true
 | .ku v=>∃u,(execOp ρ o).run P w=.halt (.panic u) w∧aK g.G v u
 | .pick b x y=>∃u,(execOp ρ o).run P w=.ok (.value u) w∧aG g (match b with|true=>x|false=>y) u
 | .Bd L e sh ys=>∃a b c l p u xs,g.O L=some (a,e,sh.length)∧a.ownBlock=some b∧w.heap[b]? =some (.cells c e (0,0))∧g.G b=some l∧p<l.length∧qC g.G sh xs a∧ys.length=xs.length∧sh.all flatK=true∧
  bM g.G sh ys (l.set p u)∧u.oneCell'=true∧(execOp ρ o).run P w=.ok .skip (w.setRow b (c.toList.take p++[u]++c.toList.drop (p+1)).toArray)
 | .ownz e sh xs c n d=>∃u w' l,(execOp ρ o).run P w=.ok (.value u) w'∧Below w.heap.size w w'∧uy g.G w' (w.heap.size≤ ·) e sh.length xs.length u l∧bM g.G sh xs l∧0<d.length∧ ∀y,l[c]? =some y→y=.slice none 0 0
 | .appz L e sh xs i c n d=>∃a u w' l,g.O L=some (a,e,sh.length)∧(execOp ρ o).run P w=.ok (.value u) w'∧w.grownBy w' a.ownBlock∧(∀b,a.ownBlock=some b→g.G b=none)∧uy g.G w' (B.ok L) e sh.length xs.length u l∧bM g.G sh xs l∧
  (u.ownBlock=a.ownBlock∨ ∀b,u.ownBlock=some b→w.heap.size≤b)∧0<d.length∧ ∀y,0≤i→l[i.toNat*sh.length+c]? =some y→y=.slice none 0 0
 | .Be L e sh xs i c L3 n d ys=>∃a b h l u,g.O L=some (a,e,sh.length)∧g.C L=some l∧a.ownBlock=some b∧w.heap[b]? =some (.cells h e (0,0))∧i.toNat*sh.length+c<l.length∧u.oneCell'=true∧zG g sh xs a (l.set (i.toNat*sh.length+c) u)∧
  g.O L3=some (u,n,d.length)∧qC g.G d ys u∧(execOp ρ o).run P w=.ok .skip (w.setRow b (h.toList.take (i.toNat*sh.length+c)++[u]++h.toList.drop (i.toNat*sh.length+c+1)).toArray)
 | .alts i vs=>∀(j:Nat) v,i=(j:Int)→vs[j]? =some v→ ∃u,(execOp ρ o).run P w=.ok (.value u) w∧aG g v u
theorem qP (G:aJ) (v:Value):aK G (zV v) v:=by
 unfold zV;split
 ·unfold aK;rfl
 ·unfold aK;rfl
 ·rename_i s;unfold aK;cases s;simp
 ·unfold aK;rfl
 ·unfold aK;rfl
 ·unfold aK;rfl
 ·unfold aK;trivial
theorem Cv (v:Value):(zV v).plain=true:=by unfold zV;split<;>rfl
theorem qQ (G:aJ) (v:Value):aK G (nO v) v:=by
 unfold nO;split
 ·rename_i a
  unfold aK;refine⟨a.toList,by simp,(eD _ _).2 ⟨by simp,fun i x v hx b=>?_⟩⟩;simp only[rF,b,sW,aI] at hx;subst hx;exact qP G v
 ·exact qP G v
theorem Cw (v:Value):(nO v).plain=true:=by unfold nO;split;rfl;exact Cv v
section
variable {E:Env} {B:Own} {G0:aJ} {w0:World} {s:St} {g:Gh} {a:Act} {w:World}
theorem cr (c:PW (aG g) s.fr a.tmps.toList) {w:World} (i:kC E g.G w) (x:Operand):aG g (iO E s.fr x) (a.eval x):=by
 cases x with
 |tmp t=>
  show aG g (slot s.fr t) (a.tmps.getD t undef);unfold slot;by_cases h:t<s.fr.length
  ·have d:t<a.tmps.toList.length:=by rw[←c.1];exact h
   have:=c.2 t s.fr[t] a.tmps.toList[t] (gP h) (gP d);rw[sV,gP h];have b:t<a.tmps.size:=by simpa using d
   have e:a.tmps.getD t undef=a.tmps.toList[t]:=by simp[Array.getD,b]
   rw[e];exact this
  ·have:s.fr.getD t .any=.any:=by rw[sV,ZA (Nat.le_of_not_lt h)];rfl
   rw[this];simp only[aG,bA];unfold aK;trivial
 |const v=>exact bI (Cw v) (qQ g.G v)
 |global n=>
  show aG g (match E.glob n with|some v=>v|none=> .any) (.pointer (some ⟨n,0,none⟩))
  cases h:E.glob n with
  |none=>simp only[aG,bA];unfold aK;trivial
  |some v=>exact bI (i n v h).1 (i n v h).2.1
 |func f=>exact⟨[],(BS _).symm,.nil⟩
end
section
variable {P:Program} {ρ:Operand→Value} {o:Oper} {B:Own} {w:World} {g:Gh} {bx:List (Nat×af)}
theorem aX {v:V} {u:Value} {m:Sem Value} (a:execOp ρ o=(do pure (.value (←m)))) (b:m.run P w=.ok u w) (h3:aG g v u):Does P ρ o B w g bx (.val v):=
 ⟨u,by rw[a];simp[b],h3⟩
theorem bG {b:Bool} {v:Value}:aG g (.bool b) v↔v=.bool b:=by simp only[aG,bA];unfold aK;rfl
theorem bH {k:IntKind} {n:Int} {v:Value}:aG g (.int k n) v↔v=.int k n:=by simp only[aG,bA];unfold aK;rfl
theorem eT {l:ah} {v:Value}:aG g (.str l) v↔v=.string ⟨l.toArray⟩:=by simp only[aG,bA];unfold aK;rfl
theorem kK {g:Gh} {v:Value}:aG g .nilif v↔v=.nilIface:=by simp only[aG,bA];unfold aK;exact Iff.rfl
theorem OO {g:Gh} {v:Value}:aG g .nilp v↔v=.pointer none:=by simp only[aG,bA];unfold aK;exact Iff.rfl
theorem iW {g:Gh} {t:Nat} {x:V} {v:Value}:aG g (.iface t x) v↔ ∃u,v=.iface t u∧aK g.G x u:=by
 simp only[aG,bA];constructor
 ·intro h;unfold aK at h;exact h
 ·intro h;unfold aK;exact h
theorem gZ {v:Value}:aG g .nilsl v↔v=.slice none 0 0:=by simp only[aG,bA];unfold aK;rfl
theorem gK {b:af} {v:Value}:aG g (.agg b) v↔ ∃a:List Value,v=.agg a.toArray∧PW (aK g.G) b a:=by simp only[aG,bA];unfold aK;simp only[eD]
theorem dH {k off:Nat} {v:Value}:aG g (.box k off) v↔ ∃b,g.β k=some b∧v=.pointer (some ⟨b,off,none⟩):=by simp only[aG,bA]
theorem kG {L e:Nat} {sh:List Kd} {xs:af} {i:Int} {off:Nat} {v:Value}:aG g (.eptr L e sh xs i off) v↔ ∃a b,g.O L=some (a,e,sh.length)∧qC g.G sh xs a∧0≤i∧i<(xs.length:Int)∧a.ownBlock=some b∧v=.pointer (some ⟨b,i.toNat*sh.length+off,none⟩):=by simp only[aG,bA]
theorem lg {L e:Nat} {sh:List Kd} {xs:af} {o2:Option Nat} {i:Int} {c b:Nat} {a:List Kd} {ys:af} {v:Value}:aG g (.slz L e sh xs o2 i c b a ys) v↔ ∃l,g.O L=some (v,e,sh.length)∧g.C L=some l∧zG g sh xs v l∧oZ g l sh.length o2 i c b a ys:=by simp only[aG,bA]
theorem mQ {L e a:Nat} {i:Int} {off:Nat} {v:Value}:aG g (.epz L e a i off) v↔ ∃c b l,g.O L=some (c,e,a)∧g.C L=some l∧0≤i∧i.toNat*a+a≤l.length∧c.ownBlock=some b∧v=.pointer (some ⟨b,i.toNat*a+off,none⟩):=by simp only[aG,bA]
theorem gM {sh:List Kd} {x:V} {off:Nat} {v:Value}:aG g (.rptr sh x off) v↔ ∃b o l,v=.pointer (some ⟨b,o+off,none⟩)∧g.G b=some l∧fG sh x=true∧ ∃u,aK g.G x u∧(l.drop o).take sh.length=u.cells.toList:=by
 show aK g.G (.rptr sh x off) v↔_;rw[aK]
theorem jI {e:Nat} {sh:List Kd} {a:Option Nat} {xs:af} {v:Value} (h:aG g (.sl e sh a xs) v):aK g.G (.sl e sh none xs) v:=by
 cases a with
 |none=>exact h
 |some L=>exact jZ h.2
theorem uM (a b:ah):((⟨a.toArray⟩:ByteArray).toList==(⟨b.toArray⟩:ByteArray).toList)=seq a b:=by
 rw[ByteArray.toList_eq,ByteArray.toList_eq];rfl
theorem OP (a b:ah):(⟨a.toArray⟩:ByteArray)++⟨b.toArray⟩=⟨(bg a b).toArray⟩:=by
 apply ByteArray.ext
 simp[bg]
theorem Jn (c:BinOp) (t:TypeId) (x y:Operand) (k d:IntKind) (a b:Int):(eqGuard c t x y (.int k a) (.int d b)).run P w=.ok () w:=by
 unfold eqGuard;split<;>rfl
theorem Jo (c:BinOp) (t:TypeId) (x y:Operand) (a b:ByteArray):(eqGuard c t x y (.string a) (.string b)).run P w=.ok () w:=by
 unfold eqGuard;split<;>rfl
theorem wK (c:BinOp) (t:TypeId) (x y:Operand) (a b:Bool):(eqGuard c t x y (.bool a) (.bool b)).run P w=.ok () w:=by
 unfold eqGuard;split<;>rfl
theorem Jp {op : BinOp} {xt yt : TypeId} {x y : Operand} {X Y : V} (ho : o.op = .binOp op xt x y yt) (hx : aG g X (ρ x)) (hy : aG g Y (ρ y)) {v : V} (h : Vh op X Y = some (true, v))
    (hbool : ∀ a b, X = .bool a → Y = .bool b → P.underlying xt = some .bool) : Does P ρ o B w g bx (.val v) := by
  have he : execOp ρ o = (do pure (.value (← (do eqGuard op xt x y (ρ x) (ρ y); binOp op xt (ρ x) (ρ y))))) := by simp only [execOp, ho]
  unfold Vh at h
  split at h
  · rename_i k a k' b
    rw [bH] at hx hy
    have key : ∀ u, (binOp op xt (.int k a) (.int k' b)).run P w = .ok u w → aG g v u → Does P ρ o B w g bx (.val v) := by
      intro u hu ht
      refine aX he ?_ ht
      rw [hx, hy]
      simp only [Sem.run_bind, Jn, Result.andThen_ok, hu]
    split at h
    · simp only [aI, bU] at h
      obtain ⟨h1, rfl⟩ := h
      unfold aD at h1
      have h1 := D7 h1
      refine key (.int k (Yt k a b)) ?_ (bH.2 rfl)
      simp [binOp, Op.shift, Yt, Int.not_lt.2 h1]
    · simp only [aI, bU] at h
      obtain ⟨h1, rfl⟩ := h
      unfold aD at h1
      have h1 := D7 h1
      refine key (.int k (Ov k a b)) ?_ (bH.2 rfl)
      simp [binOp, Op.shift, Ov, Int.not_lt.2 h1]
    · rename_i hn1 hn2
      simp only [cond_eq_ite, Fw] at h
      split at h
      · rename_i hk
        subst hk
        unfold intV at h
        split at h
        all_goals first | (cases h; done) | skip
        all_goals
          simp only [aI, bU] at h
          obtain ⟨h1, rfl⟩ := h
          first
            | refine key _ (by simp only [binOp, ne_eq, acg, HV, Op.intArith]; rfl) (bH.2 rfl)
            | refine key _ (by simp only [binOp, ne_eq, acg, HV, Op.intBits]; rfl) (bH.2 rfl)
            | refine key _ (by simp only [binOp, ne_eq, acg, HV, Op.intCmp]; rfl) (bG.2 rfl)
            | (have hb : b ≠ 0 := by
                 intro hb
                 subst hb
                 simp [aT, ieq] at h1
               refine key _ (by simp only [binOp, ne_eq, acg, HV, Op.intDiv, hb]; rfl) (bH.2 rfl))
      · cases h
  · rename_i a b
    rw [eT] at hx hy
    have key : ∀ u, (Op.stringOp op ⟨a.toArray⟩ ⟨b.toArray⟩).run P w = .ok u w → aG g v u → Does P ρ o B w g bx (.val v) := by
      intro u hu ht
      refine aX he ?_ ht
      rw [hx, hy]
      have e : binOp op xt (.string ⟨a.toArray⟩) (.string ⟨b.toArray⟩) = Op.stringOp op ⟨a.toArray⟩ ⟨b.toArray⟩ := by cases op <;> rfl
      simp only [Sem.run_bind, Jo, Result.andThen_ok, e, hu]
    unfold Yu at h
    split at h
    all_goals first | (cases h; done) | skip
    all_goals
      simp only [aI, bU] at h
      obtain ⟨h1, rfl⟩ := h
    · unfold bC Xn at h1
      have h1 := D7 h1
      refine key (.string ⟨(bg a b).toArray⟩) ?_ (eT.2 rfl)
      have hs : ¬ (((⟨a.toArray⟩ : ByteArray).size + (⟨b.toArray⟩ : ByteArray).size : Nat) : Int) > IntKind.i64.max := by
        have e1 : (⟨a.toArray⟩ : ByteArray).size = a.length := by simp [ByteArray.size]
        have e2 : (⟨b.toArray⟩ : ByteArray).size = b.length := by simp [ByteArray.size]
        rw [e1, e2]
        have : IntKind.i64.max = 9223372036854775807 := by decide
        rw [this]; omega
      simp only [Op.stringOp, hs, HV, OP]
      rfl
    · refine key _ (by simp only [Op.stringOp, uM]; rfl) (bG.2 rfl)
    · refine key _ (by simp only [Op.stringOp, uM]; rfl) (bG.2 rfl)
    · refine key _ (by simp only [Op.stringOp, ByteArray.toList_eq]; rfl) (bG.2 rfl)
    · refine key _ (by simp only [Op.stringOp, ByteArray.toList_eq]; rfl) (bG.2 rfl)
    · refine key (.bool (au (aT (slt a b)) (aT (seq a b)))) ?_ (bG.2 rfl)
      have e : (!(Op.bytesLess a b || a == b)) = au (aT (slt a b)) (aT (seq a b)) := by
        unfold slt seq; cases Op.bytesLess a b <;> cases a == b <;> rfl
      rw [← e]
      simp only [Op.stringOp, ByteArray.toList_eq]; rfl
    · refine key (.bool (aT (au (aT (slt a b)) (aT (seq a b))))) ?_ (bG.2 rfl)
      have e : (Op.bytesLess a b || a == b) = aT (au (aT (slt a b)) (aT (seq a b))) := by
        unfold slt seq; cases Op.bytesLess a b <;> cases a == b <;> rfl
      rw [← e]
      simp only [Op.stringOp, ByteArray.toList_eq]; rfl
  · rename_i a b
    have hu := hbool a b rfl rfl
    rw [bG] at hx hy
    have hq : (Op.equal xt (.bool a) (.bool b)).run P w = .ok (a == b) w := by
      have e : Op.equal xt (.bool a) (.bool b) = Op.equalIn (9999 + 1) xt (.bool a) (.bool b) := rfl
      rw [e, Op.equalIn]
      simp only [Sem.run_bind, run_underlying hu, Result.andThen_ok]
      rfl
    split at h
    all_goals first | (cases h; done) | skip
    all_goals
      simp only [aI, bU] at h
      obtain ⟨h1, rfl⟩ := h
    · refine aX he (u := .bool (a == b)) ?_ (bG.2 rfl)
      rw [hx, hy]
      simp only [Sem.run_bind, wK, Result.andThen_ok, binOp, hq, Sem.run_pure]
    · refine aX he (u := .bool (!(a == b))) ?_ (bG.2 rfl)
      rw [hx, hy]
      simp only [Sem.run_bind, wK, Result.andThen_ok, binOp, hq, Sem.run_pure]
  · cases h
end
mutual
theorem Kd.Sw: ∀(a b:Kd),Kd.eq a b=true→a=b
 | .bool,.bool,_=>rfl
 | .int k,.int k',h=>by simp only[Kd.eq,ig] at h;rw[h]
 | .str,.str,_=>rfl
 | .sl e sh,.sl e' sh',h=>by
  simp only[Kd.eq,bL,ig] at h;rw[h.1,Kd.fT sh sh' h.2]
 | .oth,.oth,h=>by simp[Kd.eq] at h
 | .bool,.int _,h=>by simp[Kd.eq] at h
 | .bool,.str,h=>by simp[Kd.eq] at h
 | .bool,.sl _ _,h=>by simp[Kd.eq] at h
 | .bool,.oth,h=>by simp[Kd.eq] at h
 | .int _,.bool,h=>by simp[Kd.eq] at h
 | .int _,.str,h=>by simp[Kd.eq] at h
 | .int _,.sl _ _,h=>by simp[Kd.eq] at h
 | .int _,.oth,h=>by simp[Kd.eq] at h
 | .str,.bool,h=>by simp[Kd.eq] at h
 | .str,.int _,h=>by simp[Kd.eq] at h
 | .str,.sl _ _,h=>by simp[Kd.eq] at h
 | .str,.oth,h=>by simp[Kd.eq] at h
 | .sl _ _,.bool,h=>by simp[Kd.eq] at h
 | .sl _ _,.int _,h=>by simp[Kd.eq] at h
 | .sl _ _,.str,h=>by simp[Kd.eq] at h
 | .sl _ _,.oth,h=>by simp[Kd.eq] at h
 | .oth,.bool,h=>by simp[Kd.eq] at h
 | .oth,.int _,h=>by simp[Kd.eq] at h
 | .oth,.str,h=>by simp[Kd.eq] at h
 | .oth,.sl _ _,h=>by simp[Kd.eq] at h
theorem Kd.fT: ∀(a b:List Kd),Kd.Ba a b=true→a=b
 |[],[],_=>rfl
 |[],_::_,h=>by simp[Kd.Ba] at h
 |_::_,[],h=>by simp[Kd.Ba] at h
 |a::l,b::m,h=>by
  simp only[Kd.Ba,bL] at h;rw[Kd.Sw a b h.1,Kd.fT l m h.2]
end
theorem x9: ∀(sh:List Kd) (vs:af),bJ sh vs=true→ ∀(j:Nat) k v,sh[j]? =some k→vs[j]? =some v→fits k v=true
 |[],_,_,j,_,_,h,_=>by simp at h
 |_::_,[],h,_,_,_,_,_=>by simp[bJ] at h
 |k::sh,v::vs,h,0,d,c,b,a=>by
  simp only[bJ,au] at h;simp at b a;subst b;subst a;split at h
  ·assumption
  ·cases h
 |k::sh,v::vs,h,j+1,d,c,b,a=>by
  simp only[bJ,au] at h;split at h
  ·exact x9 sh vs h j d c (by simpa using b) (by simpa using a)
  ·cases h
theorem Sy {G:aJ} {k:Kd} {v:V} {u:Value} (a:fits k v=true) (h:aK G v u):u.oneCell'=true:=by
 cases v<;>cases k<;>simp[fits] at a<;>unfold aK at h
 all_goals first|(subst h;rfl)|(obtain⟨p,cap,rfl,_⟩:=h;rfl)
theorem VA {G:aJ} {k:Kd} {v:V} {u:Value} (a:fits k v=true) (h:aK G v u):aK G (eta k v) u:=by
 cases k with
 |bool=>cases v<;>simp[fits] at a;exact h
 |int k=>
  cases v<;>simp[fits] at a
  subst a;exact h
 |str=>cases v<;>simp[fits] at a;exact h
 |sl e sh=>
  cases v with
  |sl d b o xs=>
   simp only[fits,bL,ig] at a;obtain⟨rfl,c⟩:=a;obtain rfl:=Kd.fT _ _ c;exact kF h
  |nilsl=>
   unfold aK at h;subst h;show aK G (.sl e sh none []) _;unfold aK;exact⟨none,0,rfl,iI _,.inl rfl⟩
  |_=>simp[fits] at a
 |oth=>cases v with
  |sK _ _ _=>exact h
  |_=>simp[fits] at a
theorem OQ {k:Kd} {v:V} (a:fits k v=true):(eta k v).plain=true:=by
 cases k<;>first|rfl|(cases v<;>first|rfl|(simp[fits] at a;done))
theorem OT {x y:V} {j:Nat} (h:x.cells[j]? =some y):aL x j=y:=by
 cases x with
 |agg a=>simp only[V.cells] at h;simp[aL,h]
 |_=>
  simp only[V.cells] at h
  cases j with
  |zero=>simp at h;subst h;rfl
  |succ j=>simp at h
section
variable {P:Program} {ρ:Operand→Value} {o:Oper} {B:Own} {w:World} {g:Gh} {bx:List (Nat×af)}
theorem yZ {t:TypeId} (h:bE P t=some true): ∃d,P.underlying t=some d∧d.isRow=true:=by
 unfold bE at h;split at h
 ·rename_i a;exact⟨_,a,rfl⟩
 ·rename_i a;exact⟨_,a,rfl⟩
 ·cases h
 ·cases h
theorem kL {t:TypeId} {b:Bool} (h:bE P t=some b):(isAgg t).run P w=.ok b w:=by
 unfold bE at h;split at h
 ·rename_i a;simp only[aI] at h;subst h;simp[isAgg,run_underlying a]
 ·rename_i a;simp only[aI] at h;subst h;simp[isAgg,run_underlying a]
 ·rename_i d c e a
  simp only[aI] at h;subst h;simp only[isAgg,Sem.run_bind,run_underlying a,Result.andThen_ok]
  cases d<;>first|rfl|exact absurd rfl (c _)|exact absurd rfl (e _ _)
 ·cases h
theorem jJ {t:TypeId} {n:Nat} (h:bX P t=some n): ∃i,P.info? t=some i∧i.size=n:=by
 unfold bX at h;split at h
 ·rename_i i a;exact⟨i,a,by simpa using h⟩
 ·cases h
theorem dA {t:TypeId} {n:Nat} (h:bX P t=some n):(Go.sizeOf t).run P w=.ok n w:=by
 obtain⟨i,a,rfl⟩:=jJ h;simp[Go.sizeOf,typeInfo,a]
theorem kM {G:aJ} (g:vk G w) {b:Nat} {l:List Value} (h:G b=some l) {j:Nat} {u:Value} (a:l[j]? =some u):w.cell? ⟨b,j,none⟩=some u:=by
 obtain⟨c,e,fr,f,d⟩:=g b l h;have:c.toList[j]? =some u:=by
  rw[←d,Ki] at a;split at a
  ·exact a
  ·cases a
 simp[World.cell?,f,ach] at this⊢;simpa using this
theorem Ip {t:TypeId} {b o:Nat} {a:List Value} (e:bE P t=some true) (g:bX P t=some a.length) (h: ∀j u,a[j]? =some u→w.cell? ⟨b,o+j,none⟩=some u):
  (Instr.loadAt t (.pointer (some ⟨b,o,none⟩))).run P w=.ok (.agg a.toArray) w:=by
 obtain⟨d,c,f⟩:=yZ e;obtain⟨i,k,l⟩:=jJ g;exact run_loadAt_mid w b o t a d h c f (by rw[k];simp[l])
theorem BZ {t:TypeId} {b o:Nat} {u:Value} (c:bE P t=some false) (a:w.cell? ⟨b,o,none⟩=some u):
  (Instr.loadAt t (.pointer (some ⟨b,o,none⟩))).run P w=.ok u w:=by
 simp only[Instr.loadAt,Instr.sureAddr,loadVar,Sem.run_bind,Sem.run_pure,Result.andThen_ok,kL c,Qx,HV,run_load,a]
theorem Sz (k:Kd) (x:V) (off:Nat):XA k x off=eta k (aL x off):=by cases k<;>first|rfl|(cases x<;>rfl)
theorem y5 {t:TypeId} {a:Operand} {sh:List Kd} {x:V} {off:Nat} {eff:Eff} (M:o.op=.load t a) (Q:vk g.G w) (I:aG g (.rptr sh x off) (ρ a)) (h:MK P t sh x off=some (true,eff)):Does P ρ o B w g bx eff:=by
 rw[gM] at I;obtain⟨b,q,l,H,hl,r,u,N,R⟩:=I;have J:execOp ρ o=(do pure (.value (←Instr.loadAt t (ρ a)))):=by simp only[execOp,M]
 have hx:x≠.any:=fun e=>by rw[e,jM] at r;cases r
 obtain⟨F,D⟩:=kE N hx;have K:=iB _ _ r;have d: ∀j v,u.cells.toList[j]? =some v→w.cell? ⟨b,q+j,none⟩=some v:=by
  intro j v c;refine kM Q hl ?_;rw[←R,Ki] at c;split at c
  ·rw[Hy] at c;exact c
  ·cases c
 have i: ∀j k v,sh[j]? =some k→u.cells.toList[j]? =some v→fits k (aL x j)=true∧aK g.G (eta k (aL x j)) v:=by
  intro j k v m c;have z:j<x.cells.length:=by
   have:=(List.getElem?_eq_some_iff.1 m).1;unfold fG at r;omega
  have s:=gP z;rw[OT s];have C:=x9 sh x.cells r j k _ m s;exact⟨C,VA C (D.2 j _ v s c)⟩
 unfold MK at h;simp only[Sz] at h;split at h
 ·rename_i n f O
  simp only[cond_eq_ite] at h;split at h
  ·rename_i A
   have A:=UY A;simp only[ok,aI,bU,jw] at h;subst h;have E:((u.cells.toList.drop off).take n).length=n:=by simp;omega
   refine aX J (u:=.agg ((u.cells.toList.drop off).take n).toArray) ?_ (gK.2 ⟨_,rfl,?_⟩)
   ·rw[H]
    refine Ip f (by rw[E];exact O) ?_;intro j v c;rw[Ki] at c;split at c
    ·rw[Hy] at c
     rw[acM];exact d _ _ c
    ·cases c
   ·refine⟨by simp;omega,fun j y v s c=>?_⟩
    rw[Ki] at c;split at c
    ·rename_i z
     rw[Hy] at c;simp only[rF,Z4 z,sW,aI] at s;subst s;have m:off+j<sh.length:=by omega
     rw[sV,gP m];exact(i _ _ _ (gP m) c).2
    ·cases c
  ·cases h
 ·rename_i f
  simp only[cond_eq_ite] at h;split at h
  ·rename_i p
   have p:off<sh.length:=by simpa[A9] using p
   simp only[ok,aI,bU,jw] at h;subst h;have z:off<u.cells.toList.length:=by simp;unfold fG at r;omega
   have c:=gP z;have m:=gP p;obtain⟨C,L⟩:=i off _ _ m c;refine aX J (u:=u.cells.toList[off]) ?_ ?_
   ·rw[H];exact BZ f (d _ _ c)
   ·rw[sV,m]
    exact bI (OQ C) L
  ·cases h
 ·cases h
theorem Ep {cells c:af} {us:List Value} {off n:Nat} (h:Bv cells off n=some c) (b:PW (aG g) cells us):off+n≤us.length∧PW (aK g.G) c ((us.drop off).take n):=by
 unfold Bv at h;simp only[cond_eq_ite] at h;split at h
 ·rename_i a
  have a:=UY a;exact⟨by rw[←b.1];exact a,BV _ _ _ h ((b.drop off).take n)⟩
 ·cases h
theorem getD_some {l:af} {i:Nat} (h:i<l.length):l[i]? =some (l.getD i .any):=by
 rw[sV,gP h];rfl
theorem Gw {t:TypeId} {a:Operand} {k off:Nat} {cells:af} (A:o.op=.load t a) (hB:QD P B g bx w) (E:aG g (.box k off) (ρ a)) (hl:aA bx k=some cells):
  (∀n q,bE P t=some true→bX P t=some n→Bv cells off n=some q→Does P ρ o B w g bx (.val (.agg q)))∧
  (bE P t=some false→off<cells.length→Does P ρ o B w g bx (.val (cells.getD off .any))):=by
 have x:execOp ρ o=(do pure (.value (←Instr.loadAt t (ρ a)))):=by simp only[execOp,A]
 obtain⟨b,z,s⟩:=dH.1 E;obtain⟨F,c,e,i,_,C,l,_,_⟩:=hB.1 k cells hl;rw[z] at i;simp only[aI] at i;subst i;have d: ∀j v,c.toList[j]? =some v→w.cell? ⟨b,j,none⟩=some v:=by
  intro j v h;simp only[World.cell?,C];simpa using h
 constructor
 ·intro n q f D r
  obtain⟨G,y⟩:=Ep r l;have m:((c.toList.drop off).take n).length=n:=by rw[Dv,xB];omega
  refine aX x (u:=.agg ((c.toList.drop off).take n).toArray) ?_ (gK.2 ⟨_,rfl,y⟩);rw[s];refine Ip f (by rw[m];exact D) ?_;intro j v h;rw[Ki] at h;split at h
  ·rw[Hy] at h;exact d _ _ h
  ·cases h
 ·intro f p
  obtain⟨v,h,r⟩:=l.get (getD_some p);refine aX x (u:=v) ?_ r;rw[s];exact BZ f (d _ _ h)
theorem wL {t:TypeId} {f:Nat} {c:Field} (h:rM P t f=some c): ∃a,P.underlying t=some (.struct a)∧a[f]? =some c:=by
 unfold rM at h;split at h
 ·rename_i a b;exact⟨a,b,h⟩
 ·cases h
theorem kV {t:TypeId} {f:Nat} {a:Field} {n b q:Nat} (h:rM P t f=some a) (e:bX P a.type=some n) (g:n≠0):
  (Instr.fieldAt t (.pointer (some ⟨b,q,none⟩)) f).run P w=.ok (.pointer (some ⟨b,q+a.offset,none⟩)) w:=by
 obtain⟨i,c,d⟩:=wL h;simp[Instr.fieldAt,run_underlying c,d,Instr.sureAddr,fieldPlace,dA e,g,Addr.add_mid]
theorem Iq {G:aJ} {x y:V} {v:Value} (h:aK G x v) (a:x.deep=some y):aK G y v:=by
 cases x with
 |fn f c=>cases c with
  |nil=>simp only[V.deep,aI] at a;subst a;exact h
  |cons _ _=>simp[V.deep] at a
 |iface t x=>simp only[V.deep,aI] at a;subst a;exact h
 |_=>simp[V.deep] at a<;>subst a<;>first|exact h|exact kF h
theorem Gx {t:TypeId} {x:Operand} {f:Nat} {c:Field} {k:af} {eff:Eff} (s:o.op=.field t x f) (r:rM P t f=some c) (hx:aG g (.agg k) (ρ x)) (h:partOf P c.type k c.offset=some (true,eff)):Does P ρ o B w g bx eff:=by
 obtain⟨a,C,j⟩:=gK.1 hx;have q:execOp ρ o=(do pure (.value (←Instr.field t (ρ x) f))):=by simp only[execOp,s]
 obtain⟨F,l,m⟩:=wL r;have d:(Instr.field t (ρ x) f).run P w=(part c.type a.toArray c.offset).run P w:=by
  rw[C];simp[Instr.field,run_underlying l,m,asAgg]
 unfold partOf at h;split at h
 ·rename_i n b A
  simp only[cond_eq_ite] at h;split at h
  ·rename_i E
   simp only[ok,aI,bU,jw] at h;subst h;refine aX q (u:=.agg ((a.drop c.offset).take n).toArray) ?_ (gK.2 ⟨_,rfl,(j.drop _).take _⟩);rw[d];simp only[part,Sem.run_bind,kL b,Result.andThen_ok,if_true,dA A,Sem.run_pure];have e:a.toArray.extract c.offset (c.offset+n)=(List.take n (List.drop c.offset a)).toArray:=by
    rw[←Hz];simp
   rw[e]
  ·cases h
 ·rename_i b
  simp only[cond_eq_ite] at h;split at h
  ·rename_i i
   have i:c.offset<k.length:=by simpa[A9] using i
   split at h
   ·rename_i y p
    simp only[ok,aI,bU,jw] at h;subst h;obtain⟨v,D,z⟩:=j.get (getD_some i);refine aX q (u:=v) ?_ (bI (iV p) (Iq z p));rw[d];simp[part,kL b,D]
   ·cases h
  ·cases h
 ·cases h
end
theorem vW {G:aJ} {sh:List Kd}: ∀(xs:af) (cells:List Value),bM G sh xs cells→ ∀(i:Nat) x,xs[i]? =some x→fG sh x=true∧ ∃u,aK G x u∧(cells.drop (i*sh.length)).take sh.length=u.cells.toList
 |[],_,_,i,_,h=>by simp at h
 |y::xs,cells,h,0,x,hx=>by
  unfold bM at h;simp at hx;subst hx;exact⟨h.1,by simpa using h.2.1⟩
 |y::xs,cells,h,i+1,x,hx=>by
  unfold bM at h;have:=vW xs _ h.2.2 i x (by simpa using hx);rw[Kk] at this;rw[show(i+1)*sh.length=sh.length+i*sh.length by rw[xG,UM,X9]];exact this
theorem Er {G:aJ} {sh:List Kd}: ∀(n:Nat) (xs:af) (cells:List Value),bM G sh xs cells→bM G sh (xs.drop n) (cells.drop (n*sh.length))
 |0,xs,cells,h=>by simpa using h
 |n+1,[],cells,h=>by simp[gH]
 |n+1,y::xs,cells,h=>by
  unfold bM at h;have:=Er n xs _ h.2.2;rw[Kk] at this;rw[show(n+1)*sh.length=sh.length+n*sh.length by rw[xG,UM,X9],List.drop_succ_cons];exact this
theorem Es {G:aJ} {sh:List Kd}: ∀(n:Nat) (xs:af) (cells:List Value),bM G sh xs cells→bM G sh (xs.take n) cells
 |0,xs,cells,h=>by simp[gH]
 |n+1,[],cells,h=>by simp[gH]
 |n+1,y::xs,cells,h=>by
  unfold bM at h;rw[acw];unfold bM;exact⟨h.1,h.2.1,Es n xs _ h.2.2⟩
theorem q9 {G:aJ} {sh:List Kd}: ∀(xs ys:af) (c d:List Value),bM G sh xs c→bM G sh ys d→c.length=xs.length*sh.length→bM G sh (xs++ys) (c++d)
 |[],ys,c,d,_,b,hl=>by
  have:c=[]:=UJ (by simpa using hl);subst this;exact b
 |x::xs,ys,c,d,hx,b,hl=>by
  unfold bM at hx;rw[Om];unfold bM;have a:sh.length≤c.length:=by rw[hl,fQ,xG];omega
  refine⟨hx.1,?_,?_⟩
  ·rw[List.take_append_of_le_length a];exact hx.2.1
  ·rw[List.drop_append_of_le_length a]
   exact q9 xs ys _ d hx.2.2 b (by rw[xB,hl,fQ,xG];omega)
theorem uN {G:aJ} {sh:List Kd}: ∀(xs:af) (cells:List Value),bM G sh xs cells→xs.length*sh.length≤cells.length∧bM G sh xs (cells.take (xs.length*sh.length))
 |[],cells,h=>by simp[gH]
 |x::xs,cells,h=>by
  have d:=h;unfold bM at h;have ⟨i1,i2⟩:=uN xs _ h.2.2;obtain⟨u,b,c⟩:=h.2.1;have a:=l9 h.1 b;rw[←c,Dv] at a;have e:(x::xs).length*sh.length=sh.length+xs.length*sh.length:=by rw[fQ,xG,UM,X9]
  rw[xB] at i1;refine⟨by rw[e];omega,?_⟩;unfold bM;refine⟨h.1,⟨u,b,?_⟩,?_⟩
  ·rw[acV,e,acy (by omega)];exact c
  ·rw[acW,e,Nat.add_sub_cancel_left];exact i2
theorem Ir {G:aJ} {sh:List Kd}: ∀(xs:af) (cells:List Value),bM G sh xs cells→ ∀u∈cells.take (xs.length*sh.length),u.oneCell'=true
 |[],cells,h,u,a=>by simp at a
 |x::xs,cells,h,u,a=>by
  unfold bM at h;obtain⟨v,g,i⟩:=h.2.1;have e:(x::xs).length*sh.length=sh.length+xs.length*sh.length:=by rw[fQ,xG,UM,X9]
  rw[e,List.take_add,X6] at a;rcases a with a|a
  ·rw[i] at a
   have hx:x≠.any:=fun e=>by have f:=h.1;rw[e,jM] at f;cases f
   obtain⟨hl,c⟩:=kE g hx;obtain⟨j,d,rfl⟩:=acz a;have b:j<x.cells.length:=by rw[c.1];exact d
   have k:=iB _ _ h.1;exact Sy (x9 sh x.cells h.1 j _ _ (gP (by omega)) (gP b)) (c.2 j _ _ (gP b) (gP d))
  ·exact Ir xs _ h.2.2 u a
theorem pG (a:List Value):(Value.agg a.toArray).cells.toList=a:=by simp[Value.cells]
theorem om {G:aJ} {sh:List Kd} {ag:Bool} (h:(ag||sh.length==1)=true): ∀(n:Nat) (d:af) (us:List Value),PW (aK G) d us→d.length=n*sh.length→0<sh.length→rJ sh (chunks ag sh.length n d)=true→
  bM G sh (chunks ag sh.length n d) us
 |0,d,us,_,_,_,_=>by unfold chunks;exact gH
 |n+1,d,us,w,hl,A,q=>by
  unfold chunks at q⊢;simp only[rJ,au] at q;split at q
  ·rename_i j
   unfold bM;have e:(n+1)*sh.length=sh.length+n*sh.length:=by rw[xG,UM,X9]
   refine⟨j,?_,om h n _ _ (w.drop _) (by rw[xB,hl,e];omega) A q⟩
   cases ag with
   |true=>
    refine⟨.agg (us.take sh.length).toArray,?_,by rw[pG]⟩;show aK G (.agg _) _;unfold aK;exact⟨_,rfl,(eD _ _).2 (w.take _)⟩
   |false=>
    simp only[ZJ,ig] at h;have s:0<d.length:=by rw[hl,e];omega
    obtain⟨v,z,a⟩:=w.get (getD_some (l:=d) (i:=0) s);generalize d.getD 0 .any=x at a j⊢;have r:fG sh (pY x)=true:=j;have g:pY x≠.any:=by
     intro e;rw[e,jM] at r;exact absurd r (by decide)
    have hx:pY x=x∧v.cells= #[v]:=by
     cases x with
     |agg C=>exact absurd rfl g
     |tup C=>exact absurd rfl g
     |any=>exact absurd rfl g
     |bool b=>unfold aK at a;subst a;exact⟨rfl,rfl⟩
     |int k m=>unfold aK at a;subst a;exact⟨rfl,rfl⟩
     |str l=>unfold aK at a;subst a;exact⟨rfl,rfl⟩
     |nilsl=>unfold aK at a;subst a;exact⟨rfl,rfl⟩
     |sl e B o xs=>unfold aK at a;obtain⟨p,cap,rfl,_⟩:=a;exact⟨rfl,rfl⟩
     |rptr B x off=>unfold aK at a;obtain⟨b,o,l,rfl,_⟩:=a;exact⟨rfl,rfl⟩
     |box k o=>unfold aK at a;exact a.elim
     |eptr _ _ _ _ _ _=>unfold aK at a;exact a.elim
     |fn f c=>unfold aK at a;obtain⟨rfl,_⟩:=a;exact⟨rfl,rfl⟩
     |nilif=>unfold aK at a;subst a;exact⟨rfl,rfl⟩
     |nilp=>unfold aK at a;subst a;exact⟨rfl,rfl⟩
     |iface t y=>unfold aK at a;obtain⟨u,rfl,_⟩:=a;exact⟨rfl,rfl⟩
     |bxa _ _=>unfold aK at a;exact a.elim
     |out _ _ _=>unfold aK at a;exact a.elim
     |sK _ _ _=>unfold aK at a;obtain⟨b,l,rfl,_⟩:=a;exact⟨rfl,rfl⟩
     |old _=>unfold aK at a;exact a.elim
     |slz _ _ _ _ _ _ _ _ _ _=>unfold aK at a;exact a.elim
     |epz _ _ _ _ _=>unfold aK at a;exact a.elim
     |keep _ _=>unfold aK at a;exact a.elim
    show∃u,aK G (pY x) u∧_;refine⟨v,by rw[hx.1];exact a,?_⟩;rw[hx.2,h]
    cases us with
    |nil=>simp at z
    |cons u us=>simp at z;subst z;rfl
  ·cases q
section
variable {P:Program} {ρ:Operand→Value} {o:Oper} {B:Own} {w:World} {g:Gh} {bx:List (Nat×af)}
theorem aS {a b:Bool} (h:au a b=true):a=true∧b=true:=by
 cases a
 ·cases h
 ·exact⟨rfl,h⟩
theorem dI {a b:Int} (h:aD a b=true):a≤b:=D7 h
theorem vX {a b:Int} (h:aU a b=true):a<b:=D7 h
theorem qc {t e:TypeId} (h:Ec P t=some e):P.underlying t=some (.slice e):=by
 unfold Ec at h;split at h
 ·rename_i b a;simp only[aI] at h;subst h;exact a
 ·cases h
theorem aC {α:Type} {c:Bool} {x:Option α} {y:α} (h:(bif c then x else none)=some y):c=true∧x=some y:=by
 cases c
 ·cases h
 ·exact⟨rfl,h⟩
theorem yc {xs:af} {i:Int} (b:0≤i) (a:i<xs.length):xs[i.toNat]? =some (bf xs i):=by
 unfold bf;exact getD_some (by omega)
theorem OU {L e:Nat} {sh:List Kd} {xs:af} {i:Int} {off:Nat} {v:Value} (h:aG g (.eptr L e sh xs i off) v):aG g (.rptr sh (bf xs i) off) v:=by
 obtain⟨t,b,s,k,h3,c,d,p⟩:=kG.1 h;rcases k with⟨_,a⟩|⟨n,cap,l,q,f,o,hl,hE⟩
 ·rw[a] at c;simp at c;omega
 ·rw[q] at d
  simp only[Value.ownBlock,aI] at d;subst d;obtain⟨j,u,m,r⟩:=vW xs _ hE _ _ (yc h3 c);exact gM.2 ⟨n,i.toNat*sh.length,l,p,o,j,u,m,r⟩
theorem z8 {t:TypeId} {x i:Operand} {X:V} {k:IntKind} {n:Int} {eff:Eff} (ho:o.op=.indexAddr t x i) (hx:aG g X (ρ x)) (Q:ρ i=.int k n) (h:uJ P t X n=some (true,eff)):Does P ρ o B w g bx eff:=by
 have R:execOp ρ o=(do pure (.value (←Instr.indexAt t (ρ x) (ρ i)))):=by simp only[execOp,ho]
 unfold uJ at h;split at h
 ·rename_i e sh ow xs
  split at h
  ·rename_i e' F
   have I:=qc F;split at h
   ·rename_i m J
    have O:=aC h;clear h;obtain⟨E,h⟩:=O;obtain rfl:m=sh.length:=by simpa using E
    clear E;simp only[aI,bU] at h;obtain⟨N,rfl⟩:=h;obtain⟨d,c⟩:=aS N;have d:=dI d;have c:=vX c;unfold aM at c;have s:=yc d c
    cases ow with
    |some L=>
     obtain⟨hL,M⟩:=hx;have ho2:=M;rcases M with⟨_,r⟩|⟨b,cap,l,y,_,_,_,_⟩
     ·rw[r] at c;simp at c;omega
     ·refine aX R (u:=.pointer (some ⟨b,0+n.toNat*sh.length,none⟩)) ?_ ?_
      ·rw[y,Q]
       simp[Instr.indexAt,asIntOf,run_underlying I,d,c,dA J,Addr.add_mid]
      ·exact kG.2 ⟨ρ x,b,hL,ho2,d,c,by rw[y];rfl,by rw[MG,Oq]⟩
    |none=>
    have D:=jI hx;unfold aK at D;obtain⟨p,cap,y,hcap,D⟩:=D;rcases D with D|⟨b,off,l,rfl,W,hE⟩
    ·rw[D] at c;simp at c;omega
    ·obtain⟨Z,u,G,v⟩:=vW xs _ hE _ _ s
     refine aX R (u:=.pointer (some ⟨b,off+n.toNat*sh.length,none⟩)) ?_ ?_
     ·rw[y,Q]
      simp[Instr.indexAt,asIntOf,run_underlying I,d,c,dA J,Addr.add_mid]
     ·rw[gM]
      refine⟨b,off+n.toNat*sh.length,l,rfl,W,Z,u,G,?_⟩;rw[Kk] at v;exact v
   ·cases h
  ·cases h
 ·rename_i L e sh xs o2 i2 c2 e2 QM ys2
  split at h
  ·rename_i e' F
   have I:=qc F;split at h
   ·rename_i m J
    have O:=aC h;clear h;obtain⟨E,h⟩:=O;obtain rfl:m=sh.length:=by simpa using E
    clear E;simp only[aI,bU] at h;obtain⟨N,rfl⟩:=h;obtain⟨d,c⟩:=aS N;have d:=dI d;have c:=vX c;unfold aM at c;obtain⟨l,hO,hC,⟨y,hl,_⟩,_⟩:=lg.1 hx;rcases y with⟨_,r⟩|⟨b,cap,y⟩
    ·rw[r] at c;simp at c;omega
    ·refine aX R (u:=.pointer (some ⟨b,0+n.toNat*sh.length,none⟩)) ?_ ?_
     ·rw[y,Q]
      simp[Instr.indexAt,asIntOf,run_underlying I,d,c,dA J,Addr.add_mid]
     ·refine mQ.2 ⟨ρ x,b,l,hO,hC,d,?_,by rw[y];rfl,by rw[MG,Oq]⟩
      have S:n.toNat+1≤xs.length:=by omega
      have h3:=MF sh.length S;rw[xG,UM] at h3;rw[hl];exact h3
   ·cases h
  ·cases h
 ·rename_i sh z
  split at h
  ·rename_i m e I
   split at h
   ·rename_i f ag J hag
    have O:=aC h;clear h;obtain⟨E,h⟩:=O;simp only[bL,ig] at E;obtain⟨⟨⟨hm1,H⟩,Y⟩,U⟩:=E;have H:0<f:=by simpa[A9] using H
    simp only[aI,bU] at h;obtain⟨N,rfl⟩:=h;obtain⟨d,c⟩:=aS N;have d:=dI d;have c:=vX c;rw[gM] at hx;obtain⟨b,q,l,hp,W,Z,u,D,v⟩:=hx;have K:=D;unfold aK at K;obtain⟨a,rfl,hL⟩:=K;rw[eD] at hL;have C:=iB _ _ Z;unfold V.cells at C;simp only at C;have j:(sh.take f).length=f:=by
     rw[Dv];have:0<m:=by omega
     have:f≤m*f:=Nat.le_mul_of_pos_left _ this;omega
    have hcl:(chunks ag f m z).length=m:=by
     have: ∀(m:Nat) (z:af),(chunks ag f m z).length=m:=by
      intro m;induction m with
      |zero=>intro z;rfl
      |succ m ih=>intro z;unfold chunks;rw[fQ,ih]
     exact this m z
    have hE:=om (sh:=sh.take f) (ag:=ag) (by rw[j];exact Y) m z a hL (by rw[j];omega) (by rw[j];exact H) (by rw[j];exact U);rw[j] at hE;have s:=yc (xs:=chunks ag f m z) d (by rw[hcl];exact c);obtain⟨T,u,G,A⟩:=vW _ _ hE _ _ s;refine aX R (u:=.pointer (some ⟨b,q+n.toNat*f,none⟩)) ?_ ?_
    ·rw[hp,Q]
     simp[Instr.indexAt,asIntOf,run_underlying I,d,c,Instr.sureAddr,dA J,Addr.add_mid]
    ·rw[gM]
     refine⟨b,q+n.toNat*f,l,rfl,W,T,u,G,?_⟩;rw[pG] at v;rw[j] at A⊢;rw[←A,←v,←Kk];rw[acW,acV];congr 1
     have:f≤sh.length-n.toNat*f:=by
      have S:n.toNat+1≤m:=by omega
      have h3:=MF f S;rw[xG,UM] at h3;omega
     omega
   ·cases h
  ·cases h
 ·cases h
theorem VB {l:ah} {i:Int} (c:0≤i) (b:i<l.length):(⟨l.toArray⟩:ByteArray)[i.toNat]? =some (l.getD i.toNat 0):=by
 have a:i.toNat<l.length:=by omega
 have:i.toNat<(⟨l.toArray⟩:ByteArray).size:=by simpa[ByteArray.size] using a
 rw[getElem?_pos (⟨l.toArray⟩:ByteArray) i.toNat this];congr 1
 show l.toArray[i.toNat]=_;rw[sV,gP a];simp
theorem Jq {t:TypeId} {x i:Operand} {X:V} {k:IntKind} {n:Int} {eff:Eff} (c:o.op=.index t x i) (hx:aG g X (ρ x)) (e:ρ i=.int k n) (h:KG P t X n=some (true,eff)):Does P ρ o B w g bx eff:=by
 have f:execOp ρ o=(do pure (.value (←Instr.index t (ρ x) (ρ i)))):=by simp only[execOp,c]
 unfold KG at h;split at h
 ·rename_i l
  split at h
  ·rename_i d
   simp only[aI,bU] at h;obtain⟨j,rfl⟩:=h;obtain⟨a,b⟩:=aS j;have a:=dI a;have b:=vX b;unfold aF at b;rw[eT] at hx;refine aX f (u:=.int .u8 (sat l n)) ?_ (bH.2 rfl);rw[hx,e];simp only[Instr.index,asIntOf,Sem.run_bind,Sem.run_pure,Result.andThen_ok,run_underlying d,a,if_true,VB a b];rfl
  ·cases h
 ·cases h
theorem rR (l:ah):(⟨l.toArray⟩:ByteArray).size=l.length:=by simp[ByteArray.size]
theorem KN (l:ah) (a b:Int):(⟨l.toArray⟩:ByteArray).extract a.toNat b.toNat=⟨(bW l a b).toArray⟩:=by
 apply ByteArray.ext
 simp[bW,acW]
theorem rZ {y:Nat} {k:IntKind} {i:Int} {a:BoundsCode} (c:0≤i) (b:i≤y):(Instr.sliceBound (.int k i) y a).run P w=.ok i.toNat w:=by
 simp[Instr.sliceBound,asIntOf,c,b]
theorem Cx {isSl:Bool} {len cap:Nat} {f e:Option Value} {a b:Int} (j:(f=none∧a=0)∨ ∃k,f=some (.int k a)) (i:(e=none∧b=len)∨ ∃k,e=some (.int k b)) (h:0≤a) (n:a≤b) (g:b≤cap):
  (Instr.sliceBounds isSl len cap f e none).run P w=.ok (a.toNat,b.toNat,cap) w:=by
 unfold Instr.sliceBounds;have c:0≤b:=by omega
 have l:(b.toNat:Int)=b:=Int.toNat_of_nonneg c;have d:a≤(b.toNat:Int):=by omega
 rcases i with⟨rfl,i⟩|⟨o,rfl⟩<;>rcases j with⟨rfl,rfl⟩|⟨m,rfl⟩
 ·have:len=b.toNat:=by omega
  simp[this]
 ·have:len=b.toNat:=by omega
  simp[rZ h d,this]
 ·simp[rZ c g]
 ·simp[rZ c g,rZ h d]
theorem DL {t:TypeId} {l:ah} {c d:Option Value} {a b:Int} (f:P.underlying t=some .string) (g:(c=none∧a=0)∨ ∃k,c=some (.int k a)) (m:(d=none∧b=l.length)∨ ∃k,d=some (.int k b))
  (j:0≤a) (i:a≤b) (h:b≤l.length):(Instr.sliceAt t (.string ⟨l.toArray⟩) c d none).run P w=.ok (.string ⟨(bW l a b).toArray⟩) w:=by
 have e:(Instr.sliceAt t (.string ⟨l.toArray⟩) c d none).run P w=(Instr.slice t (.string ⟨l.toArray⟩) c d none).run P w:=by
  simp[Instr.sliceAt,run_underlying f]
 rw[e];simp only[Instr.slice,Sem.run_bind,run_underlying f,Result.andThen_ok,Option.isSome_none,Qx,HV,Sem.run_pure,
  Cx (P:=P) (w:=w) (isSl:=false) (len:=(⟨l.toArray⟩:ByteArray).size) (cap:=(⟨l.toArray⟩:ByteArray).size) g (by rw[rR];exact m) j i (by rw[rR];exact h),KN]
theorem DN {t e:TypeId} {p:Option Addr} {len cap f:Nat} {d c:Option Value} {a b:Int} (g:P.underlying t=some (.slice e)) (l:bX P e=some f) (m:(d=none∧a=0)∨ ∃k,d=some (.int k a)) (j:(c=none∧b=len)∨ ∃k,c=some (.int k b))
  (i:0≤a) (n:a≤b) (h:b≤cap):(Instr.sliceAt t (.slice p len cap) d c none).run P w=.ok (.slice (if cap=a.toNat then p else p.map (·.add (a.toNat*f))) (b.toNat-a.toNat) (cap-a.toNat)) w:=by
 have o:(Instr.sliceAt t (.slice p len cap) d c none).run P w=(Instr.slice t (.slice p len cap) d c none).run P w:=by
  simp[Instr.sliceAt,run_underlying g]
 rw[o];simp only[Instr.slice,Sem.run_bind,run_underlying g,Result.andThen_ok,Sem.run_pure,Cx (P:=P) (w:=w) (isSl:=true) (len:=len) (cap:=cap) m j i n h,dA l]
theorem VC {G:aJ} {e:Nat} {sh:List Kd} {k:Option Nat} {xs:af} {p:Option Addr} {len cap:Nat} {a b:Int} (h:aK G (.sl e sh k xs) (.slice p len cap)) (o:0≤a) (r:a≤b) (n:b≤xs.length):
  aK G (.sl e sh none (zT xs a b)) (.slice (if cap=a.toNat then p else p.map (·.add (a.toNat*sh.length))) (b.toNat-a.toNat) (cap-a.toNat)):=by
 unfold aK at h⊢;obtain⟨q,d,f,i,h⟩:=h;simp only[Value.slice.injEq] at f;obtain⟨rfl,rfl,rfl⟩:=f;have c:(zT xs a b).length=b.toNat-a.toNat:=by unfold zT;simp;omega
 refine⟨_,cap-a.toNat,by rw[c],by rw[c];omega,?_⟩;rcases h with h|⟨j,off,l,rfl,m,hE⟩
 ·refine .inl ?_
  rw[h];unfold zT;simp
 ·by_cases g:zT xs a b=[]
  ·exact .inl g
  ·refine .inr ⟨j,off+a.toNat*sh.length,l,?_,m,?_⟩
   ·have: ¬cap=a.toNat:=by
     intro s;apply g
     apply UJ
     rw[c];omega
    rw[if_neg this,sW,Addr.add_mid]
   ·rw[←Kk]
    unfold zT;exact Es _ _ _ (Er a.toNat xs _ hE)
theorem RJ {r:Operand→V} {ac:Act} (hE: ∀y,aG g (r y) (ac.eval y)) (a:Option Operand) (d:Int):
  (∀k n,a.map r=some (.int k n)→ ∃k,a.map ac.eval=some (.int k n))∧(a.map r=none→a.map ac.eval=none):=by
 cases a with
 |none=>exact⟨fun _ _ h=>(by cases h),fun _=>rfl⟩
 |some y=>
  refine⟨fun k n h=>?_,fun h=>?_⟩
  case refine_2=>cases h
  simp only[sW,aI] at h;have:=hE y;rw[h,bH] at this;exact⟨k,by rw[sW,this]⟩
theorem Jr {r:Operand→V} {ac:Act} {t:TypeId} {x:Operand} {F D:Option Operand} {eff:Eff} (ho:o.op=.slice t x F D none) (hE: ∀y,aG g (r y) (ac.eval y))
  (h:KH P t (r x) (F.map r) (D.map r)=some (true,eff)):Does P ac.eval o B w g bx eff:=by
 have he:execOp ac.eval o=(do pure (.value (←Instr.sliceAt t (ac.eval x) (F.map ac.eval) (D.map ac.eval) none))):=by simp only[execOp,ho,Option.map_none]
 have hx:=hE x;obtain⟨W,Q⟩:=RJ hE F 0;obtain⟨S,O⟩:=RJ hE D 0;unfold KH at h;split at h
 ·rename_i l L
  rw[L,eT] at hx;have c: ∀a b:Int,P.underlying t=some .string→((F.map ac.eval=none∧a=0)∨ ∃k,F.map ac.eval=some (.int k a))→((D.map ac.eval=none∧b=l.length)∨ ∃k,D.map ac.eval=some (.int k b))→0≤a→a≤b→b≤l.length→Does P ac.eval o B w g bx (.val (.str (bW l a b))):=by
   intro a b i ha Y T U X;refine aX he (u:=.string ⟨(bW l a b).toArray⟩) ?_ (eT.2 rfl);rw[hx];exact DL i ha Y T U X
  split at h
  ·rename_i k a k' b i f d
   simp only[aI,bU] at h;obtain⟨v,rfl⟩:=h;obtain⟨K,J⟩:=aS v;obtain⟨A,s⟩:=aS K;obtain⟨c3,c4⟩:=aS J;exact c a b i (.inr (W _ _ f)) (.inr (S _ _ d)) (dI c3) (dI c4) (dI s)
  ·rename_i k' b i f d
   simp only[aI,bU] at h;obtain⟨v,rfl⟩:=h;obtain⟨A,s⟩:=aS v;exact c 0 b i (.inl ⟨Q f,rfl⟩) (.inr (S _ _ d)) (Xm _) (dI A) (dI s)
  ·rename_i k a i f d
   simp only[aI,bU] at h;obtain⟨v,rfl⟩:=h;obtain⟨A,s⟩:=aS v;exact c a (aF l) i (.inr (W _ _ f)) (.inl ⟨O d,rfl⟩) (dI A) (dI s) (Xm _)
  ·rename_i i f d
   simp only[ok,aI,bU,jw] at h;subst h;have:=c 0 l.length i (.inl ⟨Q f,rfl⟩) (.inl ⟨O d,rfl⟩) (Xm _) (by omega) (Xm _);have e:bW l 0 (l.length:Int)=l:=by unfold bW;simp
   rwa [e] at this
  ·cases h
 ·rename_i e sh ow xs L
  rw[L] at hx;have M:=jI hx;have j:=M;unfold aK at j;obtain⟨p,cap,hv,hcap,_⟩:=j;rw[hv] at M;split at h
  ·cases h
  ·rename_i e' Z
   have i:=qc Z;split at h
   ·cases h
   ·rename_i n hs
    have hh:=aC h;clear h;obtain⟨hn,h⟩:=hh;obtain rfl:n=sh.length:=by simpa using hn
    clear hn;have c: ∀a b:Int,((F.map ac.eval=none∧a=0)∨ ∃k,F.map ac.eval=some (.int k a))→((D.map ac.eval=none∧b=xs.length)∨ ∃k,D.map ac.eval=some (.int k b))→0≤a→a≤b→b≤xs.length→Does P ac.eval o B w g bx (.val (.sl e sh none (zT xs a b))):=by
     intro a b ha Y T U X;refine aX he (u:=.slice (if cap=a.toNat then p else p.map (·.add (a.toNat*sh.length))) (b.toNat-a.toNat) (cap-a.toNat)) ?_ (VC M T U X);rw[hv];exact DN i hs ha Y T U (by omega)
    split at h
    ·rename_i k a k' b f d
     simp only[aI,bU] at h;obtain⟨v,rfl⟩:=h;obtain⟨K,J⟩:=aS v;obtain⟨A,s⟩:=aS K;obtain⟨c3,c4⟩:=aS J;exact c a b (.inr (W _ _ f)) (.inr (S _ _ d)) (dI c3) (dI c4) (dI s)
    ·rename_i k' b f d
     simp only[aI,bU] at h;obtain⟨v,rfl⟩:=h;obtain⟨A,s⟩:=aS v;exact c 0 b (.inl ⟨Q f,rfl⟩) (.inr (S _ _ d)) (Xm _) (dI A) (dI s)
    ·rename_i k a f d
     simp only[aI,bU] at h;obtain⟨v,rfl⟩:=h;obtain⟨A,s⟩:=aS v;exact c a (aM xs) (.inr (W _ _ f)) (.inl ⟨O d,rfl⟩) (dI A) (dI s) (Xm _)
    ·rename_i f d
     simp only[ok,aI,bU,jw] at h;subst h;have:=c 0 xs.length (.inl ⟨Q f,rfl⟩) (.inl ⟨O d,rfl⟩) (Xm _) (by omega) (Xm _);have e:zT xs 0 (xs.length:Int)=xs:=by unfold zT;simp
     rwa [e] at this
    ·cases h
 ·rename_i sh G L
  rw[L,gM] at hx;split at h
  ·rename_i m e i f d
   split at h
   ·rename_i C ag hs hag
    have hh:=aC h;clear h;obtain⟨hm,h⟩:=hh;simp only[bL,ig] at hm;obtain⟨⟨⟨⟨hm1,I⟩,H⟩,hm3⟩,hm4⟩:=hm;have I:0<C:=by simpa[A9] using I
    have H:0<m:=by simpa[A9] using H
    simp only[ok,aI,bU,jw] at h;subst h;obtain⟨b,q,l,hp,hG,hf,u,M,N⟩:=hx;have j:=M;unfold aK at j;obtain⟨a,rfl,hL⟩:=j;rw[eD] at hL;have E:=iB _ _ hf;unfold V.cells at E;simp only at E;have z:(sh.take C).length=C:=by
     rw[Dv];have:C≤m*C:=Nat.le_mul_of_pos_left _ H;omega
    have R:(chunks ag C m G).length=m:=by
     have: ∀(m:Nat) (G:af),(chunks ag C m G).length=m:=by
      intro m;induction m with
      |zero=>intro G;rfl
      |succ m ih=>intro G;unfold chunks;rw[fQ,ih]
     exact this m G
    have hE:=om (sh:=sh.take C) (ag:=ag) (by rw[z];exact hm3) m G a hL (by rw[z];omega) (by rw[z];exact I) (by rw[z];exact hm4);rw[z] at hE;rw[pG] at N;refine aX he (u:=.slice (some ⟨b,q,none⟩) m m) ?_ ?_
    ·rw[hp,Q f,O d]
     have hm': ¬m=0:=by omega
     simp[Instr.sliceAt,run_underlying i,Instr.sureAddr,Instr.sliceBounds,dA hs,hm',Addr.add_mid]
    ·refine bI rfl ?_
     unfold aK;refine⟨some ⟨b,q,none⟩,m,by rw[R],by rw[R];exact iI _,.inr ⟨b,q,l,rfl,hG,?_⟩⟩;exact gL (.refl _) _ _ _ _ hE (by rw[←N];exact List.take_prefix _ _)
   ·cases h
  ·cases h
 ·cases h
theorem OV {t:TypeId} {x:Operand} {X:V} {c:Call} {eff:Eff} (s:o.op=.call c) (q:c.callee=.builtin .len) (j:c.argTypes.toList=[t]) (m:c.args.toList=[x]) (hx:aG g X (ρ x)) (h:Yx P t X=some (true,eff)):Does P ρ o B w g bx eff:=by
 obtain⟨callee,args,argTypes⟩:=c;simp only at q j m;subst q;obtain rfl:args= #[x]:=by rw[←Hz];simpa using m
 obtain rfl:argTypes= #[t]:=by rw[←Hz];simpa using j
 have a: ∀u,(Builtin.len_ #[t] o.type #[ρ x]).run P w=.ok u w→(execOp ρ o).run P w=.ok (.value u) w:=by
  intro u d;simp[execOp,s,resolve,invoke,builtin,d]
 unfold Yx at h;split at h
 ·rename_i l d
  simp only[ok,aI,bU,jw] at h;subst h;rw[eT] at hx;exact⟨_,a (.int .i64 (aF l)) (by rw[hx];simp[Builtin.len_,run_underlying d,goInt,aF,rR]),bH.2 rfl⟩
 ·rename_i r e sh z xs d
  simp only[ok,aI,bU,jw] at h;subst h;have k:=jI hx;unfold aK at k;obtain⟨p,cap,f,_⟩:=k;exact⟨_,a (.int .i64 (aM xs)) (by rw[f];simp[Builtin.len_,run_underlying d,goInt,aM]),bH.2 rfl⟩
 ·rename_i e d
  simp only[ok,aI,bU,jw] at h;subst h;rw[gZ] at hx;exact⟨_,a (.int .i64 0) (by rw[hx];simp[Builtin.len_,run_underlying d,goInt]),bH.2 rfl⟩
 ·rename_i r L e sh xs o2 i c y v ys d
  simp only[ok,aI,bU,jw] at h;subst h;obtain⟨l,_,_,⟨f,_⟩,_⟩:=lg.1 hx;obtain⟨p,cap,f⟩: ∃p cap,ρ x=.slice p xs.length cap:=by
   rcases f with⟨f,rfl⟩|⟨b,cap,f⟩
   ·exact⟨_,_,f⟩
   ·exact⟨_,_,f⟩
  exact⟨_,a (.int .i64 (aM xs)) (by rw[f];simp[Builtin.len_,run_underlying d,goInt,aM]),bH.2 rfl⟩
 ·rename_i n e d
  simp only[ok,aI,bU,jw] at h;subst h;exact⟨_,a (.int .i64 n) (by simp[Builtin.len_,run_underlying d,goInt]),bH.2 rfl⟩
 ·cases h
theorem DR {x:Operand} {i:Nat} {vs:af} (e:o.op=.extract x i) (hx:aG g (.tup vs) (ρ x)) (h:i<vs.length) (c:(match vs.getD i .any with| .tup _=>false| .fn _ _=>false|_=>true)=true):Does P ρ o B w g bx (.val (vs.getD i .any)):=by
 have j:execOp ρ o=(do pure (.value (←Instr.extract (ρ x) i))):=by simp only[execOp,e]
 obtain⟨a,k,b⟩:=hx;obtain⟨u,f,d⟩:=b.get (getD_some h);refine aX j (u:=u) ?_ ?_
 ·rw[k]
  simp[Instr.extract,f]
 ·generalize vs.getD i .any=y at d c
  cases y with
  |tup _=>cases c
  |fn _ _=>cases c
  |_=>simp only[aG];exact d
end
section
variable {P:Program} {ρ:Operand→Value} {o:Oper} {B:Own} {w:World} {g:Gh} {bx:List (Nat×af)}
def upd (G:aJ) (b:Nat) (l:List Value):aJ:=fun k=>if k=b then some l else G k
theorem upd_same (G:aJ) (b:Nat) (l:List Value):upd G b l b=some l:=by simp[upd]
theorem fU (G:aJ) (b k:Nat) (l:List Value) (h:k≠b):upd G b l k=G k:=by simp[upd,h]
theorem eU {G:aJ} (d:vk G w) {b:Nat} {l:List Value} (h:G b=some l):b<w.heap.size:=by
 obtain⟨c,e,fr,a,_⟩:=d b l h;exact(Array.getElem?_eq_some_iff.1 a).1
theorem Gy {G:aJ} (a:vk G w) (l:List Value):jP G (upd G w.heap.size l):=by
 intro b m h;have:=eU a h;exact⟨m,by rw[fU _ _ _ _ (by omega)];exact h,Kn _⟩
theorem M7 {G:aJ} (a:vk G w) {w':World} {c:Array Value} {e:TypeId} {fr:Nat×Nat} (hB:Below w.heap.size w w') (f:w'.heap[w.heap.size]? =some (.cells c e fr)) (n:Nat) (j:n≤c.size):
  New w w' G (upd G w.heap.size (c.toList.take n)):=by
 refine⟨hB,fun b p=>fU _ _ _ _ (by omega),?_⟩;intro b l h;by_cases d:b=w.heap.size
 ·subst d
  rw[upd_same] at h;simp only[aI] at h;subst h;refine⟨c,e,fr,f,?_⟩;have k:c.toList.length=c.size:=by simp
  rw[Dv,k,acy j]
 ·rw[fU _ _ _ _ d] at h
  obtain⟨g,o,fr',m,i⟩:=a b l h;exact⟨g,o,fr',by rw[hB.block b (eU a h)];exact m,i⟩
theorem iZ (w:World) (o:Obj):Below w.heap.size w (w.alloc o):=(Below.refl _ _).alloc (iI _) o
theorem gT {t e:TypeId} {sh:List Kd} {z:V} (h:elemOf P t=some (e,sh,z)):P.underlying t=some (.slice e)∧ ∃i a,P.info? e=some i∧i.zero=some a∧z=nO a∧sh=fE P 8 e∧i.size=sh.length∧0<sh.length∧a.cells.size=sh.length∧i.bytes≤8388608∧fG sh z=true:=by
 unfold elemOf at h;split at h
 ·cases h
 ·rename_i n f
  split at h
  ·cases h
  ·rename_i i d
   split at h
   ·cases h
   ·rename_i a l
    have c:=aC h;clear h;obtain⟨b,h⟩:=c;simp only[aI,bU] at h;obtain⟨rfl,rfl,rfl⟩:=h;simp only[bL,ig,A9] at b;obtain⟨⟨⟨⟨j,m⟩,h3⟩,g⟩,k⟩:=b;exact⟨qc f,i,a,d,l,rfl,rfl,j,by omega,by omega,UY g,k⟩
theorem lV {G:aJ} {e:Nat} {sh:List Kd} {xs:af} {cap:Nat} {c:Array Value} {w':World} (f:vk G w) (hB:Below w.heap.size w w') (d:w'.heap[w.heap.size]? =some (.cells c e (0,0))) (h:0<sh.length)
  (a:xs.length≤cap) (i:cap≤maxLen) (g:c.size=cap*sh.length) (hE:bM G sh xs (c.toList.take (xs.length*sh.length))):
  ∃G',New w w' G G'∧gJ G' w' (w.heap.size≤ ·) e sh xs (.slice (some ⟨w.heap.size,0,none⟩) xs.length cap):=by
 have b:xs.length*sh.length≤c.size:=by rw[g];exact MF _ a
 refine⟨_,M7 f hB d (xs.length*sh.length) b,h,.inr ⟨w.heap.size,cap,c,_,rfl,iI _,d,a,i,g,upd_same _ _ _,?_,?_⟩⟩
 ·have j:c.toList.length=c.size:=by simp
  rw[Dv,j];omega
 ·exact gL (Gy f _) sh xs _ _ hE (Kn _)
theorem Js {t:TypeId} {l c:Operand} {L C:V} {eff:Eff} (W:o.op=.makeSlice t l c) (hG:vk g.G w) (hl:aG g L (ρ l)) (O:aG g C (ρ c)) (h:Ra P t L C=some (true,eff)):Does P ρ o B w g bx eff:=by
 have he:execOp ρ o=(do pure (.value (←Instr.makeSlice t (ρ l) (ρ c)))):=by simp only[execOp,W]
 unfold Ra at h;split at h
 ·rename_i n m e sh z y
  simp only[aI,bU] at h;obtain⟨J,rfl⟩:=h;obtain⟨D,I⟩:=aS J;obtain⟨F,M⟩:=aS I;have D:=dI D;have F:=dI F;have M:=dI M;obtain⟨Z,i,a,hi,U,rfl,_,s,Q,H,X,d⟩:=gT y;rw[bH] at hl O;have q:m≤9223372036854775807:=by omega
  have v:m.toNat*i.size≤m.toNat*i.size:=iI _;have f:(i.bytes:Int)*m≤281474976710656:=by
   have S:(i.bytes:Int)≤8388608:=by omega
   calc (i.bytes:Int)*m≤8388608*m:=Int.mul_le_mul_of_nonneg_right S (by omega)
    _≤8388608*16777216:=by omega
    _≤281474976710656:=by decide
  have Y:=run_make (P:=P) w t e i a Z hi U .i64 .i64 n m D F f q;have u:(madeCells a.cells (m.toNat*i.size)).size=m.toNat*sh.length:=by rw[size_madeCells,s]
  have hE:bM g.G sh (xJ n (nO a)) ((madeCells a.cells (m.toNat*i.size)).toList.take ((xJ n (nO a)).length*sh.length)):=by
   have hx:nO a≠.any:=fun e=>by rw[e,jM] at d;cases d
   have E: ∀(k:Nat) (cells:List Value),k*sh.length≤cells.length→(∀j,j<k*sh.length→cells[j]? =some (a.cells[j%a.cells.size]!))→bM g.G sh (List.replicate k (nO a)) cells:=by
    intro k;induction k with
    |zero=>intro cells _ _;exact gH
    |succ k ih=>
     intro cells p x;have N:(k+1)*sh.length=sh.length+k*sh.length:=by rw[xG,UM,X9]
     rw[List.replicate_succ];unfold bM;refine⟨d,⟨a,qQ _ _,?_⟩,ih _ (by rw[xB];omega) ?_⟩
     ·apply acG
      intro j;rw[Ki];by_cases r:j<sh.length
      ·rw[if_pos r,x j (by omega),Nat.mod_eq_of_lt (by omega)]
       have:j<a.cells.size:=by omega
       simp[this]
      ·rw[if_neg r,ZA (by simp;omega)]
     ·intro j R
      rw[Hy,x _ (by omega),H,Nat.add_mod_left]
   have p:n.toNat≤m.toNat:=by omega
   have b:(xJ n (nO a)).length=n.toNat:=by unfold xJ;simp
   rw[b];refine E n.toNat _ ?_ ?_
   ·have N:(madeCells a.cells (m.toNat*i.size)).toList.length=m.toNat*sh.length:=by rw[←u];simp
    rw[Dv,N];have:=MF sh.length p;omega
   ·intro j x
    rw[Ki,if_pos x];have K:j<m.toNat*i.size:=by
     have:=MF sh.length p;rw[s];omega
    simp[madeCells,K]
  have b:(xJ n (nO a)).length=n.toNat:=by unfold xJ;simp
  have A:=fun hE=>lV (e:=e) (sh:=sh) (xs:=xJ n (nO a)) (cap:=m.toNat) (c:=madeCells a.cells (m.toNat*i.size)) hG (iZ w (.cells (madeCells a.cells (m.toNat*i.size)) e)) (heap_alloc_new w _) Q (by rw[b];omega) (by unfold maxLen;omega) u hE
  obtain⟨G',hN,T⟩:=A hE;refine⟨_,_,G',?_,hN,T⟩;rw[he,hl,O,b];simp only[Sem.run_bind,Y,Result.andThen_ok,Sem.run_pure]
 ·cases h
theorem Cy: ∀(vs:List Value) (cells:Array Value) (off k:Nat),off+k+vs.length≤cells.size→
  ((vs.zipIdx k).foldl (fun a (x:Value×Nat)=>a.setIfInBounds (off+x.2) x.1) cells).toList=cells.toList.take (off+k)++vs++cells.toList.drop (off+k+vs.length)
 |[],cells,off,k,h=>by simp
 |v::vs,cells,off,k,h=>by
  simp only[fQ] at h;rw[List.zipIdx_cons,List.foldl_cons,Cy vs _ off (k+1) (by simp;omega)];simp only[Zy];have b:off+k<cells.toList.length:=by simp;omega
  rw[show off+(k+1)=off+k+1 by omega,acH,abU b,List.take_set_of_le (iI _),List.drop_set_of_lt (by omega)];simp only[Option.toList_some,fQ];rw[show off+k+1+vs.length=off+k+(vs.length+1) by omega];simp
theorem M8 {R:V→Value→Prop} {b vs:af} {us a:List Value} (h:PW R b us) (k:PW R vs a) (off:Nat):PW R (over b off vs) (us.take off++a++us.drop (off+a.length)):=by
 unfold over;rw[←k.1];exact((h.take off).append k).append (h.drop _)
theorem qd {G:aJ} {n:Nat→Option (Nat×Nat)}: ∀(g:List (Nat×V)) (d:List (Nat×Value)) (m out:af) (cells:Array Value),g.map (·.1)=d.map (·.1)→(∀(i:Nat) (x:V) (v:Value),(g[i]?).map (fun(p:Nat×V)=>p.2)=some x→(d[i]?).map (fun(p:Nat×Value)=>p.2)=some v→ ∀y,x.deep=some y→aK G y v)→
  PW (aK G) m cells.toList→tC n m g=some out→ ∃k,Instr.fill n cells d=some k∧PW (aK G) out k.toList
 |[],d,m,out,cells,q,_,z,h=>by
  cases d with
  |nil=>simp only[tC,aI] at h;subst h;exact⟨cells,rfl,z⟩
  |cons x l=>simp at q
 |(i,x)::u,d,m,out,cells,q,K,z,h=>by
  cases d with
  |nil=>simp at q
  |cons y l=>
   obtain⟨S,v⟩:=y;simp only[Aj,U2] at q;obtain⟨rfl,q⟩:=q;simp only[tC] at h;split at h
   ·rename_i off size E B w
    have O:=aC h;clear h;obtain⟨L,h⟩:=O;simp only[bL,ig] at L;obtain⟨Q,r⟩:=L;have r:=UY r;have t:=K 0 x v rfl rfl E w;have A:E≠.any:=by
     intro e;subst e;have:=iV w
     cases x with
     |fn f c=>cases c<;>simp[V.deep] at w
     |_=>simp[V.deep] at w
    obtain⟨hl,C⟩:=kE t A;have P:v.cells.size=size:=by omega
    have I:off+v.cells.size≤cells.size:=by
     have J:=z.1;have R:cells.toList.length=cells.size:=by simp
     omega
    have D:((v.cells.toList.zipIdx 0).foldl (fun m (x:Value×Nat)=>m.setIfInBounds (off+x.2) x.1) cells).toList=cells.toList.take off++v.cells.toList++cells.toList.drop (off+v.cells.toList.length):=by
     have:=Cy v.cells.toList cells off 0 (by simpa using I);simpa using this
    have o:v.cells.zipIdx.foldl (fun m (x:Value×Nat)=>m.setIfInBounds (off+x.2) x.1) cells=(v.cells.toList.zipIdx 0).foldl (fun m (x:Value×Nat)=>m.setIfInBounds (off+x.2) x.1) cells:=by
     rw[←Array.foldl_toList];simp
    have F:PW (aK G) (over m off E.cells) (v.cells.zipIdx.foldl (fun m (x:Value×Nat)=>m.setIfInBounds (off+x.2) x.1) cells).toList:=by
     rw[o,D];exact M8 z C off
    obtain⟨k,N,H⟩:=qd u l _ out _ q (fun j a b J M=>K (j+1) a b J M) F h;refine⟨k,?_,H⟩;unfold Instr.fill;rw[B];simp only;split
    ·rename_i s
     exfalso;simp at s;omega
    ·exact N
   ·cases h
end
section
variable {P:Program} {ρ:Operand→Value} {o:Oper} {B:Own} {w:World} {g:Gh} {bx:List (Nat×af)}
theorem Iu {t:TypeId} {arr:List Value} {off n:Nat} (b:bE P t=some true) (a:bX P t=some n):(part t arr.toArray off).run P w=.ok (.agg ((arr.drop off).take n).toArray) w:=by
 simp only[part,Sem.run_bind,kL b,Result.andThen_ok,if_true,dA a,Sem.run_pure];have e:arr.toArray.extract off (off+n)=(List.take n (List.drop off arr)).toArray:=by
  rw[←Hz];simp
 rw[e]
theorem B5 {t:TypeId} {arr:List Value} {off:Nat} {v:Value} (a:bE P t=some false) (b:arr[off]? =some v):(part t arr.toArray off).run P w=.ok v w:=by
 simp[part,kL a,b]
def YF (P:Program) (t:TypeId) (us:List Value) (u:Value):Prop:=(bE P t=some true∧u=.agg us.toArray)∨(bE P t=some false∧us=[u])
theorem Et {t:TypeId} {arr:List Value} {off n:Nat} {b:Bool} (d:bE P t=some b) (g:bX P t=some n) (a:b=false→((arr.drop off).take n).length=1):
  ∃u,(part t arr.toArray off).run P w=.ok u w∧YF P t ((arr.drop off).take n) u:=by
 cases b with
 |true=>exact⟨_,Iu d g,.inl ⟨d,rfl⟩⟩
 |false=>
  have a:=a rfl
  cases e:(arr.drop off).take n with
  |nil=>rw[e] at a;cases a
  |cons u f=>
   cases f with
   |cons _ _=>rw[e] at a;simp at a
   |nil=>
    refine⟨u,B5 d ?_,.inr ⟨d,rfl⟩⟩;have c:((arr.drop off).take n)[0]? =some u:=by rw[e];rfl
    rw[Ki] at c;split at c
    ·rw[Hy,Oq] at c;exact c
    ·cases c
theorem SA {m:Nat} {t:TypeId} {xs ys:af} {c:Bool} (h:UN P m t xs ys=some c): ∃b,bE P t=some b∧(b=false→xs.length=1∧ys.length=1):=by
 cases m with
 |zero=>cases h
 |succ m=>
  unfold UN at h;unfold bE;split at h
  ·rename_i a
   rw[a];refine⟨false,rfl,fun _=>?_⟩;split at h
   ·exact⟨rfl,rfl⟩
   ·cases h
  ·rename_i k a
   rw[a];refine⟨false,rfl,fun _=>?_⟩;split at h
   ·exact⟨rfl,rfl⟩
   ·cases h
  ·rename_i a
   rw[a];refine⟨false,rfl,fun _=>?_⟩;split at h
   ·exact⟨rfl,rfl⟩
   ·cases h
  ·rename_i d a
   rw[a];exact⟨true,rfl,fun h=>by cases h⟩
  ·rename_i k e a
   rw[a];exact⟨true,rfl,fun h=>by cases h⟩
  ·cases h
def Vo (P:Program) (w:World) (m d:Nat):Prop:=∀(t:TypeId) (xs ys:af) (c:Bool),UN P m t xs ys=some c→ ∀(G:aJ) (us vs:List Value) (u v:Value),PW (aK G) xs us→PW (aK G) ys vs→YF P t us u→YF P t vs v→
 (Op.equalIn (d+m) t u v).run P w=.ok c w
theorem step_ok {m d:Nat} (q:Vo P w m d) {t:TypeId} {n off:Nat} {xs ys:af} {c:Bool} (j:bX P t=some n) (h:UN P m t ((xs.drop off).take n) ((ys.drop off).take n)=some c) {G:aJ} {us vs:List Value} (hx:PW (aK G) xs us) (l:PW (aK G) ys vs):
  ∃a b,(part t us.toArray off).run P w=.ok a w∧(part t vs.toArray off).run P w=.ok b w∧(Op.equalIn (d+m) t a b).run P w=.ok c w:=by
 obtain⟨b,i,k⟩:=SA h;have f:=(hx.drop off).take n;have g:=(l.drop off).take n;obtain⟨u,o,s⟩:=Et (w:=w) (arr:=us) (off:=off) i j (fun e=>by rw[←f.1];exact(k e).1);obtain⟨v,r,p⟩:=Et (w:=w) (arr:=vs) (off:=off) i j (fun e=>by rw[←g.1];exact(k e).2);exact⟨u,v,o,r,q t _ _ c h G _ _ u v f g s p⟩
theorem Cz {α:Type} {f:α→Option Bool} {a:α} {l:List α} {c:Bool} (h:allEq f (a::l)=some c): ∃p q,f a=some p∧allEq f l=some q∧c=(match p with|true=>q|false=>false):=by
 cases l with
 |nil=>
  simp only[allEq] at h;refine⟨c,true,h,rfl,?_⟩
  cases c<;>rfl
 |cons b l=>
  simp only[allEq] at h;split at h
  ·rename_i p q d e
   simp only[aI] at h;subst h;exact⟨p,q,d,e,rfl⟩
  ·cases h
theorem Eu {m d:Nat} (l:Vo P w m d) {xs ys:af} {G:aJ} {us vs:List Value} (hx:PW (aK G) xs us) (k:PW (aK G) ys vs): ∀(g:List Field) (c:Bool),
  allEq (fun f=>bif f.name== "_" then none else match bX P f.type with
    |some n=>UN P m f.type ((xs.drop f.offset).take n) ((ys.drop f.offset).take n)
    |none=>none) g=some c→(Op.eqFields (d+m) us.toArray vs.toArray g).run P w=.ok c w
 |[],c,h=>by
  simp only[allEq,aI] at h;subst h;rfl
 |f::g,c,h=>by
  obtain⟨p,q,e,o,rfl⟩:=Cz h;have h3:=Eu l hx k g q o
  cases j:f.name== "_" with
  |true=>rw[j] at e;cases e
  |false=>
   rw[j,gF] at e;have i:f.name≠ "_" :=by simpa using j
   split at e
   ·rename_i n t
    obtain⟨a,b,u,s,r⟩:=step_ok l t e hx k;simp only[Op.eqFields,i,ne_eq,not_false_eq_true,if_true,Sem.run_bind,u,s,r,Result.andThen_ok]
    cases p
    ·rfl
    ·simpa using h3
   ·cases e
theorem Iv {m d:Nat} (k:Vo P w m d) {e:TypeId} {n:Nat} (j:bX P e=some n) {xs ys:af} {G:aJ} {us vs:List Value} (hx:PW (aK G) xs us) (g:PW (aK G) ys vs): ∀(f:List Nat) (c:Bool),
  allEq (fun i=>UN P m e ((xs.drop (i*n)).take n) ((ys.drop (i*n)).take n)) f=some c→(Op.eqItems (d+m) e n us.toArray vs.toArray f).run P w=.ok c w
 |[],c,h=>by
  simp only[allEq,aI] at h;subst h;rfl
 |i::f,c,h=>by
  obtain⟨p,q,r,l,rfl⟩:=Cz h;have h3:=Iv k j hx g f q l;obtain⟨a,b,s,t,o⟩:=step_ok k j r hx g;simp only[Op.eqItems,Sem.run_bind,s,t,o,Result.andThen_ok]
  cases p
  ·rfl
  ·simpa using h3
theorem yg (d:Nat): ∀m,Vo P w m d
 |0=>fun t xs ys c h=>by cases h
 |m+1=>by
  intro t xs ys c h G us vs u v hx y j g;have I:=yg d m;show(Op.equalIn ((d+m)+1) t u v).run P w=.ok c w;unfold UN at h;split at h
  ·rename_i l
   have o:bE P t=some false:=by unfold bE;rw[l]
   split at h
   ·simp only[aI] at h
    subst h;obtain⟨D,C,rfl,b,q⟩:=hx.cons_inv;obtain⟨B,s',rfl,f,p⟩:=y.cons_inv;rw[q.bR] at j;rw[p.bR] at g;unfold aK at b f;rcases j with⟨a,_⟩|⟨_,j⟩
    ·rw[o] at a;cases a
    ·rcases g with⟨a,_⟩|⟨_,g⟩
     ·rw[o] at a;cases a
     ·simp only[U2,and_true] at j g
      rw[←j,←g,b,f];exact run_equalIn_bool' w _ t _ _ l
   ·cases h
  ·rename_i k l
   have o:bE P t=some false:=by unfold bE;rw[l]
   split at h
   ·have J:=aC h
    clear h;obtain⟨s,h⟩:=J;have z:=D7 s;clear s;subst z;simp only[aI] at h;subst h;obtain⟨D,C,rfl,b,q⟩:=hx.cons_inv;obtain⟨B,s',rfl,f,p⟩:=y.cons_inv;rw[q.bR] at j;rw[p.bR] at g;unfold aK at b f;rcases j with⟨a,_⟩|⟨_,j⟩
    ·rw[o] at a;cases a
    ·rcases g with⟨a,_⟩|⟨_,g⟩
     ·rw[o] at a;cases a
     ·simp only[U2,and_true] at j g
      rw[←j,←g,b,f];exact run_equalIn_int w _ t _ _ _ _ l
   ·cases h
  ·rename_i l
   have o:bE P t=some false:=by unfold bE;rw[l]
   split at h
   ·simp only[aI] at h
    subst h;obtain⟨D,C,rfl,b,q⟩:=hx.cons_inv;obtain⟨B,s',rfl,f,p⟩:=y.cons_inv;rw[q.bR] at j;rw[p.bR] at g;unfold aK at b f;rcases j with⟨a,_⟩|⟨_,j⟩
    ·rw[o] at a;cases a
    ·rcases g with⟨a,_⟩|⟨_,g⟩
     ·rw[o] at a;cases a
     ·simp only[U2,and_true] at j g
      rw[←j,←g,b,f,run_equalIn_string w _ t _ _ l,uM]
   ·cases h
  ·rename_i E l
   have o:bE P t=some true:=by unfold bE;rw[l]
   cases r:P.stoodInHeld t with
   |true=>rw[r] at h;cases h
   |false=>
    rw[r,gF] at h;rcases j with⟨_,rfl⟩|⟨a,_⟩
    ·rcases g with⟨_,rfl⟩|⟨a,_⟩
     ·have x:P.fieldsOf t=E:=by unfold Program.fieldsOf;rw[l]
      rw[run_equalIn_struct w _ t _ _ (by rw[x];exact l) r,x];exact Eu I hx y E.toList c h
     ·rw[o] at a;cases a
    ·rw[o] at a;cases a
  ·rename_i k e l
   have o:bE P t=some true:=by unfold bE;rw[l]
   split at h
   ·rename_i n F
    obtain⟨i,H,A⟩:=jJ F;rcases j with⟨_,rfl⟩|⟨a,_⟩
    ·rcases g with⟨_,rfl⟩|⟨a,_⟩
     ·have K:P.cellsOf e=n:=by simp[Program.cellsOf,H,A]
      rw[run_equalIn_array w _ _ _ l H,K];exact Iv I F hx y (List.range k) c h
     ·rw[o] at a;cases a
    ·rw[o] at a;cases a
   ·cases h
  ·cases h
theorem Lt {op:BinOp} {d r:TypeId} {x y:Operand} {X Y:V} {eff:Eff} (p:o.op=.binOp op d x y r) (hx:aG g X (ρ x)) (q:aG g Y (ρ y)) (h:Yw P op d X Y=some (true,eff))
  (b: ∀{eff:Eff},(bif KF P d X then Yv (Vh op X Y) else none)=some (true,eff)→Does P ρ o B w g bx eff):Does P ρ o B w g bx eff:=by
 have n:execOp ρ o=(do pure (.value (←(do eqGuard op d x y (ρ x) (ρ y);binOp op d (ρ x) (ρ y))))):=by simp only[execOp,p]
 unfold Yw at h;split at h
 ·rename_i m bs
  cases k:P.eqGuardType P.depth d with
  |true=>rw[k] at h;cases h
  |false=>
   rw[k,gF] at h;obtain⟨us,j,f⟩:=gK.1 hx;obtain⟨vs,i,e⟩:=gK.1 q;split at h
   ·rename_i c a l
    simp only[ok,aI,bU,jw] at h;subst h;have:=yg (P:=P) (w:=w) 9992 8 d m bs c l g.G us vs _ _ f e (.inl ⟨a,rfl⟩) (.inl ⟨a,rfl⟩);refine aX n (u:=.bool c) ?_ (bG.2 rfl);rw[j,i];simp only[Sem.run_bind,run_eqGuard_agg w _ _ _ _ _ _ k,Result.andThen_ok,run_eql_struct,this]
   ·rename_i c a l
    simp only[ok,aI,bU,jw] at h;subst h;have:=yg (P:=P) (w:=w) 9992 8 d m bs c l g.G us vs _ _ f e (.inl ⟨a,rfl⟩) (.inl ⟨a,rfl⟩);refine aX n (u:=.bool (aT c)) ?_ (bG.2 rfl);rw[j,i];simp only[Sem.run_bind,run_eqGuard_agg w _ _ _ _ _ _ k,Result.andThen_ok,run_neq_struct,this];rfl
   ·cases h
 ·exact b h
theorem DT {t:TypeId} {x i:Operand} {k off:Nat} {q:IntKind} {n:Int} {eff:Eff} (z:o.op=.indexAddr t x i) (hx:aG g (.box k off) (ρ x)) (E:ρ i=.int q n) (h:BQ P t k off n=some (true,eff)):Does P ρ o B w g bx eff:=by
 have F:execOp ρ o=(do pure (.value (←Instr.indexAt t (ρ x) (ρ i)))):=by simp only[execOp,z]
 unfold BQ at h;split at h
 ·rename_i m e C
  split at h
  ·rename_i l D
   obtain⟨I,h⟩:=aC h;simp only[aI,bU,jw] at h;subst h;obtain⟨b,r,y⟩:=dH.1 hx;intro j v G p;subst G;rw[rF] at p;obtain⟨H,a,rfl⟩:=Option.map_eq_some_iff.1 p;have c:j<m:=by
    have:=(List.getElem?_eq_some_iff.1 a).1;simpa using this
   rw[Z4 c] at a;simp only[aI] at a;subst a;obtain⟨u,d,f⟩:=(aX (B:=B) (bx:=bx) (v:=.box k (off+j*l)) F (u:=.pointer (some ⟨b,off+j*l,none⟩)) (by
    rw[y,E];have s:(j:Int)<(m:Int):=by omega
    simp[Instr.indexAt,asIntOf,run_underlying C,s,Instr.sureAddr,dA D,Addr.add_mid];intro A;exact absurd A (by omega)) (dH.2 ⟨b,r,rfl⟩):Does P ρ o B w g bx (.val (.box k (off+j*l))))
   exact⟨u,d,f⟩
  ·cases h
 ·cases h
theorem CB {ag:Bool} {a:Nat}: ∀(n:Nat) (b:af) (j:Nat) (v:V),(chunks ag a n b)[j]? =some v→j<n∧v=(match ag with|true=>V.agg ((b.drop (j*a)).take a)|false=>pY ((b.drop (j*a)).getD 0 .any))
 |0,b,j,v,h=>by simp[chunks] at h
 |n+1,b,j,v,h=>by
  unfold chunks at h
  cases j with
  |zero=>
   simp only[Dt,aI] at h;subst h;refine⟨by omega,?_⟩
   cases ag<;>simp
  |succ j=>
   simp only[ZZ] at h;obtain⟨d,c⟩:=CB n _ j v h;refine⟨by omega,?_⟩;rw[c];rw[Kk,show a+j*a=(j+1)*a by rw[xG];omega]
theorem OW {v:V} (h:v.one=true):v.plain=true∧pY v=v:=by
 cases v with
 |sl e sh a xs=>cases a<;>first|exact⟨rfl,rfl⟩|cases h
 |any=>cases h
 |agg _=>cases h
 |tup _=>cases h
 |box _ _=>cases h
 |eptr _ _ _ _ _ _=>cases h
 |fn _ _=>cases h
 |bxa _ _=>cases h
 |out _ _ _=>cases h
 |sK _ _ _=>cases h
 |old _=>cases h
 |slz _ _ _ _ _ _ _ _ _ _=>cases h
 |epz _ _ _ _ _=>cases h
 |keep _ _=>cases h
 |_=>exact⟨rfl,rfl⟩
theorem Ew {g:Gh} {x:V} {u:Value} (hx:FK x=true) (h:bA g x u):u.cells= #[u]∧u.oneCell'=true:=by
 cases x with
 |box k off=>obtain⟨b,_,rfl⟩:=h;exact⟨rfl,rfl⟩
 |_=>cases hx
theorem B6: ∀(a:List (Nat×Value)) (k:Nat) (cells:Array Value),(∀(i:Nat) (p:Nat×Value),a[i]? =some p→p.1=k+i∧p.2.cells= #[p.2])→cells.size=k+a.length→
  Instr.fill (fun i=>some (i*1,1)) cells a=some (cells.toList.take k++a.map (·.2)).toArray
 |[],k,cells,_,d=>by
  simp only[Instr.fill,List.map_nil,On,aI];rw[←Hz];rw[nN,Oq] at d;show cells.toList=cells.toList.take k;rw[Hw (by rw[Ai];omega)]
 |p::a,k,cells,h,d=>by
  obtain⟨e,f⟩:=h 0 p rfl;rw[Oq] at e;rw[fQ] at d;obtain⟨i,v⟩:=p;simp only at e f;subst e;unfold Instr.fill;simp only[f];rw[if_neg (by simp;omega)];have l:((#[v]:Array Value).zipIdx.foldl (fun m (c,j)=>m.setIfInBounds (i*1+j) c) cells)=cells.setIfInBounds i v:=by simp[Array.zipIdx]
  rw[l,B6 a (i+1) (cells.setIfInBounds i v) (fun j p g=>by
   have:=h (j+1) p (by simpa using g);exact⟨by omega,this.2⟩) (by simp;omega)]
  congr 2
  rw[Zy,Aj];have b:i<cells.toList.length:=by rw[Ai];omega
  rw[Z9,List.take_succ_eq_append_getElem b,List.set_append_right _ _ (by rw[Dv];omega),Kj];have:(cells.toList.take i).length=i:=by rw[Dv];omega
  simp[this]
theorem yh: ∀(a:List (Nat×V)) (k:Nat),QY k a=true→ ∀(i:Nat) (p:Nat×V),a[i]? =some p→p.1=k+i
 |[],_,_,i,p,h=>by simp at h
 |q::a,k,h,i,p,b=>by
  unfold QY at h;rw[bL,ig] at h
  cases i with
  |zero=>
   simp only[Dt,aI] at b;subst b;rw[Oq];exact h.1
  |succ i=>
   have:=yh a (k+1) h.2 i p (by simpa using b);omega
theorem Lu {r:Operand→V} {ac:Act} {t:TypeId} {a:Array (Nat×Operand)} {vs:af} (N:o.op=.build t a) (hE: ∀y,aG g (r y) (ac.eval y))
  (h:Yz P t (a.toList.map fun(i,x)=>(i,r x))=some vs):Does P ac.eval o B w g bx (.val (.fn ul vs)):=by
 have T:execOp ac.eval o=(do pure (.value (←Instr.build t (a.map fun(i,x)=>(i,ac.eval x))))):=by simp only[execOp,N]
 unfold Yz at h;split at h
 ·rename_i i n e R O
  split at h
  ·rename_i z m M Q
   obtain⟨J,h⟩:=aC h;simp only[aI] at h;subst h;simp only[bL,ig] at J;obtain⟨⟨⟨⟨⟨rfl,S⟩,F⟩,C⟩,l⟩,c⟩:=J;have C:0<n:=by simpa[A9] using C
   rw[xC,Ai] at F;rw[ko] at c;have s:PW (bA g) ((a.toList.map fun(i,x)=>(i,r x)).map fun p=>p.2) (a.toList.map fun p=>ac.eval p.2):=⟨by simp,fun j x v hx D=>by
    simp only[rF] at hx D
    cases b:a.toList[j]? with
    |none=>rw[b] at hx;cases hx
    |some p=>
     obtain⟨q,y⟩:=p;rw[b] at hx D;simp only[sW,aI] at hx D;subst hx;subst D;have A:=c (q,r y) (List.mem_map.2 ⟨(q,y),Dp b,rfl⟩);have:=hE y;simp only at A
     cases I:r y with
     |box k off=>rw[I] at this;exact this
     |_=>rw[I] at A;cases A⟩
   have d:Instr.fill (fun i=>some (i*1,1)) z (a.toList.map fun p=>(p.1,ac.eval p.2))=some (a.toList.map fun p=>ac.eval p.2).toArray:=by
    rw[B6 _ 0 z (fun j p f=>?_) (by rw[MG,xC,Ai];omega)]
    ·simp
    ·simp only[rF] at f
     cases b:a.toList[j]? with
     |none=>rw[b] at f;cases f
     |some q=>
      rw[b] at f;simp only[sW,aI] at f;subst f;have L:=yh _ 0 l j (q.1,r q.2) (by rw[rF,b];rfl);have K:=s.2 j (r q.2) (ac.eval q.2) (by rw[rF,rF,b];rfl) (by rw[rF,b];rfl);have A:=c (q.1,r q.2) (List.mem_map.2 ⟨q,Dp b,rfl⟩);exact⟨L,(Ew A K).1⟩
   have E:(a.toList.map fun p=>ac.eval p.2)≠[]:=fun e=>by
    have:=congrArg List.length e;rw[xC,Ai,nN] at this;omega
   refine aX T (u:=.agg (a.toList.map fun p=>ac.eval p.2).toArray) ?_ ⟨_,(Io E).symm,s⟩;have G:(zeroValue t).run P w=.ok (.agg z) w:=by simp[zeroValue,typeInfo,R,M]
   have H:(a.map fun(i,x)=>(i,ac.eval x)).toList=a.toList.map fun p=>(p.1,ac.eval p.2):=by simp
   simp only[Instr.build,Sem.run_bind,G,Result.andThen_ok,run_underlying O,dA Q,Value.cells,H,d,Sem.run_pure]
  ·cases h
 ·cases h
theorem Dg {t:TypeId} {x i:Operand} {vs:af} {q:IntKind} {n:Int} {eff:Eff} (M:o.op=.index t x i) (hx:aG g (.fn ul vs) (ρ x)) (R:ρ i=.int q n) (D:vs.all FK=true) (h:xX P t vs n=some (true,eff)):Does P ρ o B w g bx eff:=by
 have S:execOp ρ o=(do pure (.value (←Instr.index t (ρ x) (ρ i)))):=by simp only[execOp,M]
 unfold xX at h;split at h
 ·rename_i m e O
  split at h
  ·rename_i k Q s
   obtain⟨H,C⟩:=aC h;clear h;simp only[aI,bU,jw] at C;subst C;simp only[bL,ig] at H;obtain⟨⟨r,W⟩,d⟩:=H;subst r;have d:0<m:=by simpa[A9] using d
   obtain⟨a,G,c⟩:=hx;have A:a.length=vs.length:=c.1.symm;have p:a≠[]:=fun e=>by rw[e,nN] at A;omega
   rw[Io p] at G;intro j v T l;subst T;have I:j<vs.length:=(List.getElem?_eq_some_iff.1 l).1;have L:(j:Int)<(m:Int):=by omega
   have f:(Instr.index t (.agg a.toArray) (.int q (j:Int))).run P w=(part e a.toArray (j*1)).run P w:=by
    simp[Instr.index,asIntOf,run_underlying O,L,dA Q];intro N;exact absurd N (by omega)
   obtain⟨u,y,E⟩:=c.get l;have F:=Ew (List.all_eq_true.1 D v (Dp l)) E;have z:aG g v u:=by
    have:=List.all_eq_true.1 D v (Dp l)
    cases v with
    |box k off=>exact E
    |_=>cases this
   have b:(part e a.toArray (j*1)).run P w=.ok u w:=by
    rw[acN];exact B5 s y
   obtain⟨J,K,U⟩:Does P ρ o B w g bx (.val v):=aX S (u:=u) (by rw[G,R,f];exact b) z;exact⟨J,K,U⟩
  ·cases h
 ·cases h
theorem Dh {t:TypeId} {x i:Operand} {b:af} {q:IntKind} {n:Int} {eff:Eff} (O:o.op=.index t x i) (hx:aG g (.agg b) (ρ x)) (H:ρ i=.int q n) (h:xW P t b n=some (true,eff)):Does P ρ o B w g bx eff:=by
 have J:execOp ρ o=(do pure (.value (←Instr.index t (ρ x) (ρ i)))):=by simp only[execOp,O]
 unfold xW at h;split at h
 ·rename_i m e S
  split at h
  ·rename_i c ag G s
   obtain⟨I,h⟩:=aC h;simp only[bL,ig] at I;obtain⟨⟨⟨E,y⟩,C⟩,z⟩:=I;have y:0<c:=by simpa[A9] using y
   simp only[aI,bU,jw] at h;subst h;obtain⟨a,K,r⟩:=gK.1 hx;intro j v T U;subst T;obtain⟨L,rfl⟩:=CB _ _ _ _ U;have M:(j:Int)<(m:Int):=by omega
   have d:(Instr.index t (.agg a.toArray) (.int q (j:Int))).run P w=(part e a.toArray (j*c)).run P w:=by
    simp[Instr.index,asIntOf,run_underlying S,M,dA G];intro Q;exact absurd Q (by omega)
   rw[ko] at z
   cases ag with
   |true=>
    obtain⟨u,k,l⟩:=(aX (B:=B) (bx:=bx) (v:=.agg ((b.drop (j*c)).take c)) J (u:=.agg ((a.drop (j*c)).take c).toArray) (by
     rw[K,H,d];exact Iu s G) (gK.2 ⟨_,rfl,(r.drop _).take _⟩):Does P ρ o B w g bx (.val (.agg ((b.drop (j*c)).take c))))
    exact⟨u,k,l⟩
   |false=>
    have F:c=1:=by simpa using C
    subst F;rw[acN] at E;rw[acN];have p:j<b.length:=by omega
    have A:(b.drop j).getD 0 .any=b.getD j .any:=by
     rw[sV,Hy,Oq,sV]
    rw[A];obtain⟨u,D,R⟩:=r.get (getD_some p);have f:=OW (z _ (show b.getD j .any∈b by rw[sV,gP p];exact Hg p));rw[f.2];obtain⟨N,k,l⟩:=(aX (B:=B) (bx:=bx) (v:=b.getD j .any) J (u:=u) (by
     rw[K,H,d,acN];exact B5 s D) (bI f.1 R):Does P ρ o B w g bx (.val (b.getD j .any)))
    exact⟨N,k,l⟩
  ·cases h
 ·cases h
theorem wM {great:Bool} {x y:Operand} {X Y:V} {c:Call} {eff:Eff} (f:o.op=.call c) (j:c.callee=.builtin (match great with|true=> .max|false=> .min)) (i:c.args.toList=[x,y]) (hx:aG g X (ρ x)) (e:aG g Y (ρ y)) (h:rO great X Y=some (true,eff)):Does P ρ o B w g bx eff:=by
 obtain⟨callee,args,d⟩:=c;simp only at j i;subst j;obtain rfl:args= #[x,y]:=by rw[←Hz];simpa using i
 unfold rO at h;split at h
 ·rename_i k a m b
  obtain⟨l,h⟩:=aC h;simp only[ok,aI,bU,jw] at h;subst h;rw[bH] at hx e
  cases great with
  |true=>
   refine⟨.int k (imax a b),?_,bH.2 rfl⟩;simp only[execOp,f];simp[resolve,invoke,builtin,hx,e,run_max_int2];unfold imax;omega
  |false=>
   refine⟨.int k (um a b),?_,bH.2 rfl⟩;simp only[execOp,f];simp[resolve,invoke,builtin,hx,e,run_min_int2];unfold um;omega
 ·cases h
theorem kW (P:Program) (w:World) {t:TypeId} {b:Array (String×TypeId)} (a:P.underlying t=some (.interface b)) (d:TypeId) (e:Value):
  (Op.equal t .nilIface .nilIface).run P w=.ok true w∧(Op.equal t (.iface d e) .nilIface).run P w=.ok false w:=by
 have c:Op.maxDepth=9999+1:=rfl;unfold Op.equal;rw[c];generalize (9999:Nat)=m;constructor
 ·unfold Op.equalIn
  simp only[Sem.run_bind,run_underlying a,Result.andThen_ok];rfl
 ·unfold Op.equalIn
  simp only[Sem.run_bind,run_underlying a,Result.andThen_ok];rfl
theorem OX {y:Operand} (h:Bu y=true):y=.const .nilIface:=by
 unfold Bu at h;split at h
 ·rfl
 ·cases h
def RL:V→Bool
 | .nilif=>true
 |_=>false
theorem OY {b:BinOp} {d:TypeId} {e:Bool} {X Y:V} {eff:Eff} (h:QX P b d e X Y=some (true,eff)):
  e=true∧ ∃a r,P.underlying d=some (.interface a)∧eff=.val (.bool r)∧Y=.nilif∧(X=.nilif∨ ∃u v,X=.iface u v)∧((b=.eql∧r=RL X)∨(b=.neq∧r= !RL X)):=by
 unfold QX at h;split at h
 ·rename_i a c
  simp only[ok,aI,bU,jw] at h;exact⟨rfl,_,true,by assumption,h.symm,rfl,.inl rfl,.inl ⟨rfl,rfl⟩⟩
 ·rename_i a u v c
  simp only[ok,aI,bU,jw] at h;exact⟨rfl,_,false,by assumption,h.symm,rfl,.inr ⟨_,_,rfl⟩,.inl ⟨rfl,rfl⟩⟩
 ·rename_i a c
  simp only[ok,aI,bU,jw] at h;exact⟨rfl,_,false,by assumption,h.symm,rfl,.inl rfl,.inr ⟨rfl,rfl⟩⟩
 ·rename_i a u v c
  simp only[ok,aI,bU,jw] at h;exact⟨rfl,_,true,by assumption,h.symm,rfl,.inr ⟨_,_,rfl⟩,.inr ⟨rfl,rfl⟩⟩
 ·cases h
theorem CF {op:BinOp} {a k:TypeId} {x y:Operand} {X Y:V} {eff:Eff} (d:o.op=.binOp op a x y k) (hx:aG g X (ρ x)) (e:aG g Y (ρ y)) (h:QX P op a (Bu y) X Y=some (true,eff)):Does P ρ o B w g bx eff:=by
 have j:execOp ρ o=(do pure (.value (←(do eqGuard op a x y (ρ x) (ρ y);binOp op a (ρ x) (ρ y))))):=by simp only[execOp,d]
 obtain⟨l,n,r,c,rfl,rfl,f,b⟩:=OY h;obtain rfl:=OX l;refine aX j (u:=.bool r) ?_ (bG.2 rfl);rw[kK.1 e];have i: ∀q,(eqGuard op a x (.const .nilIface) q .nilIface).run P w=.ok () w:=by
  intro q;rcases b with⟨rfl,_⟩|⟨rfl,_⟩<;>cases q<;>simp[eqGuard]
 simp only[Sem.run_bind,i,Result.andThen_ok];rcases f with rfl|⟨u,v,rfl⟩
 ·rw[kK.1 hx]
  rcases b with⟨rfl,rfl⟩|⟨rfl,rfl⟩
  ·show(do pure (Value.bool (←Op.equal a .nilIface .nilIface)):Sem Value).run P w=_
   simp only[Sem.run_bind,(kW P w c 0 .nilIface).1,Result.andThen_ok,Sem.run_pure];rfl
  ·show(do pure (Value.bool (!(←Op.equal a .nilIface .nilIface))):Sem Value).run P w=_
   simp only[Sem.run_bind,(kW P w c 0 .nilIface).1,Result.andThen_ok,Sem.run_pure];rfl
 ·obtain⟨z,m,_⟩:=iW.1 hx
  rw[m];rcases b with⟨rfl,rfl⟩|⟨rfl,rfl⟩
  ·show(do pure (Value.bool (←Op.equal a (.iface u z) .nilIface)):Sem Value).run P w=_
   simp only[Sem.run_bind,(kW P w c u z).2,Result.andThen_ok,Sem.run_pure];rfl
  ·show(do pure (Value.bool (!(←Op.equal a (.iface u z) .nilIface))):Sem Value).run P w=_
   simp only[Sem.run_bind,(kW P w c u z).2,Result.andThen_ok,Sem.run_pure];rfl
theorem Ac {t:TypeId} {x:Operand} {v:V} {d:TypeDesc} {X:V} (c:o.op=.makeInterface t x) (e:P.underlying t=some d) (b: ∀a,d≠.interface a) (f:X.deep=some v) (hx:aG g X (ρ x)):Does P ρ o B w g bx (.val (.iface t v)):=by
 refine⟨.iface t (ρ x),?_,iW.2 ⟨_,rfl,mg hx f⟩⟩
 cases d with
 |interface a=>exact absurd rfl (b a)
 |_=>simp only[execOp,c,Instr.makeInterface,Sem.run_bind,run_underlying e,Result.andThen_ok];rfl
theorem wN {t:TypeId} {z:V} (h:Ed P t=some z):z.plain=true∧z.single=true:=by
 unfold Ed at h;split at h
 ·split at h
  ·rename_i u a
   refine⟨iV h,?_⟩;unfold nO at h;split at h
   ·simp only[V.deep,aI] at h;subst h;rfl
   ·unfold zV at h
    split at h<;>simp[V.deep] at h<;>subst h<;>rfl
  ·cases h
 ·cases h
theorem Jt {t:TypeId} {z:V} (h:Ed P t=some z): ∃u,(zeroValue t).run P w=.ok u w∧ ∀G,aK G z u:=by
 unfold Ed at h;split at h
 ·rename_i i b
  split at h
  ·rename_i u a
   refine⟨u,?_,fun G=>?_⟩
   ·simp[zeroValue,typeInfo,b,a]
   ·exact Iq (qQ G u) h
  ·cases h
 ·cases h
theorem yN {x:Operand} {m t:TypeId} {d:TypeDesc} {z X:V} (H:o.op=.typeAssert x m t true) (E:P.underlying t=some d) (C: ∀h,d≠.interface h) (s:Ed P t=some z) (hx:aG g X (ρ x)):
  (X=.nilif→Does P ρ o B w g bx (.val (.tup [z,.bool false])))∧
  (∀u v,X=.iface u v→u≠t→Does P ρ o B w g bx (.val (.tup [z,.bool false])))∧
  (∀u v,X=.iface u v→u=t→bA g v=aK g.G v→Does P ρ o B w g bx (.val (.tup [v,.bool true]))):=by
 obtain⟨c,k,y⟩:=Jt (w:=w) s;have l:bA g z c:=aP (wN s).2 (bI (wN s).1 (y g.G));have f:ρ x=.nilIface→(Instr.typeAssert (ρ x) m t true).run P w=.ok (.tuple #[c,.bool false]) w:=by
  intro b;rw[b]
  cases d with
  |interface h=>exact absurd rfl (C h)
  |_=>simp only[Instr.typeAssert,Sem.run_bind,run_underlying E,Result.andThen_ok];simp[k]
 have a: ∀u v,ρ x=.iface u v→(Instr.typeAssert (ρ x) m t true).run P w=if u=t then .ok (.tuple #[v,.bool true]) w else .ok (.tuple #[c,.bool false]) w:=by
  intro u v b;rw[b]
  cases d with
  |interface h=>exact absurd rfl (C h)
  |_=>
   simp only[Instr.typeAssert,Sem.run_bind,run_underlying E,Result.andThen_ok];by_cases j:u=t
   ·simp[j]
   ·simp[j,k]
 have A:execOp ρ o=(do pure (.value (←Instr.typeAssert (ρ x) m t true))):=by simp only[execOp,H]
 have D:bA g (.bool false) (.bool false):=by show aK _ _ _;unfold aK;rfl
 have F:bA g (.bool true) (.bool true):=by show aK _ _ _;unfold aK;rfl
 refine⟨fun e=>?_,fun u v e n=>?_,fun u v e p r=>?_⟩
 ·subst e
  have b:=f (kK.1 hx);exact aX A (u:=.tuple #[c,.bool false]) b ⟨[c,.bool false],rfl,.cons l (.cons D .nil)⟩
 ·subst e
  obtain⟨q,b,_⟩:=iW.1 hx;have i:=a _ _ b;rw[if_neg n] at i;exact aX A (u:=.tuple #[c,.bool false]) i ⟨[c,.bool false],rfl,.cons l (.cons D .nil)⟩
 ·subst e
  obtain⟨q,b,I⟩:=iW.1 hx;have i:=a _ _ b;rw[if_pos p] at i;exact aX A (u:=.tuple #[q,.bool true]) i ⟨[q,.bool true],rfl,.cons (by rw[r];exact I) (.cons F .nil)⟩
end
end Nt.Ev
