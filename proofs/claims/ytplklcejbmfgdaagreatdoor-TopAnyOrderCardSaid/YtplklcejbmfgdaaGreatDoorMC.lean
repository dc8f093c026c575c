/-
  A namespace. Plain facts on bytes, strings and byte lists, used by all walks of this work. No program in sight. The plain law of num: whole numbers that do not go round. The plain law of numbers' texts: digits, in order. The plain law of numbers that are read. The plain law of numbers there and back: what is written is read, and what is read is written. The plain law of words: what it means that a word begins with a text, large and small letters alike. The plain law of words, more of it: a longer beginning of the same word means the same. From the shelf's contracts to the evaluator's: slices of strings that a call makes. From contracts of calls that turn no given block to the evaluator's contracts. Numbers' digits and texts: the program's and the reference's. What a law's row gives the walk, and what the walk gives back: facts that hold of every program. What a law's row gives the walk, with the form's own reach: sizes of what is read. Same: equations of functions, as the evaluator prints them. Whether two rows of strings are the same. A row is looked through: loops of the laws.
-/
import Derived.Lib.IndexAny
import Derived.Lib.Bytealg
import Derived.WalkKit
import Derived.WalkSpells
import Derived.WalkLawsBesides
import Derived.Deep.QuietTactic
import Derived.BigQuiet
import Derived.Handy
import Derived.Lib.Hide
import Derived.Lib.Strings
import Derived.Lib.SlTrimSet
import Derived.Test.YtplklcejbmfgdaaGreatDoorMBB
import Derived.Lib.SplitLaws
import Derived.Test.YtplklcejbmfgdaaGreatDoorProg
import Derived.ProofKit
import Derived.OpenShut
import Derived.ShutString
import Derived.ChangeOld
import Derived.Below
import Derived.SliceStrings
import Derived.LaidMore
import Derived.Stop.Joined
set_option linter.unusedVariables false
set_option linter.unusedSimpArgs false
set_option linter.unusedSectionVars false
namespace Go.Proofs.YtplklcejbmfgdaaGreatDoor
theorem here:True:=trivial
end Go.Proofs.YtplklcejbmfgdaaGreatDoor
namespace Nt
open Go Go.RowKit
def at_ (s:ByteArray) (i:Nat):UInt8:=s.data.toList.getD i 0
theorem Mq (s:ByteArray) (i:Nat) (h:i<s.size):at_ s i=s[i]:=by
 unfold at_;rw[List.getD_eq_getElem?_getD,List.getElem?_eq_getElem (by simpa using h)];rfl
theorem KY (c:UInt8):bits BinOp.or IntKind.u8 (↑c.toNat) 32=((c.toNat|||32:Nat):Int):=by
 have h: ∀n:Fin 256,bits BinOp.or IntKind.u8 (((n:Nat):Int)) 32=(((n:Nat)|||32:Nat):Int):=by decide+kernel
 exact h ⟨c.toNat,c.toNat_lt⟩
theorem quiet2 {P:Program} {f:FuncId} {args:Array Value} {w:World} {k n:Nat} {v:Value}
  (h:Calls P f args (w.drewN (k+n)) fun e w'=>e=.returned v∧ ∃m,w'=(w.drewN (k+n)).drewN m):Calls P f args (w.drewN (k+n)) fun e w''=>e=.returned v∧ ∃m,w''=w.drewN (k+m):=
 h.mono fun _ _ ⟨he,m,hm⟩=>⟨he,n+m,by rw[hm,World.drewN_drewN,Nat.add_assoc]⟩
theorem Ed {P:Program} {f:FuncId} {args:Array Value} {w:World} {k n:Nat} {v:Value}
  (h:Calls P f args (w.drewN (k+n)) fun e w'=>e=.returned v∧w'=w.drewN (k+n)):Calls P f args (w.drewN (k+n)) fun e w''=>e=.returned v∧ ∃m,w''=w.drewN (k+m):=
 h.mono fun _ _ ⟨he,hm⟩=>⟨he,n,hm⟩
theorem vF {a b:Bool} (h:a=b):Ending.returned (.bool a)=.returned (.bool b):=by rw[h]
theorem VQ {k:IntKind} {a b:Int} (h:a=b):Ending.returned (.int k a)=.returned (.int k b):=by rw[h]
def Strs (w:World) (p:Option Addr) (len:Nat) (ss:List ByteArray):Prop:=
 ss.length=len∧(∀s∈ss,s.size≤maxLen)∧(0<len→ ∃b off,p=some ⟨b,off,none⟩∧b<w.heap.size∧ ∀i,i<len→w.cell? ⟨b,off+i,none⟩=some (.string (ss.getD i ByteArray.empty)))
theorem Strs.below {w w':World} {p:Option Addr} {len:Nat} {ss:List ByteArray} (h:Strs w p len ss) (hb:Below w.heap.size w w'):Strs w' p len ss:=by
 obtain⟨h1,h2,h3⟩:=h;refine⟨h1,h2,fun hp=>?_⟩;obtain⟨b,off,e,hlt,hc⟩:=h3 hp;exact⟨b,off,e,Nat.lt_of_lt_of_le hlt hb.size,fun i hi=>(hb.cell (p:=⟨b,off+i,none⟩) hlt).trans (hc i hi)⟩
theorem Strs.mem {w:World} {p:Option Addr} {len:Nat} {ss:List ByteArray} (h:Strs w p len ss) {i:Nat} (hi:i<len):(ss.getD i ByteArray.empty).size≤maxLen:=by
 obtain⟨h1,h2,_⟩:=h;rw[List.getD_eq_getElem?_getD,List.getElem?_eq_getElem (by omega)];exact h2 _ (List.getElem_mem _)
theorem below_drewN {B:Nat} {a w:World} (h:Below B a w) (n:Nat):Below B a (w.drewN n):=⟨h.os,h.tape,h.output,h.size,h.block⟩
theorem Uc {B:Nat} {w w':World} (h: ∃n,w'=w.drewN n):Below B w w':=by
 obtain⟨n,rfl⟩:=h;exact Nt.below_drewN (Below.refl _ _) n
theorem append1 {P:Program} {ops:Array Oper} {rest:List Oper} {o:Oper} {a:Act} {Q:Exit→Act→World→Prop} (hgd:o.guard=none) (s x:Operand) (t:TypeId)
  (ho:o.op=.call {callee:=.builtin .append,args:= #[s,x],argTypes:= #[t,t]})
  (base:Nat) (e:TypeId) (z:Value) (bytes:Nat) (ht:P.underlying t=some (.slice e))
  (hinfo:(P.info? e).map (fun i=>(i.zero,i.size,i.bytes))=some (some z,1,bytes)) (hzs:z.cells.size=1)
  (v:Value) (n:Nat) (xs:List Value) (wr:World) (y:Value) (e':TypeId) (hs:a.eval s=v) (hown:wr.ownsRow base e 1 v n xs)
  (hx:a.eval x=.slice (some ⟨wr.heap.size,0,none⟩) 1 1) (hy:y.oneCell'=true)
  (hn:(n+1)*bytes≤140737488355328) (hb:0<bytes) (hbase:base≤wr.heap.size)
  (h: ∀v' w',w'.ownsRow base e 1 v' (n+1) (xs++[y])→Below base wr w'→wpList P ops Q rest (a.put o.dst v') w'):
  wpList P ops Q (o::rest) a (wr.alloc (.cells #[y] e')):=by
 obtain⟨i0,hi,hz0,hz1,hz2⟩:=info_parts hinfo;have hn':n+1≤140737488355328:=Nat.le_trans (Nat.le_mul_of_pos_right _ hb) hn;refine wpList_append_own _ hgd s x t ho base e i0 z 1 bytes ht hi hz0 hz1 hz2 hzs (by decide) v n xs hs (hown.alloc _) ⟨wr.heap.size,0,none⟩ 1 1 [y] hx rfl ?_ ?_ ?_ hn ?_ ?_
 ·intro j u hj
  match j,hj with
  |0,hj=>simp at hj;subst hj;simp[Addr.add]
 ·intro u hu;simp at hu;subst hu;exact hy
 ·unfold maxLen;omega
 ·simp;omega
 ·intro v' w' h2 h3 _
  refine h v' w' h2 ?_;refine((Below.refl base wr).alloc hbase _).grown h3 (by simp;omega) ?_;intro k hk;exact(hown.lt k hk).1
theorem Iw {w:World} {base e:Nat} {v:Value} {n:Nat} {xs:List Value} (h:w.ownsRow base e 1 v n xs) (hn:0<n):
  ∃g cap,v=.slice (some ⟨g,0,none⟩) n cap∧base≤g∧g<w.heap.size∧ ∀i,i<n→w.cell? ⟨g,0+i,none⟩=some (xs.getD i undef):=by
 have hlt:=h.lt;have hcells: ∀{g:Nat},v.ownBlock=some g→ ∀j u,xs[j]? =some u→w.cell? ((⟨g,0,none⟩:Addr).add j)=some u:=fun hg=>h.cells hg
 obtain⟨h1,h2⟩:=h;rcases h2 with⟨_,h2⟩|⟨g,cap,cur,hv,hg,hh,r⟩
 ·omega
 ·subst hv
  refine⟨g,cap,rfl,hg,(hlt g rfl).2,fun i hi=>?_⟩;have:=hcells (g:=g) rfl i (xs.getD i undef) (by rw[List.getD_eq_getElem?_getD,List.getElem?_eq_getElem (by omega)];rfl);rw[←this];by_cases h0:i=0
  ·subst h0;simp[Addr.add]
  ·simp[Addr.add,h0]
theorem Yg {w:World} {base e:Nat} {v:Value} {n:Nat} {xs:List Value} (h:w.ownsRow base e 1 v n xs): ∃p cap,v=.slice p n cap:=by
 obtain⟨_,h2⟩:=h;rcases h2 with⟨h2,h3⟩|⟨g,cap,cur,hv,_⟩
 ·subst h3;exact⟨none,0,h2⟩
 ·exact⟨_,_,hv⟩
theorem toList_eq (s:ByteArray):s.toList=s.data.toList:=ByteArray.toList_eq s
theorem vV (s:ByteArray) (h:s.size=0):s.toList.isEmpty=true:=by
 rw[toList_eq,List.isEmpty_iff,←List.length_eq_zero_iff];simpa using h
theorem zQ (s:ByteArray) (h:s.size≠0):s.toList.isEmpty=false:=by
 rw[toList_eq]
 cases e:s.data.toList with
 |nil=>exact absurd (by have:=congrArg List.length e;simpa using this) h
 |cons a l=>rfl
theorem yw {w:World} {base e size:Nat} {v:Value} {n:Nat} {xs:List Value} (h:w.ownsRow base e size v n xs) (k:Nat):(w.drewN k).ownsRow base e size v n xs:=h
end Nt
namespace Nt.Num
open Go Go.RowKit Nt
def Fits (n:Int):Prop:= -9223372036854775808≤n∧n≤9223372036854775807
instance (n:Int):Decidable (Fits n):=inferInstanceAs (Decidable (_∧_))
def told (n:Int):Int×Int:=if Fits n then(n,0) else(0,1)
theorem jb {n:Int} (h:Fits n):told n=(n,0):=if_pos h
theorem kS {n:Int} (h: ¬Fits n):told n=(0,1):=if_neg h
def LV (a b:Int):Int×Int×Int:=
 if b=0∨(a= -9223372036854775808∧b= -1) then(0,0,1)
 else if a.tmod b≠0∧ ¬(a.tmod b<0↔b<0) then(a.tdiv b-1,a.tmod b+b,0) else(a.tdiv b,a.tmod b,0)
theorem KZ (a b:Int) (h0:b≠0) (hm: ¬(a= -9223372036854775808∧b= -1)):
  LV a b=if a.tmod b≠0∧ ¬(a.tmod b<0↔b<0) then(a.tdiv b-1,a.tmod b+b,0) else(a.tdiv b,a.tmod b,0):=by
 unfold LV;rw[if_neg (by rintro(h|h);exact h0 h;exact hm h)]
theorem M0 (a b:Int) (h0:b≠0): -(b.natAbs:Int)<a.tmod b∧a.tmod b<b.natAbs:=by
 have h1:=Int.natAbs_tmod a b;have h2:(a.tmod b).natAbs<b.natAbs:=by rw[h1];exact Nat.mod_lt _ (by omega)
 omega
theorem PL (a b:Int):(a.tdiv b).natAbs≤a.natAbs:=by
 rw[Int.natAbs_tdiv];exact Nat.div_le_self _ _
theorem Ud (a b:Int) (ha:Fits a) (hb:Fits b) (h0:b≠0) (hm: ¬(a= -9223372036854775808∧b= -1)):
  -9223372036854775808≤a.tdiv b∧a.tdiv b≤9223372036854775807∧-9223372036854775807≤a.tmod b∧a.tmod b≤9223372036854775807:=by
 obtain⟨a1,a2⟩:=ha;obtain⟨b1,b2⟩:=hb;have r:=M0 a b h0;have q:=PL a b;refine⟨by omega,?_,by omega,by omega⟩;by_cases h1:a= -9223372036854775808
 ·have hb1:b≠-1:=fun h=>hm ⟨h1,h⟩
  by_cases hb2:b=1
  ·subst hb2;rw[Int.tdiv_one];omega
  ·have h2:(a.tdiv b).natAbs=a.natAbs/b.natAbs:=Int.natAbs_tdiv a b
   have h3:a.natAbs/b.natAbs≤a.natAbs/2:=Nat.div_le_div_left (by omega) (by omega);omega
 ·omega
theorem xor_neg (r b:Int) (hr:Fits r) (hb:Fits b):bits .xor .i64 r b<0↔ ¬(r<0↔b<0):=by
 have msb: ∀x:Int,Fits x→(BitVec.ofInt 64 x).msb=decide (x<0):=fun x hx=>by
  rw[BitVec.msb_eq_toInt,BitVec.toInt_ofInt,Int.bmod_eq_of_le (by unfold Fits at hx;omega) (by unfold Fits at hx;omega)]
 have h1: ∀n:Nat,n<18446744073709551616→(IntKind.i64.wrap (n:Int)<0↔9223372036854775808≤n):=fun n hn=>by rw[IntKind.wrap_i64];omega
 have h2:(BitVec.ofInt 64 r ^^^ BitVec.ofInt 64 b).msb=(decide (r<0) ^^ decide (b<0)):=by rw[BitVec.msb_xor,msb r hr,msb b hb]
 have h3:bits .xor .i64 r b=IntKind.i64.wrap (((BitVec.ofInt 64 r ^^^ BitVec.ofInt 64 b).toNat:Nat):Int):=rfl;have h4:=(BitVec.ofInt 64 r ^^^ BitVec.ofInt 64 b).isLt;rw[h3,h1 _ h4];have h5:=BitVec.msb_eq_decide (BitVec.ofInt 64 r ^^^ BitVec.ofInt 64 b);rw[h2] at h5;have h6:(9223372036854775808≤(BitVec.ofInt 64 r ^^^ BitVec.ofInt 64 b).toNat)↔(decide (r<0) ^^ decide (b<0))=true:=by
  rw[h5,decide_eq_true_eq]
 rw[h6];by_cases hr0:r<0<;>by_cases hb0:b<0<;>simp[hr0,hb0]
theorem Yh {n:Int} (h:9223372036854775807<n) (h2:n≤18446744073709551615):wrap64 n<0:=by unfold wrap64;omega
theorem Ue {n:Int} (h:n< -9223372036854775808) (h2: -18446744073709551616≤n):0≤wrap64 n:=by unfold wrap64;omega
theorem VR (a b:Int):(a*b).natAbs=a.natAbs*b.natAbs:=Int.natAbs_mul a b
theorem Yi (a b:Int) (h: ¬(a<0↔b<0)):a*b= -((a.natAbs*b.natAbs:Nat):Int):=by
 have h1:=VR a b;have h2:a*b≤0:=by
  by_cases ha:a<0
  ·exact Int.mul_nonpos_of_nonpos_of_nonneg (by omega) (by omega)
  ·exact Int.mul_nonpos_of_nonneg_of_nonpos (by omega) (by omega)
 omega
theorem Yj (a b:Int) (h:a<0↔b<0):a*b=((a.natAbs*b.natAbs:Nat):Int):=by
 have h1:=VR a b;have h2:0≤a*b:=by
  by_cases ha:a<0
  ·exact Int.mul_nonneg_of_nonpos_of_nonpos (by omega) (by omega)
  ·exact Int.mul_nonneg (by omega) (by omega)
 omega
def bs (l:List UInt8):ByteArray:=⟨l.toArray⟩
theorem wB (l:List UInt8):(bs l).size=l.length:=by simp[bs,ByteArray.size]
def digit (k:Nat):UInt8:=UInt8.ofNat (48+k)
theorem jM (k:Nat) (h:k<10):(digit k).toNat=48+k:=by
 unfold digit;rw[UInt8.toNat_ofNat'];omega
def F4:Nat→Nat→List UInt8
 |0,_=>[]
 |f+1,n=>if n<10 then[digit n] else F4 f (n/10)++[digit (n%10)]
theorem Ee: ∀(f g n:Nat),n<f→n<g→F4 f n=F4 g n
 |0,_,_,h,_=>by omega
 |_,0,_,_,h=>by omega
 |f+1,g+1,n,h1,h2=>by
  unfold F4;split
  ·rfl
  ·rw[Ee f g (n/10) (by omega) (by omega)]
def fP (n:Nat):List UInt8:=F4 (n+1) n
theorem lm (n:Nat) (h:n<10):fP n=[digit n]:=by unfold fP F4;rw[if_pos h]
theorem oK (n:Nat) (h:10≤n):fP n=fP (n/10)++[digit (n%10)]:=by
 conv=>lhs;unfold fP F4
 rw[if_neg (by omega),Ee n (n/10+1) (n/10) (by omega) (by omega)];rfl
theorem rH: ∀(f n:Nat),n<10 ^ f→0<f→(fP n).length≤f∧0<(fP n).length
 |0,_,_,h=>by omega
 |f+1,n,h,_=>by
  by_cases hn:n<10
  ·rw[lm n hn];simp
  ·rw[oK n (by omega)]
   have hf:0<f:=by
    by_cases h0:f=0
    ·subst h0;omega
    ·omega
   have:=rH f (n/10) (by rw[Nat.pow_succ] at h;omega) hf;simp;omega
def text (n:Int):List UInt8:=(if n<0 then[45] else[])++fP n.natAbs
theorem vG (n:Int) (h:Fits n):(text n).length≤21∧0<(text n).length:=by
 have:=rH 20 n.natAbs (by unfold Fits at h;omega) (by decide);unfold text;split<;>simp<;>omega
def ahead (u k m:Nat):List UInt8:=if m≤k then fP (u/10 ^ m) else[]
theorem Iy (u k m:Nat) (hk:u/10 ^ k<10) (hl:k=0∨10 ^ k≤u) (hm:m≤k):ahead u k m=ahead u k (m+1)++[digit (u/10 ^ m%10)]:=by
 unfold ahead;rw[if_pos hm];by_cases h:m=k
 ·subst h
  rw[if_neg (by omega),lm _ hk,List.nil_append,Nat.mod_eq_of_lt hk]
 ·rw[if_pos (by omega)]
  have h1:10 ^ (m+1)≤u:=by
   rcases hl with hl|hl
   ·omega
   ·exact Nat.le_trans (Nat.pow_le_pow_right (by decide) (by omega)) hl
  have h2:10≤u/10 ^ m:=by
   rw[Nat.le_div_iff_mul_le (Nat.pow_pos (by decide))];rw[Nat.pow_succ] at h1;omega
  rw[oK _ h2,Nat.div_div_eq_div_mul,Nat.pow_succ]
theorem Yk (u k:Nat):ahead u k 0=fP u:=by unfold ahead;simp
def isDigit (c:UInt8):Bool:=decide (48≤c.toNat)&&decide (c.toNat≤57)
def minus (l:List UInt8):Bool:=match l with|c::_=>c==45|[]=>false
def bare (l:List UInt8):List UInt8:=if minus l then l.drop 1 else l
def good (l:List UInt8):Bool:=(bare l).all isDigit&& !(bare l).isEmpty&&(!((bare l).getD 0 0==48)||(decide ((bare l).length=1)&& !minus l))
def val (d:List UInt8):Nat:=d.foldl (fun n c=>10*n+(c.toNat-48)) 0
def read (l:List UInt8):Int×Int:=if good l then told (if minus l then -(val (bare l):Int) else(val (bare l):Int)) else(0,2)
theorem PN (d:List UInt8) (c:UInt8):val (d++[c])=10*val d+(c.toNat-48):=by unfold val;rw[List.foldl_append];rfl
theorem Bi (d:List UInt8) (k:Nat) (h:k<d.length):val (d.take (k+1))=10*val (d.take k)+((d.getD k 0).toNat-48):=by
 rw[List.take_add_one,List.getD_eq_getElem?_getD,List.getElem?_eq_getElem h];exact PN _ _
theorem val_mono (d:List UInt8) (k:Nat): ∀m,k≤m→val (d.take k)≤val (d.take m):=by
 intro m;induction m with
 |zero=>
  intro h;have e:k=0:=by omega
  rw[e];exact Nat.le_refl _
 |succ m ih=>
  intro h;by_cases e:k=m+1
  ·rw[e];exact Nat.le_refl _
  ·have h1:=ih (by omega)
   by_cases hm:m<d.length
   ·rw[Bi d m hm];omega
   ·rw[List.take_of_length_le (show d.length≤m+1 by omega)]
    rw[List.take_of_length_le (show d.length≤m by omega)] at h1;exact h1
theorem val_le (d:List UInt8) (k:Nat):val (d.take k)≤val d:=by
 by_cases h:k≤d.length
 ·have:=val_mono d k d.length h
  rwa [List.take_length] at this
 ·rw[List.take_of_length_le (by omega)];exact Nat.le_refl _
theorem val_lt (d:List UInt8) (hd:d.all isDigit=true): ∀k,val (d.take k)<10 ^ k:=by
 intro k;induction k with
 |zero=>simp[val]
 |succ k ih=>
  by_cases h:k<d.length
  ·have hc:=List.all_eq_true.1 hd (d.getD k 0) (by rw[List.getD_eq_getElem?_getD,List.getElem?_eq_getElem h];exact List.getElem_mem _)
   simp only[isDigit,Bool.and_eq_true,decide_eq_true_eq] at hc;rw[Bi d k h,Nat.pow_succ];omega
  ·rw[List.take_of_length_le (by omega)]
   rw[List.take_of_length_le (by omega)] at ih;exact Nat.lt_of_lt_of_le ih (Nat.pow_le_pow_right (by decide) (by omega))
def signed (below:Bool) (n:Nat):Int:=if below then -(n:Int) else n
theorem QZ (below:Bool) (d:List UInt8) (k:Nat) (h:k<d.length) (hd:d.all isDigit=true):
  signed below (val (d.take (k+1)))=signed below (val (d.take k))*10+(if below then -((d.getD k 0).toNat-48:Int) else((d.getD k 0).toNat-48:Int)):=by
 have hc:=List.all_eq_true.1 hd (d.getD k 0) (by rw[List.getD_eq_getElem?_getD,List.getElem?_eq_getElem h];exact List.getElem_mem _);simp only[isDigit,Bool.and_eq_true,decide_eq_true_eq] at hc;rw[Bi d k h];generalize (d.getD k 0).toNat=c at*;unfold signed
 cases below<;>simp<;>omega
theorem Q0 (below:Bool) (n m:Nat) (h:n≤m) (hf: ¬Fits (signed below n)): ¬Fits (signed below m):=by
 unfold Fits signed at*
 cases below<;>simp at* <;>omega
theorem Q5 (d:List UInt8):(Lib.trimS d [48,49,50,51,52,53,54,55,56,57]=[])↔d.all isDigit=true:=by
 have hset: ∀c:UInt8,([48,49,50,51,52,53,54,55,56,57]:List UInt8).contains c=isDigit c:=by
  have h: ∀n:Fin 256,([48,49,50,51,52,53,54,55,56,57]:List UInt8).contains (UInt8.ofNat n)=isDigit (UInt8.ofNat n):=by decide+kernel
  intro c;have:=h ⟨c.toNat,c.toNat_lt⟩;simpa using this
 have hnil: ∀(p:UInt8→Bool) (l:List UInt8),l.dropWhile p=[]↔ ∀x∈l,p x=true:=by
  intro p l;induction l with
  |nil=>simp
  |cons a l ih=>
   rw[List.dropWhile_cons];split
   ·rename_i h;rw[ih];simp[h]
   ·rename_i h;simp[h]
 have hall: ∀l:List UInt8,(∀x∈l.dropWhile isDigit,isDigit x=true)↔ ∀x∈l,isDigit x=true:=by
  intro l;induction l with
  |nil=>simp
  |cons a l ih=>
   rw[List.dropWhile_cons];split
   ·rename_i h;rw[ih];simp[h]
   ·rfl
 unfold Lib.trimS Lib.trimLeftS Lib.trimRightS;simp only[hset];rw[hnil,List.all_eq_true];simp only[List.mem_reverse];rw[hall];simp
theorem yx (k:Nat) (h:k<10):isDigit (digit k)=true:=by
 unfold isDigit;rw[jM k h];simp;omega
theorem rJ: ∀(f n:Nat),n<f→(fP n).all isDigit=true∧fP n≠[]
 |0,_,h=>by omega
 |f+1,n,h=>by
  by_cases hn:n<10
  ·rw[lm n hn]
   exact⟨by simp[yx n hn],by simp⟩
  ·rw[oK n (by omega),List.all_append]
   have:=rJ f (n/10) (by omega);refine⟨?_,by simp⟩;rw[this.1];simp[yx (n%10) (Nat.mod_lt _ (by decide))]
theorem Bj: ∀(f n:Nat),n<f→val (fP n)=n
 |0,_,h=>by omega
 |f+1,n,h=>by
  by_cases hn:n<10
  ·rw[lm n hn]
   show 10*0+((digit n).toNat-48)=n;rw[jM n hn];omega
  ·rw[oK n (by omega),PN,Bj f (n/10) (by omega),jM _ (Nat.mod_lt _ (by decide))]
   omega
theorem K3: ∀(f n:Nat),n<f→1≤n→((fP n).getD 0 0==48)=false
 |0,_,h,_=>by omega
 |f+1,n,h,h1=>by
  by_cases hn:n<10
  ·rw[lm n hn]
   simp only[List.getD_cons_zero,beq_eq_false_iff_ne];intro e;have:=congrArg UInt8.toNat e;rw[jM n hn] at this;have h2:(48:UInt8).toNat=48:=rfl;omega
  ·rw[oK n (by omega)]
   have h2:=(rJ (n/10+1) (n/10) (by omega)).2;have h3:0<(fP (n/10)).length:=by
    cases e:fP (n/10) with
    |nil=>exact absurd e h2
    |cons a l=>simp
   have:(fP (n/10)++[digit (n%10)]).getD 0 0=(fP (n/10)).getD 0 0:=by
    rw[List.getD_eq_getElem?_getD,List.getD_eq_getElem?_getD,List.getElem?_append_left h3]
   rw[this];exact K3 f (n/10) (by omega) (by omega)
theorem Uf (m:Nat):minus (fP m)=false:=by
 have h:=rJ (m+1) m (by omega)
 cases e:fP m with
 |nil=>rfl
 |cons c l=>
  rw[e] at h;simp only[List.all_cons,Bool.and_eq_true,isDigit,decide_eq_true_eq] at h;unfold minus;rw[beq_eq_false_iff_ne];intro hc;rw[hc] at h;have h2:(45:UInt8).toNat=45:=rfl;omega
theorem K4 (m:Nat) (h:1≤m) (b:Bool):((fP m).all isDigit&& !(fP m).isEmpty&&(!((fP m).getD 0 0==48)||(decide ((fP m).length=1)&&b)))=true:=by
 have h1:=rJ (m+1) m (by omega);have h2:=K3 (m+1) m (by omega) h;have h3:(fP m).isEmpty=false:=by
  cases e:fP m with
  |nil=>exact absurd e h1.2
  |cons a l=>rfl
 rw[h1.1,h2,h3];rfl
theorem K5 (n:Int) (hf:Fits n):read (text n)=(n,0):=by
 by_cases h:n<0
 ·have e:text n=45::fP n.natAbs:=by unfold text;rw[if_pos h];rfl
  have em:minus (45::fP n.natAbs)=true:=rfl;have eb:bare (45::fP n.natAbs)=fP n.natAbs:=rfl;have eg:good (45::fP n.natAbs)=true:=K4 n.natAbs (by omega) _;unfold read;rw[e,eg,em,eb,Bj (n.natAbs+1) n.natAbs (by omega)];simp only[if_true];rw[show -(n.natAbs:Int)=n by omega];exact jb hf
 ·have e:text n=fP n.natAbs:=by unfold text;rw[if_neg h];rfl
  have em:=Uf n.natAbs;have eb:bare (fP n.natAbs)=fP n.natAbs:=by unfold bare;rw[em];rfl
  have eg:good (fP n.natAbs)=true:=by
   by_cases h0:n=0
   ·subst h0;decide
   ·unfold good
    rw[eb];exact K4 n.natAbs (by omega) _
  unfold read;rw[e,eg,em,eb,Bj (n.natAbs+1) n.natAbs (by omega)];simp only[if_true];rw[show(n.natAbs:Int)=n by omega];exact jb hf
theorem Iz (l:List UInt8):read (45::45::l)=(0,2):=by
 have eg:good (45::45::l)=false:=by
  have eb:bare (45::45::l)=45::l:=rfl;unfold good;rw[eb,List.all_cons,show isDigit 45=false from by decide];rfl
 unfold read;rw[eg];rfl
end Nt.Num
namespace Nt.Words
open Go Nt
def low (c:UInt8):UInt8:=if 65≤c.toNat∧c.toNat≤90 then UInt8.ofNat (c.toNat+32) else c
def alike (x y:UInt8):Bool:=low x==low y
def Gr (x y:Nat):Bool:=x==y||(x|||32==y|||32&&decide (97≤x|||32)&&decide (x|||32≤122))
theorem lowN: ∀x:Fin 256,(low (UInt8.ofNat x)).toNat=if 97≤(x:Nat)|||32∧(x:Nat)|||32≤122 then(x:Nat)|||32 else x:=by decide+kernel
theorem lowK: ∀x:Fin 256,¬(97≤(x:Nat)|||32∧(x:Nat)|||32≤122)→ ¬(97≤(x:Nat)∧(x:Nat)≤122):=by decide+kernel
theorem K6 (x:UInt8):(low x).toNat=if 97≤x.toNat|||32∧x.toNat|||32≤122 then x.toNat|||32 else x.toNat:=by
 have:=lowN ⟨x.toNat,x.toNat_lt⟩;simpa using this
theorem alike_eq (x y:UInt8):alike x y=Gr x.toNat y.toNat:=by
 have h1:=K6 x;have h2:=K6 y;have k1:=lowK ⟨x.toNat,x.toNat_lt⟩;have k2:=lowK ⟨y.toNat,y.toNat_lt⟩;simp only at k1 k2;have e:alike x y=decide ((low x).toNat=(low y).toNat):=by
  unfold alike;rw[Bool.eq_iff_iff];simp[UInt8.toNat_inj]
 rw[e,h1,h2,Bool.eq_iff_iff];simp only[Gr,decide_eq_true_eq,Bool.or_eq_true,Bool.and_eq_true,beq_iff_eq];have hxy:x.toNat=y.toNat→x.toNat|||32=y.toNat|||32:=fun h=>by rw[h]
 clear h1 h2 e;generalize x.toNat|||32=u at*;generalize y.toNat|||32=v at*;split<;>split<;>omega
def begins (a s:ByteArray):Bool:=decide (s.size≤a.size)&&decide (∀i,i<s.size→alike (at_ a i) (at_ s i)=true)
def same (a b:ByteArray):Bool:=decide (a.size=b.size)&&begins a b
theorem Q6 (a s:ByteArray) (h:a.size<s.size):begins a s=false:=by
 unfold begins;simp;omega
theorem Ug (a s:ByteArray) (h:s.size≤a.size) (k: ∀i,i<s.size→alike (at_ a i) (at_ s i)=true):begins a s=true:=by
 unfold begins;simp[h];exact k
theorem Yl (a s:ByteArray) (i:Nat) (hi:i<s.size) (k:alike (at_ a i) (at_ s i)=false):begins a s=false:=by
 unfold begins;simp only[Bool.and_eq_false_iff,decide_eq_false_iff_not];right
 intro h;have:=h i hi;rw[k] at this
 cases this
def uE (ws:List ByteArray) (i:Nat):ByteArray:=ws.getD i ByteArray.empty
def found (s:ByteArray) (ws:List ByteArray) (k:Nat):List Nat:=(List.range k).filter fun i=>begins (uE ws i) s
def mt (s:ByteArray) (ws:List ByteArray):Nat×Nat:=
 if s.size=0 then(0,3) else
 match(List.range ws.length).find? (fun i=>same (uE ws i) s) with
 |some i=>(i,0)
 |none=>match found s ws ws.length with
  |[]=>(0,3)
  |f::r=>if(f::r).all (fun i=>same (uE ws i) (uE ws f)) then(f,0) else(0,3)
theorem Ym (s:ByteArray) (ws:List ByteArray) (k:Nat) (h:begins (uE ws k) s=true):found s ws (k+1)=found s ws k++[k]:=by
 simp[found,List.range_succ,List.filter_append,h]
theorem found_no (s:ByteArray) (ws:List ByteArray) (k:Nat) (h:begins (uE ws k) s=false):found s ws (k+1)=found s ws k:=by
 simp[found,List.range_succ,List.filter_append,h]
theorem PO (s:ByteArray) (ws:List ByteArray) (k:Nat):(found s ws k).length≤k:=by
 have:=List.length_filter_le (fun i=>begins (uE ws i) s) (List.range k);simpa[found] using this
theorem G5 (s:ByteArray) (ws:List ByteArray) (k i:Nat) (h:i∈found s ws k):i<k:=by
 simp[found] at h;exact h.1
theorem mt_nil (s:ByteArray) (ws:List ByteArray) (h:s.size=0):mt s ws=(0,3):=by simp[mt,h]
theorem EW {p:Nat→Bool} {n:Nat} (h: ∀i,i<n→p i=false):(List.range n).find? p=none:=by
 rw[List.find?_eq_none];intro x hx;simp at hx;simp[h x hx]
theorem EX {p:Nat→Bool} {n k:Nat} (hk:k<n) (hp:p k=true) (h: ∀i,i<k→p i=false):(List.range n).find? p=some k:=by
 rw[List.find?_eq_some_iff_append];refine⟨hp,List.range k,(List.range (n-(k+1))).map (k+1+ ·),?_,?_⟩
 ·have e:n=(k+1)+(n-(k+1)):=by omega
  conv=>lhs;rw[e,List.range_add]
  rw[List.range_succ];simp
 ·intro a ha
  simp at ha;simp[h a ha]
theorem mt_hit (s:ByteArray) (ws:List ByteArray) (k:Nat) (h:s.size≠0) (hk:k<ws.length) (hp:same (uE ws k) s=true) (hn: ∀i,i<k→same (uE ws i) s=false):mt s ws=(k,0):=by
 simp only[mt,if_neg h];rw[EX hk hp hn]
theorem M3 (s:ByteArray) (ws:List ByteArray) (h:s.size≠0) (hn: ∀i,i<ws.length→same (uE ws i) s=false):
  mt s ws=match found s ws ws.length with
  |[]=>(0,3)
  |f::r=>if(f::r).all (fun i=>same (uE ws i) (uE ws f)) then(f,0) else(0,3):=by
 simp only[mt,if_neg h];rw[EW hn]
theorem mt_empty (s:ByteArray) (ws:List ByteArray) (h:s.size≠0) (hn: ∀i,i<ws.length→same (uE ws i) s=false) (hf:(found s ws ws.length).length=0):mt s ws=(0,3):=by
 rw[M3 s ws h hn,List.length_eq_zero_iff.1 hf]
theorem mt_bad (s:ByteArray) (ws:List ByteArray) (h:s.size≠0) (hn: ∀i,i<ws.length→same (uE ws i) s=false) (k:Nat) (hk:k<(found s ws ws.length).length)
  (hb:same (uE ws ((found s ws ws.length).getD k 0)) (uE ws ((found s ws ws.length).getD 0 0))=false):mt s ws=(0,3):=by
 rw[M3 s ws h hn];generalize found s ws ws.length=l at*;match l,hk,hb with
 |f::r,hk,hb=>
  simp only;rw[if_neg];intro ha;rw[List.all_eq_true] at ha;have:=ha ((f::r).getD k 0) (by rw[List.getD_eq_getElem?_getD,List.getElem?_eq_getElem hk];exact List.getElem_mem _);simp only[List.getD_cons_zero] at hb;rw[hb] at this
  cases this
theorem mt_ok (s:ByteArray) (ws:List ByteArray) (h:s.size≠0) (hn: ∀i,i<ws.length→same (uE ws i) s=false) (hk:0<(found s ws ws.length).length)
  (hb: ∀k,k<(found s ws ws.length).length→same (uE ws ((found s ws ws.length).getD k 0)) (uE ws ((found s ws ws.length).getD 0 0))=true):mt s ws=((found s ws ws.length).getD 0 0,0):=by
 rw[M3 s ws h hn];generalize found s ws ws.length=l at*;match l,hk,hb with
 |f::r,hk,hb=>
  simp only;rw[if_pos]
  ·rfl
  ·rw[List.all_eq_true]
   intro x hx;obtain⟨i,hi,e⟩:=List.getElem_of_mem hx;have:=hb i hi;rw[List.getD_eq_getElem?_getD,List.getElem?_eq_getElem hi] at this;simp only[Option.getD_some,List.getD_cons_zero] at this;rw[←e];exact this
def months:List ByteArray:=[⟨#[74,97,110,117,97,114,121]⟩,⟨#[70,101,98,114,117,97,114,121]⟩,⟨#[77,97,114,99,104]⟩,⟨#[65,112,114,105,108]⟩,⟨#[77,97,121]⟩,⟨#[74,117,110,101]⟩,⟨#[74,117,108,121]⟩,⟨#[65,117,103,117,115,116]⟩,⟨#[83,101,112,116,101,109,98,101,114]⟩,⟨#[79,99,116,111,98,101,114]⟩,⟨#[78,111,118,101,109,98,101,114]⟩,⟨#[68,101,99,101,109,98,101,114]⟩]
def weekdays:List ByteArray:=[⟨#[83,117,110,100,97,121]⟩,⟨#[77,111,110,100,97,121]⟩,⟨#[84,117,101,115,100,97,121]⟩,⟨#[87,101,100,110,101,115,100,97,121]⟩,⟨#[84,104,117,114,115,100,97,121]⟩,⟨#[70,114,105,100,97,121]⟩,⟨#[83,97,116,117,114,100,97,121]⟩]
theorem mt_err (s:ByteArray) (ws:List ByteArray):(mt s ws).2=0∨(mt s ws).2=3:=by
 unfold mt
 (repeat' split)<;>simp
theorem Ef (a s:ByteArray):begins a s=true↔s.size≤a.size∧ ∀i,i<s.size→alike (at_ a i) (at_ s i)=true:=by
 unfold begins;simp
theorem Yn (a s:ByteArray):same a s=true↔s.size=a.size∧ ∀i,i<s.size→alike (at_ a i) (at_ s i)=true:=by
 unfold same;rw[Bool.and_eq_true,Ef,decide_eq_true_eq];constructor
 ·rintro⟨h1,h2,h3⟩;exact⟨h1.symm,h3⟩
 ·rintro⟨h1,h3⟩;exact⟨h1.symm,by omega,h3⟩
theorem Q7 {a s:ByteArray} (h:same a s=true):begins a s=true:=by
 rw[Yn] at h;rw[Ef];exact⟨by omega,h.2⟩
theorem mt_told (s:ByteArray) (ws:List ByteArray) (i:Nat) (h:mt s ws=(i,0)):
  s.size≠0∧i<ws.length∧begins (uE ws i) s=true∧
  ((same (uE ws i) s=true)∨((∀j,j<ws.length→same (uE ws j) s=false)∧ ∃r,found s ws ws.length=i::r∧ ∀j∈i::r,same (uE ws j) (uE ws i)=true)):=by
 by_cases h0:s.size=0
 ·rw[mt_nil s ws h0] at h;simp at h
 refine⟨h0,?_⟩;unfold mt at h;rw[if_neg h0] at h
 cases e:(List.range ws.length).find? (fun i=>same (uE ws i) s) with
 |some k=>
  rw[e] at h;simp only[Prod.mk.injEq,and_true] at h;subst h;have h1:=List.mem_of_find?_eq_some e;have h2:=List.find?_some e;simp only[List.mem_range] at h1;exact⟨h1,Q7 h2,.inl h2⟩
 |none=>
  rw[e] at h;rw[List.find?_eq_none] at e;have hn: ∀j,j<ws.length→same (uE ws j) s=false:=fun j hj=>by
   have:=e j (by simpa using hj);simpa using this
  simp only at h
  cases ef:found s ws ws.length with
  |nil=>rw[ef] at h;simp at h
  |cons f r=>
   rw[ef] at h;simp only at h;split at h
   ·rename_i hall
    simp only[Prod.mk.injEq,and_true] at h;subst h;have hm:f∈found s ws ws.length:=by rw[ef];simp
    have hl:=G5 s ws _ _ hm;have hb:begins (uE ws f) s=true:=by simp[found] at hm;exact hm.2
    exact⟨hl,hb,.inr ⟨hn,r,rfl,List.all_eq_true.1 hall⟩⟩
   ·simp at h
theorem mt_not (s:ByteArray) (ws:List ByteArray) (i c:Nat) (h:mt s ws=(i,c)) (hc:c≠0):i=0:=by
 unfold mt at h
 (repeat' split at h)<;>simp_all
end Nt.Words
namespace Nt.Ev
open Go Go.RowKit
class nP where val:Int
def bF (L:List (List UInt8)):List V:=L.map V.str
def lS (L:List (List UInt8)):List Value:=L.map fun l=>Value.string ⟨l.toArray⟩
theorem CX {G:aP}: ∀(L:List (List UInt8)) (rest:List Value),bX G [.str] (bF L) (lS L++rest)
 |[],_=>gW
 |l::L,rest=>by
  show bX G [.str] (V.str l::bF L) (Value.string ⟨l.toArray⟩::(lS L++rest));unfold bX;refine⟨rfl,⟨.string ⟨l.toArray⟩,by unfold aO;rfl,rfl⟩,?_⟩;exact CX L rest
theorem new_strs {G:aP} {w:World} (hG:xB G w) (e:Nat) (t:TypeId) (L:List (List UInt8)) (n cap:Nat) (hn:n=L.length) (hcap:n≤cap):
  ∃G',New w (w.alloc (.cells (lS L).toArray t)) G G'∧aO G' (.sl e [.str] none (bF L)) (.slice (some ⟨w.heap.size,0,none⟩) n cap):=by
 refine⟨_,MU hG (ic _ _) (heap_alloc_new w _) (lS L).length (by simp),?_⟩;unfold aO;have hl:(bF L).length=n:=by unfold bF;simp[hn]
 refine⟨_,cap,by rw[hl],by omega,.inr ⟨w.heap.size,0,_,rfl,upd_same _ _ _,?_⟩⟩;have:=CX (G:=upd G w.heap.size (List.take (lS L).length (lS L).toArray.toList)) L [];simpa using this
theorem str_bs (s:ByteArray):s=⟨s.data.toList.toArray⟩:=by cases s;simp
theorem jD {G:aP} {a b:V} {vs:List Value} (h:PW (aO G) [a,b] vs): ∃x y,vs=[x,y]∧aO G a x∧aO G b y:=by
 obtain⟨x,t,rfl,h1,h2⟩:=h.cons_inv;obtain⟨y,t,rfl,h3,h4⟩:=h2.cons_inv;exact⟨x,y,by rw[h4.bU],h1,h3⟩
theorem Gs {G:aP} {a:V} {vs:List Value} (h:PW (aO G) [a] vs): ∃x,vs=[x]∧aO G a x:=by
 obtain⟨x,t,rfl,h1,h2⟩:=h.cons_inv;exact⟨x,by rw[h2.bU],h1⟩
theorem PR {E:Env} {G:aP} {w:World} (hG:xB G w) (hg:nW E G) {n:Nat} {k:IntKind} {m:Int} (h:E.glob n=some (.rptr [.int k] (.int k m) 0)):w.cell? ⟨n,0,none⟩=some (.int k m):=by
 have:=(hg n _ h).2;unfold aO at this;obtain⟨b,o,l,e,hb,_,u,hu,hc⟩:=this;unfold aO at hu;subst hu;simp only[Value.pointer.injEq,Option.some.injEq,Addr.mk.injEq,Nat.add_zero,and_true] at e;obtain⟨rfl,rfl⟩:=e;refine jI hG hb ?_;have h1:=congrArg (fun l=>l[0]?) hc;simpa[Value.cells] using h1
theorem IW {E:Env} {f T mx:Nat} {mv:Int} (hmx:E.glob mx=some (.rptr [.int .i64] (.int .i64 mv) 0)) (s sep:List UInt8) (h1:1≤sep.length) (hs:s.length<4294967281)
  (hc: ∀(s sep:ByteArray) (m:Int) (w:World),s.size<4294967281→w.cell? ⟨mx,0,none⟩=some (.int .i64 m)→1≤sep.size→Calls E.P f #[.string s,.string sep] w fun e w'=>
   e=.returned (.slice (some ⟨w.heap.size,0,none⟩) (Lib.countB s sep+1) (Lib.countB s sep+1))∧w'=w.alloc (.cells ((Lib.splitB sep 0 (Lib.countB s sep) s).map Value.string).toArray T)):
  af E f [.str s,.str sep] (.sl T [.str] none (bF (Lib.splitK sep 0 (Lib.count s sep) s))):=by
 intro G w vs hG hg hp;obtain⟨x,y,rfl,hx,hy⟩:=jD hp;unfold aO at hx hy;subst hx;subst hy;refine(hc ⟨s.toArray⟩ ⟨sep.toArray⟩ mv w (show s.toArray.size<_ by simpa using hs) (PR hG hg hmx) (show 1≤sep.toArray.size by simpa using h1)).mono ?_;rintro e w' ⟨rfl,rfl⟩;have e1:Lib.countB ⟨s.toArray⟩ ⟨sep.toArray⟩=Lib.count s sep:=rfl;have e2:(Lib.splitB ⟨sep.toArray⟩ 0 (Lib.count s sep) ⟨s.toArray⟩).map Value.string=lS (Lib.splitK sep 0 (Lib.count s sep) s):=by
  have:=Lib.splitB_data ⟨sep.toArray⟩ 0 (Lib.count s sep) ⟨s.toArray⟩;rw[show(ByteArray.mk sep.toArray).data.toList=sep from rfl,show(ByteArray.mk s.toArray).data.toList=s from rfl] at this;unfold lS;rw[←this,List.map_map];exact List.map_congr_left fun b _=>by show Value.string b=_;rw[Function.comp_apply,←str_bs]
 rw[e1,e2];have hlen:(Lib.splitK sep 0 (Lib.count s sep) s).length=Lib.count s sep+1:=by
  have h3:=Lib.splitB_all ⟨sep.toArray⟩ (show 1≤sep.toArray.size by simpa using h1) 0 _ ⟨s.toArray⟩ rfl;have h4:=congrArg List.length e2;unfold lS at h4;rw[List.length_map,List.length_map] at h4;rw[←h4];exact h3
 obtain⟨G',hN,hr⟩:=new_strs hG T T (Lib.splitK sep 0 (Lib.count s sep) s) (Lib.count s sep+1) (Lib.count s sep+1) hlen.symm (Nat.le_refl _);exact⟨_,G',rfl,hN,hr⟩
theorem rY (L:List (List UInt8)):(bF L).length=L.length:=by unfold bF;simp
theorem G6 (s:List UInt8) (k:Nat) (hk:k<s.length):s.drop k=s.getD k 0::s.drop (k+1):=by
 rw[List.drop_eq_getElem_cons hk,List.getD_eq_getElem?_getD,List.getElem?_eq_getElem hk];rfl
open Nt
theorem bP {E:Env} {f:Nat} {args:List V} {r:V} (h: ∀(G:aP) (w:World) (vs:List Value),xB G w→nW E G→PW (aO G) args vs→
  Calls E.P f vs.toArray w fun e w'=>∃v,e=.returned v∧Below w.heap.size w w'∧ ∀(G':aP) (w':World) (B:Nat→Prop),fG G' w' B r v):af E f args r:=by
 intro G w vs hG hg hp;refine(h G w vs hG hg hp).mono ?_;rintro e w' ⟨v,rfl,hb,hr⟩;refine⟨v,G,rfl,⟨hb,fun _ _=>rfl,fun b l hl=>?_⟩,hr _ _ _⟩;obtain⟨c,e,fr,hc,ht⟩:=hG b l hl;exact⟨c,e,fr,by rw[hb.block b (d9 hG hl)];exact hc,ht⟩
theorem qE (k:IntKind) (n:Int): ∀(G':aP) (w':World) (B:Nat→Prop),fG G' w' B (.int k n) (.int k n):=fun _ _ _=>by simp only[fG,nO];unfold aO;rfl
theorem PS (b:Bool): ∀(G':aP) (w':World) (B:Nat→Prop),fG G' w' B (.bool b) (.bool b):=fun _ _ _=>by simp only[fG,nO];unfold aO;rfl
theorem M4 (l:List UInt8): ∀(G':aP) (w':World) (B:Nat→Prop),fG G' w' B (.str l) (.string ⟨l.toArray⟩):=fun _ _ _=>by simp only[fG,nO];unfold aO;rfl
def Same (x:V) (v:Value):Prop:=sH x=false∧ ∀(G':aP) (w':World) (B:Nat→Prop),nO G' w' B x v
theorem pI (k:IntKind) (n:Int):Same (.int k n) (.int k n):=⟨rfl,fun _ _ _=>by simp only[nO];unfold aO;rfl⟩
theorem K7 (b:Bool):Same (.bool b) (.bool b):=⟨rfl,fun _ _ _=>by simp only[nO];unfold aO;rfl⟩
theorem G7 (l:List UInt8):Same (.str l) (.string ⟨l.toArray⟩):=⟨rfl,fun _ _ _=>by simp only[nO];unfold aO;rfl⟩
theorem M5 {xs:List V} {vs:List Value} (h:PW Same xs vs): ∀(G':aP) (w':World) (B:Nat→Prop),fG G' w' B (.tup xs) (.tuple vs.toArray):=by
 intro G w B;refine⟨vs,rfl,h.mono fun x _ v hx=>hx.2 G w B,?_⟩;have:xs.countP sH=0:=by
  rw[List.countP_eq_zero];intro x hx;obtain⟨i,hi⟩:=List.getElem?_of_mem hx;obtain⟨v,_,hv⟩:=h.get hi;rw[hv.1];decide
 omega
theorem M6 {x y:V} {a b:Value} (h:Same x a) (k:Same y b): ∀(G':aP) (w':World) (B:Nat→Prop),fG G' w' B (.tup [x,y]) (.tuple #[a,b]):=M5 (vs:=[a,b]) (.cons h (.cons k .nil))
theorem Yo {x y z:V} {a b c:Value} (h:Same x a) (k:Same y b) (l:Same z c): ∀(G':aP) (w':World) (B:Nat→Prop),fG G' w' B (.tup [x,y,z]) (.tuple #[a,b,c]):=M5 (vs:=[a,b,c]) (.cons h (.cons k (.cons l .nil)))
theorem rep_strs {G:aP} {w:World} (hG:xB G w) {e:Nat} {o:Option Nat} {ws:List V} {v:Value} (h:aO G (.sl e [.str] o ws) v) (hws: ∀x∈ws,∃l,x=.str l∧l.length≤1000):
  ∃p cap,v=.slice p ws.length cap∧Strs w p ws.length (ws.map fun x=>(⟨(aH x).toArray⟩:ByteArray)):=by
 unfold aO at h;obtain⟨p,cap,rfl,hcap,h⟩:=h;refine⟨p,cap,rfl,by simp,?_,fun hpos=>?_⟩
 ·intro s hs
  rw[List.mem_map] at hs;obtain⟨x,hx,rfl⟩:=hs;obtain⟨l,rfl,hl⟩:=hws x hx;have:(⟨(aH (V.str l)).toArray⟩:ByteArray).size=l.length:=by simp[ByteArray.size,aH]
  rw[this];unfold maxLen;omega
 ·rcases h with h|⟨b,off,l,rfl,qW,hE⟩
  ·rw[h] at hpos;simp at hpos
  ·refine⟨b,off,rfl,d9 hG qW,fun i hi=>?_⟩
   obtain⟨hf,u,hu,hcs⟩:=vw _ _ hE i _ (List.getElem?_eq_getElem hi);obtain⟨l',hl',_⟩:=hws _ (List.getElem_mem hi);refine jI hG qW ?_;rw[hl'] at hu;unfold aO at hu;subst hu;have h0:=congrArg (fun q=>q[0]?) hcs;simp only[List.length_singleton,Nat.mul_one,Value.cells] at h0;have h1:((l.drop off).drop i)[0]? =some (Value.string ⟨l'.toArray⟩):=by
    rw[List.getElem?_take] at h0;simpa using h0
   rw[List.getElem?_drop,List.getElem?_drop] at h1;rw[show off+i=off+(i+0) by omega,h1];congr 2
   rw[List.getD_eq_getElem?_getD,List.getElem?_map,List.getElem?_eq_getElem hi,hl'];rfl
end Nt.Ev
namespace Go.Proofs.YtplklcejbmfgdaaGreatDoor
open Go Nt Nt.Ev Nt.Num
noncomputable def nE:Env:=⟨Tryz.prog,fun _=>none⟩
theorem nE_ok:tY nE:=⟨by kernel_rfl,by kernel_rfl⟩
def nS0:List (Nat×aG):=[]
noncomputable def nL (F:Nat) (ns:List Nat) (n:Nat) (x0:Int) (x3:List V) (x4 x5:Int) (K:V→Option V):Option V:=
 iG nE nS0 F 1 63 [1,1,1,1,1,0,0] ns K n (mY 35 [(0,V.int .i64 x0),(2,V.str []),(3,V.sl 5 [Kd.int .u8] (some 3) x3),(4,V.int .u64 x4),(5,V.int .u64 x5)] [])
noncomputable def pJ (F:Nat) (ns:List Nat) (n:Nat) (x0:Int) (x3:List V) (x4 x5:Int) (K:V→Option V):Option V:=
 iG nE nS0 F 1 63 [1,1,1,1,1,1,0,0] ns K n (mY 35 [(0,V.int .i64 x0),(2,V.str []),(3,V.sl 5 [Kd.int .u8] (some 3) x3),(4,V.int .u64 x4),(5,V.int .u64 x5)] [])
set_option maxRecDepth 100000 in
theorem Yp (F:Nat) (m:Int) (K:V→Option V):
  bW nE (bT nE nS0 F 1) F 63 [V.int .i64 m] K=
 let A:=Ce 0 (V.int .u8 0);let B:=qh .u64 m;let C:=[V.int .u8 45];sel (aU m 0) (sel (cO A C) (sel (aU m 0) (nL F [] F m (aM A C) (jN .u64 0 B) 1 K) (nL F [] F m (aM A C) B 1 K)) none) (sel (aU m 0) (nL F [] F m A (jN .u64 0 B) 1 K) (nL F [] F m A B 1 K)):=by kernel_rfl
set_option maxRecDepth 100000 in
theorem JI (F n:Nat) (x0:Int) (x3:List V) (x4 x5:Int) (K:V→Option V):
  nL F [] (n+1) x0 x3 x4 x5 K=
 sel (aK (ieq x5 0)) (sel (ak 10 (oO .u64 x4 x5)) (nL F [] n x0 x3 x4 (FD .u64 x5 10) K) (pJ F [] F x0 x3 x4 x5 K)) none:=by kernel_rfl
set_option maxRecDepth 100000 in
theorem yA (F n:Nat) (x0:Int) (x3:List V) (x4 x5:Int) (K:V→Option V):
  pJ F [] (n+1) x0 x3 x4 x5 K=
 let A:=[V.int .u8 (qh .u8 (eu .u64 48 (y7 (oO .u64 x4 x5) 10)))];sel (aU 0 x5) (sel (aK (ieq x5 0)) (sel (cO x3 A) (pJ F [] n x0 (aM x3 A) x4 (oO .u64 x5 10) K) none) none) (K (V.str (gD x3))):=by kernel_rfl
theorem vW (c:UInt8):isDigit c=true↔48≤c.toNat∧c.toNat≤57:=by unfold isDigit;simp
theorem nText_up (m:Int) (x3:List V) (F:Nat) (K:V→Option V) (u:Nat) (hu:u≤9223372036854775808): ∀(n k:Nat),(k=0∨10 ^ k≤u)→20<n+k→
  ∃j,(j=0∨10 ^ j≤u)∧u/10 ^ j<10∧nL F [] n m x3 (u:Int) ((10 ^ k:Nat):Int) K=pJ F [] F m x3 (u:Int) ((10 ^ j:Nat):Int) K:=by
 intro n;induction n with
 |zero=>
  intro k hk hn;exfalso;have h1:10 ^ 21≤10 ^ k:=Nat.pow_le_pow_right (by decide) (by omega);rcases hk with rfl|hk<;>omega
 |succ n ih=>
  intro k hk hn;have hp:0<10 ^ k:=Nat.pow_pos (by decide);have hple:10 ^ k≤9223372036854775808:=by
   rcases hk with rfl|hk
   ·decide
   ·omega
  rw[JI];simp only[bV,bZ,aL,ay];rw[if_pos (by omega)];have hq:oO .u64 (u:Int) ((10 ^ k:Nat):Int)=((u/10 ^ k:Nat):Int):=by
   rw[MZ (by omega) (by omega) (by omega)];rfl
  rw[hq];by_cases h10:10≤u/10 ^ k
  ·rw[if_pos (by omega)]
   have h1:10 ^ (k+1)≤u:=by
    rw[Nat.le_div_iff_mul_le hp] at h10;rw[Nat.pow_succ];omega
   have hm:FD .u64 ((10 ^ k:Nat):Int) 10=((10 ^ (k+1):Nat):Int):=by
    rw[imulu64 (by rw[Nat.pow_succ] at h1;omega),Nat.pow_succ];omega
   rw[hm];exact ih (k+1) (.inr h1) (by omega)
  ·rw[if_neg (by omega)]
   exact⟨k,hk,by omega,rfl⟩
theorem lcat_map (l:List UInt8) (c:UInt8):aM (aI l) [V.int .u8 (c.toNat:Int)]=aI (l++[c]):=by unfold aM aI;simp
theorem Uh (l:List UInt8):gD (aI l)=l:=by
 unfold gD aI;rw[List.map_map];conv=>rhs;rw[←List.map_id l]
 refine List.map_congr_left fun c _=>?_
 show UInt8.ofNat ((c.toNat:Int)).toNat=c;simp
theorem Ui (m:Int) (F:Nat) (K:V→Option V) (u k:Nat) (hu:u≤9223372036854775808) (hk:u/10 ^ k<10) (hl:k=0∨10 ^ k≤u) (pre:List UInt8) (hpre:pre.length≤1):
  ∀(j n:Nat),j≤k→j+1<n→pJ F [] n m (aI (pre++Num.ahead u k (j+1))) (u:Int) ((10 ^ j:Nat):Int) K=K (.str (pre++fP u)):=by
 have hk20:k≤20:=by
  rcases Nat.lt_or_ge 20 k with h|h
  ·exfalso
   have h1:10 ^ 21≤10 ^ k:=Nat.pow_le_pow_right (by decide) (by omega);rcases hl with rfl|hl<;>omega
  ·exact h
 have step: ∀(j n:Nat),j≤k→pJ F [] (n+1) m (aI (pre++Num.ahead u k (j+1))) (u:Int) ((10 ^ j:Nat):Int) K=pJ F [] n m (aI (pre++Num.ahead u k j)) (u:Int) ((10 ^ j/10:Nat):Int) K:=by
  intro j n hj;have hp:0<10 ^ j:=Nat.pow_pos (by decide);have hple:10 ^ j≤9223372036854775808:=by
   rcases hl with rfl|hl
   ·obtain rfl:j=0:=by omega
    decide
   ·exact Nat.le_trans (Nat.le_trans (Nat.pow_le_pow_right (by decide) hj) hl) hu
  (rw[yA];(conv=>zeta))
  simp only[bV,bZ,aL,bf,iM];have hlen:(aI (pre++Num.ahead u k (j+1))).length≤100:=by
   unfold aI;rw[List.length_map,List.length_append];have:(Num.ahead u k (j+1)).length≤20:=by
    unfold Num.ahead;split
    ·refine(rH 20 _ ?_ (by decide)).1
     have:=Nat.div_le_self u (10 ^ (j+1));omega
    ·simp
   omega
  rw[if_pos (by omega),if_pos (by omega),if_pos (by simp;omega)];have hq:oO .u64 (u:Int) ((10 ^ j:Nat):Int)=((u/10 ^ j:Nat):Int):=by
   rw[MZ (by omega) (by omega) (by omega)];rfl
  have hr:y7 ((u/10 ^ j:Nat):Int) 10=((u/10 ^ j%10:Nat):Int):=by rw[vD (Int.natCast_nonneg _)];rfl
  have hd:=jM (u/10 ^ j%10) (Nat.mod_lt _ (by decide));have hc:qh .u8 (eu .u64 48 ((u/10 ^ j%10:Nat):Int))=((digit (u/10 ^ j%10)).toNat:Int):=by
   have hm:=Nat.mod_lt (u/10 ^ j) (show 0<10 by decide);rw[iaddu64 (by omega),icnvu8 (by omega),hd];omega
  have hq2:oO .u64 ((10 ^ j:Nat):Int) 10=((10 ^ j/10:Nat):Int):=by
   rw[MZ (by omega) (by omega) (by omega)];rfl
  rw[hq,hr,hc,hq2,lcat_map,List.append_assoc,←Iy u k j hk hl hj]
 intro j;induction j with
 |zero=>
  intro n hj hn;obtain⟨n,rfl⟩: ∃n',n=n'+1:=⟨n-1,by omega⟩
  rw[step 0 n hj,Yk];obtain⟨n,rfl⟩: ∃n',n=n'+1:=⟨n-1,by omega⟩
  (rw[yA];(conv=>zeta))
  simp only[bV,bf];rw[if_neg (by decide),Uh]
 |succ j ih=>
  intro n hj hn;obtain⟨n,rfl⟩: ∃n',n=n'+1:=⟨n-1,by omega⟩
  have e1:10 ^ (j+1)/10=10 ^ j:=by rw[Nat.pow_succ];omega
  rw[step (j+1) n hj,e1];exact ih n (by omega) (by omega)
theorem Bl (m:Int) (h:Fits m):af nE 63 [.int .i64 m] (.str (text m)):=by
 obtain⟨h1,h2⟩:=h;refine aj nE_ok (S:=nS0) bn.nil 30 1 ?_
 (rw[Yp];(conv=>zeta))
 simp only[bV,bf,iM];have both: ∀(pre:List UInt8) (u:Nat),pre.length≤1→u≤9223372036854775808→nL 30 [] 30 m (aI pre) (u:Int) 1 some=some (.str (pre++fP u)):=by
  intro pre u hp hu;obtain⟨j,hj1,hj2,hj⟩:=nText_up m (aI pre) 30 some u hu 30 0 (.inl rfl) (by omega);have hj20:j≤20:=by
   rcases Nat.lt_or_ge 20 j with h|h
   ·exfalso
    have h1:10 ^ 21≤10 ^ j:=Nat.pow_le_pow_right (by decide) (by omega);rcases hj1 with rfl|hl<;>omega
   ·exact h
  have hd:=Ui m 30 some u j hu hj2 hj1 pre hp j 30 (Nat.le_refl _) (by omega);have e1:Num.ahead u j (j+1)=[]:=by unfold Num.ahead;rw[if_neg (by omega)]
  rw[e1,List.append_nil] at hd;rw[←hd,←hj];rfl
 have e0:Ce 0 (V.int .u8 0)=aI []:=rfl;have e45:aM (aI []) [V.int .u8 45]=aI [45]:=rfl;rw[e0,e45];unfold text;by_cases hm:m<0
 ·rw[if_pos hm,if_pos (by decide),if_pos hm,if_pos hm]
  have e1:jN .u64 0 (qh .u64 m)=((m.natAbs:Nat):Int):=by
   unfold jN qh;rw[IntKind.wrap_u64,IntKind.wrap_u64];omega
  rw[e1];exact both [45] m.natAbs (by simp) (by omega)
 ·rw[if_neg hm,if_neg hm,if_neg hm]
  have e1:qh .u64 m=((m.natAbs:Nat):Int):=by rw[icnvu64 (by omega)];omega
  rw[e1];exact both [] m.natAbs (by simp) (by omega)
end Go.Proofs.YtplklcejbmfgdaaGreatDoor
namespace Nt
open Go Go.RowKit Go.ChangeShapes Go.WideShapes Go.ChangeAt
open Go.ChangeMaps (open_string shut_string)
section
variable {H:Type} {enc:TypeId×Value→H} {P:Program}
theorem yB (hl:laidOutB P=true) {W W':World} (hb:Below W.heap.size W W'):
  ∀(ts:List TypeId) (vs:List Value) (ds:List (DataW H)) (ps:List MemPlace),(ts.all fun t=>P.readableRec t&&decide (t<P.types.size))=true→
  DataW.TrodAll enc P W 0 (fun _=>true) true ts vs ds ps→DataW.TrodAll enc P W' 0 (fun b=>decide (b<W.heap.size)) true ts vs ds ps
 |[],[],[],_,_,h=>h
 |[],_::_,_,_,_,h=>by simp[DataW.TrodAll] at h
 |[],[],_::_,_,_,h=>by simp[DataW.TrodAll] at h
 |_::_,[],_,_,_,h=>by simp[DataW.TrodAll] at h
 |_::_,_::_,[],_,_,h=>by simp[DataW.TrodAll] at h
 |t::ts,v::vs,d::ds,ps,hr,h=>by
  simp only[List.all_cons,Bool.and_eq_true,decide_eq_true_eq] at hr;obtain⟨p,q,hp,hq,e⟩:=h;refine⟨p,q,?_,yB hl hb ts vs ds q hr.2 hq,e⟩;have lt: ∀x∈p,x.block<W.heap.size:=by obtain⟨m,hm⟩:=hp;exact DataW.trod_lt m _ _ _ hm
  exact Below.trod hl hr.1.1 hr.1.2 hp hb lt
end
section
variable {H:Type} {enc:TypeId×Value→H} {P:Program}
end
end Nt
namespace Nt.Ev.YtplklcejbmfgdaaGreatDoor
open Go Nt.Num Go.Proofs.YtplklcejbmfgdaaGreatDoor
noncomputable def oE:Env:=⟨Go.Proofs.Tryz.prog,fun _=>none⟩
noncomputable def oS:List (Nat×aG):=[]
open Go.RowKit Nt
theorem F5:tY oE:=⟨by kernel_rfl,by kernel_rfl⟩
theorem oS_ok:bn oE oS:=bn.nil
def strsOf (xs:List V):List (List UInt8):=xs.map fun x=>aH (ah x 0)
theorem VS (l:List V) (i:Nat) (h:i<l.length):(strsOf l).drop i=aH (ah (aX l (i:Int)) 0)::(strsOf l).drop (i+1):=by
 have hl:(strsOf l).length=l.length:=by unfold strsOf;simp
 rw[List.drop_eq_getElem_cons (by omega)];congr 1
 unfold strsOf;rw[List.getElem_map];unfold aX;rw[Int.toNat_natCast,List.getD_eq_getElem?_getD,List.getElem?_eq_getElem h];rfl
theorem vs_len (l:List V):(strsOf l).length=l.length:=by unfold strsOf;simp
theorem N6 {E:Env} {f:Nat} {args:List V} {e:Nat} {sh:List Kd} {ys:List V} (h:af E f args (.tup (.nilsl::ys))):af E f args (.tup (.sl e sh none []::ys)):=by
 intro G w vs hG hg hp;refine(h G w vs hG hg hp).mono ?_;rintro e' w' ⟨v,G',rfl,hn,a,rfl,hpw,hc⟩;refine⟨_,G',rfl,hn,a,rfl,?_,hc⟩;match a,hpw with
 |[],hpw=>exact absurd hpw.1 (by simp)
 |u::us,hpw=>
  refine .cons ?_ hpw.tail;have h1:=hpw.head;have h2:u=.slice none 0 0:=h1;subst h2;show aO G' _ _;unfold aO;exact⟨none,0,rfl,Nat.le_refl _,.inl rfl⟩
end Nt.Ev.YtplklcejbmfgdaaGreatDoor
