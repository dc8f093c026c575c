/-
  A namespace. Plain facts on bytes, strings and byte lists, used by all walks of this work.
-/
import Derived.Lib.IndexAny
import Derived.Lib.Bytealg
import Derived.WalkSpells
import Derived.WalkLawsBesides
import Derived.Deep.QuietTactic
import Derived.BigQuiet
import Derived.Handy
import Derived.Lib.Hide
import Derived.Lib.Strings
import Derived.Lib.SlTrimSet
import Derived.Test.YtknhlobahpgkeaaGreatDoorMBB
import Derived.Lib.SplitLaws
import Derived.Test.YtknhlobahpgkeaaGreatDoorProg
import Derived.ProofKit
import Derived.ShutString
import Derived.ChangeOld
import Derived.Below
import Derived.SliceStrings
import Derived.LaidMore
import Derived.Stop.Joined
set_option linter.all false
namespace Go.Proofs.YtknhlobahpgkeaaGreatDoor
theorem here:True:=trivial
end Go.Proofs.YtknhlobahpgkeaaGreatDoor
namespace Nt
open Go Go.RowKit
def at_ (s:ByteArray) (i:Nat):UInt8:=s.data.toList.getD i 0
theorem Na (s:ByteArray) (i:Nat) (h:i<s.size):at_ s i=s[i]:=by unfold at_;rw[mg,iZ (by simpa using h)];rfl
theorem LF (c:UInt8):bits BinOp.or IntKind.u8 (↑c.toNat) 32=((c.toNat|||32:Nat):Int):=by
 have h: ∀n:Fin 256,bits BinOp.or IntKind.u8 (((n:Nat):Int)) 32=(((n:Nat)|||32:Nat):Int):=by decide+kernel
 exact h ⟨c.toNat,c.toNat_lt⟩
theorem quiet2 {P:Program} {f:FuncId} {args:Array Value} {w:World} {k n:Nat} {v:Value}
  (h:Calls P f args (w.drewN (k+n)) fun e w'=>e=.returned v∧ ∃m,w'=(w.drewN (k+n)).drewN m):Calls P f args (w.drewN (k+n)) fun e a=>e=.returned v∧ ∃m,a=w.drewN (k+m):=
 h.mono fun _ _ ⟨c,m,b⟩=>⟨c,n+m,by rw[b,World.drewN_drewN,acH]⟩
theorem EH {P:Program} {f:FuncId} {args:Array Value} {w:World} {k n:Nat} {v:Value}
  (h:Calls P f args (w.drewN (k+n)) fun e w'=>e=.returned v∧w'=w.drewN (k+n)):Calls P f args (w.drewN (k+n)) fun e a=>e=.returned v∧ ∃m,a=w.drewN (k+m):=
 h.mono fun _ _ ⟨c,b⟩=>⟨c,n,b⟩
theorem vX {a b:Bool} (h:a=b):Ending.returned (.bool a)=.returned (.bool b):=by rw[h]
theorem Xa {k:IntKind} {a b:Int} (h:a=b):Ending.returned (.int k a)=.returned (.int k b):=by rw[h]
def Strs (w:World) (p:Option Addr) (len:Nat) (a:List ByteArray):Prop:=
 a.length=len∧(∀s∈a,s.size≤maxLen)∧(0<len→ ∃b off,p=some ⟨b,off,none⟩∧b<w.heap.size∧ ∀i,i<len→w.cell? ⟨b,off+i,none⟩=some (.string (a.getD i ByteArray.empty)))
theorem Strs.below {w w':World} {p:Option Addr} {len:Nat} {c:List ByteArray} (h:Strs w p len c) (d:Below w.heap.size w w'):Strs w' p len c:=by obtain⟨l,g,j⟩:=h;refine⟨l,g,fun f=>?_⟩;obtain⟨b,off,e,a,m⟩:=j f;exact⟨b,off,e,Nat.lt_of_lt_of_le a d.size,fun i k=>(d.cell (p:=⟨b,off+i,none⟩) a).trans (m i k)⟩
theorem Strs.mem {w:World} {p:Option Addr} {len:Nat} {a:List ByteArray} (h:Strs w p len a) {i:Nat} (d:i<len):(a.getD i ByteArray.empty).size≤maxLen:=by obtain⟨c,b,_⟩:=h;rw[mg,iZ (by omega)];exact b _ (Ga _)
theorem below_drewN {B:Nat} {a w:World} (h:Below B a w) (n:Nat):Below B a (w.drewN n):=⟨h.os,h.tape,h.output,h.size,h.block⟩
theorem U7 {B:Nat} {w w':World} (h: ∃n,w'=w.drewN n):Below B w w':=by obtain⟨n,rfl⟩:=h;exact Nt.below_drewN (Below.refl _ _) n
theorem append1 {P:Program} {ops:Array Oper} {d:List Oper} {o:Oper} {a:Act} {Q:Exit→Act→World→Prop} (p:o.guard=none) (s x:Operand) (t:TypeId)
  (J:o.op=.call {callee:=.builtin .append,args:= #[s,x],argTypes:= #[t,t]})
  (b:Nat) (e:TypeId) (z:Value) (bytes:Nat) (E:P.underlying t=some (.slice e))
  (g:(P.info? e).map (fun i=>(i.zero,i.size,i.bytes))=some (some z,1,bytes)) (A:z.cells.size=1)
  (v:Value) (n:Nat) (xs:List Value) (wr:World) (y:Value) (H:TypeId) (M:a.eval s=v) (c:wr.ownsRow b e 1 v n xs)
  (O:a.eval x=.slice (some ⟨wr.heap.size,0,none⟩) 1 1) (K:y.oneCell'=true)
  (C:(n+1)*bytes≤140737488355328) (F:0<bytes) (f:b≤wr.heap.size)
  (h: ∀l w',w'.ownsRow b e 1 l (n+1) (xs++[y])→Below b wr w'→wpList P ops Q d (a.put o.dst l) w'):
  wpList P ops Q (o::d) a (wr.alloc (.cells #[y] H)):=by
 obtain⟨i0,N,q,r,w⟩:=info_parts g;have I:n+1≤140737488355328:=Cr (ac3 _ F) C;refine wpList_append_own _ p s x t J b e i0 z 1 bytes E N q r w A (by decide) v n xs M (c.alloc _) ⟨wr.heap.size,0,none⟩ 1 1 [y] O rfl ?_ ?_ ?_ C ?_ ?_
 ·intro j u m
  match j,m with
  |0,m=>simp at m;subst m;simp[Addr.add]
 ·intro u B;simp at B;subst B;exact K
 ·unfold maxLen;omega
 ·simp;omega
 intro l w' D L _;refine h l w' D ?_;refine((Below.refl b wr).alloc f _).grown L (by simp;omega) ?_;intro k G;exact(c.lt k G).1
theorem Jh {w:World} {b e:Nat} {v:Value} {n:Nat} {xs:List Value} (h:w.ownsRow b e 1 v n xs) (q:0<n):
  ∃g cap,v=.slice (some ⟨g,0,none⟩) n cap∧b≤g∧g<w.heap.size∧ ∀i,i<n→w.cell? ⟨g,0+i,none⟩=some (xs.getD i undef):=by
 have c:=h.lt;have a: ∀{g:Nat},v.ownBlock=some g→ ∀j u,xs[j]? =some u→w.cell? ((⟨g,0,none⟩:Addr).add j)=some u:=fun d=>h.cells d
 obtain⟨s,f⟩:=h;rcases f with⟨_,f⟩|⟨g,cap,l,m,d,o,r⟩
 ·omega
 subst m;refine⟨g,cap,rfl,d,(c g rfl).2,fun i p=>?_⟩;have:=a (g:=g) rfl i (xs.getD i undef) (by rw[mg,iZ (by omega)];rfl);rw[←this];by_cases k:i=0
 ·subst k;simp[Addr.add]
 simp[Addr.add,k]
theorem ZD {w:World} {a e:Nat} {v:Value} {n:Nat} {xs:List Value} (h:w.ownsRow a e 1 v n xs): ∃p cap,v=.slice p n cap:=by
 obtain⟨_,b⟩:=h;rcases b with⟨b,f⟩|⟨g,cap,c,d,_⟩
 ·subst f;exact⟨none,0,b⟩
 exact⟨_,_,d⟩
theorem toList_eq (s:ByteArray):s.toList=s.data.toList:=ByteArray.toList_eq s
theorem wJ (s:ByteArray) (h:s.size=0):s.toList.isEmpty=true:=by rw[toList_eq,List.isEmpty_iff,←List.length_eq_zero_iff];simpa using h
theorem zR (s:ByteArray) (h:s.size≠0):s.toList.isEmpty=false:=by
 rw[toList_eq]
 cases e:s.data.toList with
 |nil=>exact absurd (by have:=congrArg List.length e;simpa using this) h
 |cons a l=>rfl
theorem yB {w:World} {a e b:Nat} {v:Value} {n:Nat} {xs:List Value} (h:w.ownsRow a e b v n xs) (k:Nat):(w.drewN k).ownsRow a e b v n xs:=h
end Nt
namespace Nt.Num
open Go Go.RowKit Nt
def Fits (n:Int):Prop:= -9223372036854775808≤n∧n≤9223372036854775807
instance (n:Int):Decidable (Fits n):=inferInstanceAs (Decidable (_∧_))
def told (n:Int):Int×Int:=if Fits n then(n,0) else(0,1)
theorem jw {n:Int} (h:Fits n):told n=(n,0):=if_pos h
theorem kY {n:Int} (h: ¬Fits n):told n=(0,1):=if_neg h
def MK (a b:Int):Int×Int×Int:=
 if b=0∨(a= -9223372036854775808∧b= -1) then(0,0,1)
 else if a.tmod b≠0∧ ¬(a.tmod b<0↔b<0) then(a.tdiv b-1,a.tmod b+b,0) else(a.tdiv b,a.tmod b,0)
theorem LG (a b:Int) (d:b≠0) (c: ¬(a= -9223372036854775808∧b= -1)):
  MK a b=if a.tmod b≠0∧ ¬(a.tmod b<0↔b<0) then(a.tdiv b-1,a.tmod b+b,0) else(a.tdiv b,a.tmod b,0):=by
 unfold MK;rw[if_neg (by rintro(h|h);exact d h;exact c h)]
theorem NK (a b:Int) (d:b≠0): -(b.natAbs:Int)<a.tmod b∧a.tmod b<b.natAbs:=by
 have c:=Int.natAbs_tmod a b;have e:(a.tmod b).natAbs<b.natAbs:=by rw[c];exact acL _ (by omega)
 omega
theorem Qx (a b:Int):(a.tdiv b).natAbs≤a.natAbs:=by rw[acQ];exact Nat.div_le_self _ _
theorem U8 (a b:Int) (g:Fits a) (e:Fits b) (d:b≠0) (f: ¬(a= -9223372036854775808∧b= -1)):
  -9223372036854775808≤a.tdiv b∧a.tdiv b≤9223372036854775807∧-9223372036854775807≤a.tmod b∧a.tmod b≤9223372036854775807:=by
 obtain⟨o,p⟩:=g;obtain⟨k,n⟩:=e;have r:=NK a b d;have q:=Qx a b;refine⟨by omega,?_,by omega,by omega⟩;by_cases j:a= -9223372036854775808
 ·have i:b≠-1:=fun h=>f ⟨j,h⟩
  by_cases c:b=1
  ·subst c;rw[Int.tdiv_one];omega
  have l:(a.tdiv b).natAbs=a.natAbs/b.natAbs:=acQ a b;have m:a.natAbs/b.natAbs≤a.natAbs/2:=Nat.div_le_div_left (by omega) (by omega);omega
 omega
theorem xor_neg (r b:Int) (g:Fits r) (i:Fits b):bits .xor .i64 r b<0↔ ¬(r<0↔b<0):=by
 have msb: ∀x:Int,Fits x→(BitVec.ofInt 64 x).msb=decide (x<0):=fun x d=>by rw[BitVec.msb_eq_toInt,BitVec.toInt_ofInt,Int.bmod_eq_of_le (by unfold Fits at d;omega) (by unfold Fits at d;omega)]
 have l: ∀n:Nat,n<18446744073709551616→(IntKind.i64.wrap (n:Int)<0↔9223372036854775808≤n):=fun n m=>by rw[IntKind.wrap_i64];omega
 have f:(BitVec.ofInt 64 r ^^^ BitVec.ofInt 64 b).msb=(decide (r<0) ^^ decide (b<0)):=by rw[BitVec.msb_xor,msb r g,msb b i]
 have h:bits .xor .i64 r b=IntKind.i64.wrap (((BitVec.ofInt 64 r ^^^ BitVec.ofInt 64 b).toNat:Nat):Int):=rfl;have k:=(BitVec.ofInt 64 r ^^^ BitVec.ofInt 64 b).isLt;rw[h,l _ k];have e:=BitVec.msb_eq_decide (BitVec.ofInt 64 r ^^^ BitVec.ofInt 64 b);rw[f] at e;have j:(9223372036854775808≤(BitVec.ofInt 64 r ^^^ BitVec.ofInt 64 b).toNat)↔(decide (r<0) ^^ decide (b<0))=true:=by rw[e,lG]
 rw[j];by_cases c:r<0<;>by_cases a:b<0<;>simp[c,a]
theorem ZE {n:Int} (h:9223372036854775807<n) (a:n≤18446744073709551615):wrap64 n<0:=by unfold wrap64;omega
theorem U9 {n:Int} (h:n< -9223372036854775808) (a: -18446744073709551616≤n):0≤wrap64 n:=by unfold wrap64;omega
theorem Xb (a b:Int):(a*b).natAbs=a.natAbs*b.natAbs:=Int.natAbs_mul a b
theorem ZF (a b:Int) (h: ¬(a<0↔b<0)):a*b= -((a.natAbs*b.natAbs:Nat):Int):=by
 have c:=Xb a b;have e:a*b≤0:=by
  by_cases d:a<0
  ·exact Int.mul_nonpos_of_nonpos_of_nonneg (by omega) (by omega)
  exact Int.mul_nonpos_of_nonneg_of_nonpos (by omega) (by omega)
 omega
theorem ZG (a b:Int) (h:a<0↔b<0):a*b=((a.natAbs*b.natAbs:Nat):Int):=by
 have c:=Xb a b;have e:0≤a*b:=by
  by_cases d:a<0
  ·exact Int.mul_nonneg_of_nonpos_of_nonpos (by omega) (by omega)
  exact Int.mul_nonneg (by omega) (by omega)
 omega
def bs (l:af):ByteArray:=⟨l.toArray⟩
theorem wW (l:af):(bs l).size=l.length:=by simp[bs,ByteArray.size]
def digit (k:Nat):UInt8:=UInt8.ofNat (48+k)
theorem jV (k:Nat) (h:k<10):(digit k).toNat=48+k:=by unfold digit;rw[UInt8.toNat_ofNat'];omega
def Gz:Nat→Nat→af
 |0,_=>[]
 |f+1,n=>if n<10 then[digit n] else Gz f (n/10)++[digit (n%10)]
theorem EI: ∀(f g n:Nat),n<f→n<g→Gz f n=Gz g n
 |0,_,_,h,_=>by omega
 |_,0,_,_,h=>by omega
 |f+1,g+1,n,b,a=>by
  unfold Gz;split
  ·rfl
  rw[EI f g (n/10) (by omega) (by omega)]
def gy (n:Nat):af:=Gz (n+1) n
theorem lD (n:Nat) (h:n<10):gy n=[digit n]:=by unfold gy Gz;rw[if_pos h]
theorem oO (n:Nat) (h:10≤n):gy n=gy (n/10)++[digit (n%10)]:=by
 conv=>lhs;unfold gy Gz
 rw[if_neg (by omega),EI n (n/10+1) (n/10) (by omega) (by omega)];rfl
theorem rZ: ∀(f n:Nat),n<10 ^ f→0<f→(gy n).length≤f∧0<(gy n).length
 |0,_,_,h=>by omega
 |f+1,n,h,_=>by
  by_cases c:n<10
  ·rw[lD n c];simp
  rw[oO n (by omega)];have a:0<f:=by
   by_cases b:f=0
   ·subst b;omega
   omega
  have:=rZ f (n/10) (by rw[ach] at h;omega) a;simp;omega
def text (n:Int):af:=(if n<0 then[45] else[])++gy n.natAbs
theorem vY (n:Int) (h:Fits n):(text n).length≤21∧0<(text n).length:=by have:=rZ 20 n.natAbs (by unfold Fits at h;omega) (by decide);unfold text;split<;>simp<;>omega
def ahead (u k m:Nat):af:=if m≤k then gy (u/10 ^ m) else[]
theorem uq (u k m:Nat) (b:u/10 ^ k<10) (a:k=0∨10 ^ k≤u) (c:m≤k):ahead u k m=ahead u k (m+1)++[digit (u/10 ^ m%10)]:=by
 unfold ahead;rw[if_pos c];by_cases h:m=k
 ·subst h
  rw[if_neg (by omega),lD _ b,Fx,Nat.mod_eq_of_lt b]
 rw[if_pos (by omega)];have e:10 ^ (m+1)≤u:=by
  rcases a with a|a
  ·omega
  exact Cr (abp (by decide) (by omega)) a
 have d:10≤u/10 ^ m:=by rw[Nat.le_div_iff_mul_le (ade (by decide))];rw[ach] at e;omega
 rw[oO _ d,Nat.div_div_eq_div_mul,ach]
theorem ZH (u k:Nat):ahead u k 0=gy u:=by unfold ahead;simp
def isDigit (c:UInt8):Bool:=decide (48≤c.toNat)&&decide (c.toNat≤57)
def minus (l:af):Bool:=match l with|c::_=>c==45|[]=>false
def bare (l:af):af:=if minus l then l.drop 1 else l
def good (l:af):Bool:=(bare l).all isDigit&& !(bare l).isEmpty&&(!((bare l).getD 0 0==48)||(decide ((bare l).length=1)&& !minus l))
def val (d:af):Nat:=d.foldl (fun n c=>10*n+(c.toNat-48)) 0
def read (l:af):Int×Int:=if good l then told (if minus l then -(val (bare l):Int) else(val (bare l):Int)) else(0,2)
theorem Qy (d:af) (c:UInt8):val (d++[c])=10*val d+(c.toNat-48):=by unfold val;rw[List.foldl_append];rfl
theorem Bu (d:af) (k:Nat) (h:k<d.length):val (d.take (k+1))=10*val (d.take k)+((d.getD k 0).toNat-48):=by rw[acz,mg,iZ h];exact Qy _ _
theorem val_mono (d:af) (k:Nat): ∀m,k≤m→val (d.take k)≤val (d.take m):=by
 intro m;induction m with
 |zero=>
  intro h;have e:k=0:=by omega
  rw[e];exact lg _
 |succ m c=>
  intro h;by_cases e:k=m+1
  ·rw[e];exact lg _
  have a:=c (by omega);by_cases b:m<d.length
  ·rw[Bu d m b];omega
  rw[O9 (show d.length≤m+1 by omega)];rw[O9 (show d.length≤m by omega)] at a;exact a
theorem val_le (d:af) (k:Nat):val (d.take k)≤val d:=by
 by_cases h:k≤d.length
 ·have:=val_mono d k d.length h
  rwa [abJ] at this
 rw[O9 (by omega)];exact lg _
theorem val_lt (d:af) (b:d.all isDigit=true): ∀k,val (d.take k)<10 ^ k:=by
 intro k;induction k with
 |zero=>simp[val]
 |succ k a=>
  by_cases h:k<d.length
  ·have c:=List.all_eq_true.1 b (d.getD k 0) (by rw[mg,iZ h];exact Ga _)
   simp only[isDigit,bC,lG] at c;rw[Bu d k h,ach];omega
  rw[O9 (by omega)];rw[O9 (by omega)] at a;exact Nat.lt_of_lt_of_le a (abp (by decide) (by omega))
def signed (below:Bool) (n:Nat):Int:=if below then -(n:Int) else n
theorem Sc (below:Bool) (d:af) (k:Nat) (h:k<d.length) (a:d.all isDigit=true):
  signed below (val (d.take (k+1)))=signed below (val (d.take k))*10+(if below then -((d.getD k 0).toNat-48:Int) else((d.getD k 0).toNat-48:Int)):=by
 have b:=List.all_eq_true.1 a (d.getD k 0) (by rw[mg,iZ h];exact Ga _);simp only[isDigit,bC,lG] at b;rw[Bu d k h];generalize (d.getD k 0).toNat=c at*;unfold signed
 cases below<;>simp<;>omega
theorem Sd (below:Bool) (n m:Nat) (h:n≤m) (a: ¬Fits (signed below n)): ¬Fits (signed below m):=by
 unfold Fits signed at*
 cases below<;>simp at* <;>omega
theorem Se (d:af):(Lib.trimS d [48,49,50,51,52,53,54,55,56,57]=[])↔d.all isDigit=true:=by
 have f: ∀c:UInt8,([48,49,50,51,52,53,54,55,56,57]:af).contains c=isDigit c:=by
  have h: ∀n:Fin 256,([48,49,50,51,52,53,54,55,56,57]:af).contains (UInt8.ofNat n)=isDigit (UInt8.ofNat n):=by decide+kernel
  intro c;have:=h ⟨c.toNat,c.toNat_lt⟩;simpa using this
 have b: ∀(p:UInt8→Bool) (l:af),l.dropWhile p=[]↔ ∀x∈l,p x=true:=by
  intro p l;induction l with
  |nil=>simp
  |cons a l g=>
   rw[abm];split
   ·rename_i h;rw[g];simp[h]
   rename_i h;simp[h]
 have e: ∀l:af,(∀x∈l.dropWhile isDigit,isDigit x=true)↔ ∀x∈l,isDigit x=true:=by
  intro l;induction l with
  |nil=>simp
  |cons a l g=>
   rw[abm];split
   ·rename_i h;rw[g];simp[h]
   rfl
 unfold Lib.trimS Lib.trimLeftS Lib.trimRightS;simp only[f];rw[b,l8];simp only[List.mem_reverse];rw[e];simp
theorem yC (k:Nat) (h:k<10):isDigit (digit k)=true:=by unfold isDigit;rw[jV k h];simp;omega
theorem r9: ∀(f n:Nat),n<f→(gy n).all isDigit=true∧gy n≠[]
 |0,_,h=>by omega
 |f+1,n,h=>by
  by_cases a:n<10
  ·rw[lD n a]
   exact⟨by simp[yC n a],by simp⟩
  rw[oO n (by omega),ac9];have:=r9 f (n/10) (by omega);refine⟨?_,by simp⟩;rw[this.1];simp[yC (n%10) (acL _ (by decide))]
theorem Bv: ∀(f n:Nat),n<f→val (gy n)=n
 |0,_,h=>by omega
 |f+1,n,h=>by
  by_cases a:n<10
  ·rw[lD n a]
   show 10*0+((digit n).toNat-48)=n;rw[jV n a];omega
  rw[oO n (by omega),Qy,Bv f (n/10) (by omega),jV _ (acL _ (by decide))];omega
theorem LH: ∀(f n:Nat),n<f→1≤n→((gy n).getD 0 0==48)=false
 |0,_,h,_=>by omega
 |f+1,n,h,g=>by
  by_cases c:n<10
  ·rw[lD n c]
   simp only[abQ,uE];intro e;have:=congrArg UInt8.toNat e;rw[jV n c] at this;have b:(48:UInt8).toNat=48:=rfl;omega
  rw[oO n (by omega)];have b:=(r9 (n/10+1) (n/10) (by omega)).2;have d:0<(gy (n/10)).length:=by
   cases e:gy (n/10) with
   |nil=>exact absurd e b
   |cons a l=>simp
  have:(gy (n/10)++[digit (n%10)]).getD 0 0=(gy (n/10)).getD 0 0:=by rw[mg,mg,abn d]
  rw[this];exact LH f (n/10) (by omega) (by omega)
theorem Va (m:Nat):minus (gy m)=false:=by
 have h:=r9 (m+1) m (by omega)
 cases e:gy m with
 |nil=>rfl
 |cons c l=>rw[e] at h;simp only[Pg,bC,isDigit,lG] at h;unfold minus;rw[uE];intro a;rw[a] at h;have b:(45:UInt8).toNat=45:=rfl;omega
theorem LJ (m:Nat) (h:1≤m) (b:Bool):((gy m).all isDigit&& !(gy m).isEmpty&&(!((gy m).getD 0 0==48)||(decide ((gy m).length=1)&&b)))=true:=by
 have c:=r9 (m+1) m (by omega);have d:=LH (m+1) m (by omega) h;have f:(gy m).isEmpty=false:=by
  cases e:gy m with
  |nil=>exact absurd e c.2
  |cons a l=>rfl
 rw[c.1,d,f];rfl
theorem LK (n:Int) (d:Fits n):read (text n)=(n,0):=by
 by_cases h:n<0
 ·have e:text n=45::gy n.natAbs:=by unfold text;rw[if_pos h];rfl
  have a:minus (45::gy n.natAbs)=true:=rfl;have b:bare (45::gy n.natAbs)=gy n.natAbs:=rfl;have c:good (45::gy n.natAbs)=true:=LJ n.natAbs (by omega) _;unfold read;rw[e,c,a,b,Bv (n.natAbs+1) n.natAbs (by omega)];simp only[if_true];rw[show -(n.natAbs:Int)=n by omega];exact jw d
 have e:text n=gy n.natAbs:=by unfold text;rw[if_neg h];rfl
 have a:=Va n.natAbs;have b:bare (gy n.natAbs)=gy n.natAbs:=by unfold bare;rw[a];rfl
 have c:good (gy n.natAbs)=true:=by
  by_cases f:n=0
  ·subst f;decide
  unfold good;rw[b];exact LJ n.natAbs (by omega) _
 unfold read;rw[e,c,a,b,Bv (n.natAbs+1) n.natAbs (by omega)];simp only[if_true];rw[show(n.natAbs:Int)=n by omega];exact jw d
theorem Ji (l:af):read (45::45::l)=(0,2):=by
 have b:good (45::45::l)=false:=by have a:bare (45::45::l)=45::l:=rfl;unfold good;rw[a,Pg,show isDigit 45=false from by decide];rfl
 unfold read;rw[b];rfl
end Nt.Num
namespace Nt.Words
open Go Nt
def low (c:UInt8):UInt8:=if 65≤c.toNat∧c.toNat≤90 then UInt8.ofNat (c.toNat+32) else c
def alike (x y:UInt8):Bool:=low x==low y
def G4 (x y:Nat):Bool:=x==y||(x|||32==y|||32&&decide (97≤x|||32)&&decide (x|||32≤122))
theorem lowN: ∀x:Fin 256,(low (UInt8.ofNat x)).toNat=if 97≤(x:Nat)|||32∧(x:Nat)|||32≤122 then(x:Nat)|||32 else x:=by decide+kernel
theorem lowK: ∀x:Fin 256,¬(97≤(x:Nat)|||32∧(x:Nat)|||32≤122)→ ¬(97≤(x:Nat)∧(x:Nat)≤122):=by decide+kernel
theorem LM (x:UInt8):(low x).toNat=if 97≤x.toNat|||32∧x.toNat|||32≤122 then x.toNat|||32 else x.toNat:=by have:=lowN ⟨x.toNat,x.toNat_lt⟩;simpa using this
theorem alike_eq (x y:UInt8):alike x y=G4 x.toNat y.toNat:=by
 have b:=LM x;have a:=LM y;have c:=lowK ⟨x.toNat,x.toNat_lt⟩;have f:=lowK ⟨y.toNat,y.toNat_lt⟩;simp only at c f;have e:alike x y=decide ((low x).toNat=(low y).toNat):=by unfold alike;rw[uF];simp[acy]
 rw[e,b,a,uF];simp only[G4,lG,JR,bC,iM];have d:x.toNat=y.toNat→x.toNat|||32=y.toNat|||32:=fun h=>by rw[h]
 clear b a e;generalize x.toNat|||32=u at*;generalize y.toNat|||32=v at*;split<;>split<;>omega
def begins (a s:ByteArray):Bool:=decide (s.size≤a.size)&&decide (∀i,i<s.size→alike (at_ a i) (at_ s i)=true)
def same (a b:ByteArray):Bool:=decide (a.size=b.size)&&begins a b
theorem Sf (a s:ByteArray) (h:a.size<s.size):begins a s=false:=by unfold begins;simp;omega
theorem Vb (a s:ByteArray) (h:s.size≤a.size) (k: ∀i,i<s.size→alike (at_ a i) (at_ s i)=true):begins a s=true:=by unfold begins;simp[h];exact k
theorem ZI (a s:ByteArray) (i:Nat) (b:i<s.size) (k:alike (at_ a i) (at_ s i)=false):begins a s=false:=by
 unfold begins;simp only[Bool.and_eq_false_iff,ab4];right;intro h;have:=h i b;rw[k] at this
 cases this
def vk (a:List ByteArray) (i:Nat):ByteArray:=a.getD i ByteArray.empty
def found (s:ByteArray) (a:List ByteArray) (k:Nat):List Nat:=(List.range k).filter fun i=>begins (vk a i) s
def mt (s:ByteArray) (a:List ByteArray):Nat×Nat:=
 if s.size=0 then(0,3) else
 match(List.range a.length).find? (fun i=>same (vk a i) s) with
 |some i=>(i,0)
 |none=>match found s a a.length with
  |[]=>(0,3)
  |f::r=>if(f::r).all (fun i=>same (vk a i) (vk a f)) then(f,0) else(0,3)
theorem ZJ (s:ByteArray) (a:List ByteArray) (k:Nat) (h:begins (vk a k) s=true):found s a (k+1)=found s a k++[k]:=by simp[found,ada,List.filter_append,h]
theorem found_no (s:ByteArray) (a:List ByteArray) (k:Nat) (h:begins (vk a k) s=false):found s a (k+1)=found s a k:=by simp[found,ada,List.filter_append,h]
theorem Qz (s:ByteArray) (a:List ByteArray) (k:Nat):(found s a k).length≤k:=by have:=List.length_filter_le (fun i=>begins (vk a i) s) (List.range k);simpa[found] using this
theorem Ih (s:ByteArray) (a:List ByteArray) (k i:Nat) (h:i∈found s a k):i<k:=by simp[found] at h;exact h.1
theorem mt_nil (s:ByteArray) (a:List ByteArray) (h:s.size=0):mt s a=(0,3):=by simp[mt,h]
theorem Fj {p:Nat→Bool} {n:Nat} (h: ∀i,i<n→p i=false):(List.range n).find? p=none:=by rw[List.find?_eq_none];intro x a;simp at a;simp[h x a]
theorem Fp {p:Nat→Bool} {n k:Nat} (d:k<n) (c:p k=true) (h: ∀i,i<k→p i=false):(List.range n).find? p=some k:=by
 rw[List.find?_eq_some_iff_append];refine⟨c,List.range k,(List.range (n-(k+1))).map (k+1+ ·),?_,?_⟩
 ·have e:n=(k+1)+(n-(k+1)):=by omega
  conv=>lhs;rw[e,List.range_add]
  rw[ada];simp
 intro a b;simp at b;simp[h a b]
theorem mt_hit (s:ByteArray) (a:List ByteArray) (k:Nat) (h:s.size≠0) (c:k<a.length) (b:same (vk a k) s=true) (d: ∀i,i<k→same (vk a i) s=false):mt s a=(k,0):=by simp only[mt,if_neg h];rw[Fp c b d]
theorem NL (s:ByteArray) (a:List ByteArray) (h:s.size≠0) (b: ∀i,i<a.length→same (vk a i) s=false):
  mt s a=match found s a a.length with
  |[]=>(0,3)
  |f::r=>if(f::r).all (fun i=>same (vk a i) (vk a f)) then(f,0) else(0,3):=by
 simp only[mt,if_neg h];rw[Fj b]
theorem mt_empty (s:ByteArray) (a:List ByteArray) (h:s.size≠0) (c: ∀i,i<a.length→same (vk a i) s=false) (b:(found s a a.length).length=0):mt s a=(0,3):=by rw[NL s a h c,List.length_eq_zero_iff.1 b]
theorem mt_bad (s:ByteArray) (a:List ByteArray) (h:s.size≠0) (e: ∀i,i<a.length→same (vk a i) s=false) (k:Nat) (c:k<(found s a a.length).length)
  (b:same (vk a ((found s a a.length).getD k 0)) (vk a ((found s a a.length).getD 0 0))=false):mt s a=(0,3):=by
 rw[NL s a h e];generalize found s a a.length=l at*;match l,c,b with
 |f::r,c,b=>
  simp only;rw[if_neg];intro d;rw[l8] at d;have:=d ((f::r).getD k 0) (by rw[mg,iZ c];exact Ga _);simp only[abQ] at b;rw[b] at this
  cases this
theorem mt_ok (s:ByteArray) (a:List ByteArray) (h:s.size≠0) (j: ∀i,i<a.length→same (vk a i) s=false) (c:0<(found s a a.length).length)
  (b: ∀k,k<(found s a a.length).length→same (vk a ((found s a a.length).getD k 0)) (vk a ((found s a a.length).getD 0 0))=true):mt s a=((found s a a.length).getD 0 0,0):=by
 rw[NL s a h j];generalize found s a a.length=l at*;match l,c,b with
 |f::r,c,b=>
  simp only;rw[if_pos]
  ·rfl
  rw[l8];intro x g;obtain⟨i,d,e⟩:=acr g;have:=b i d;rw[mg,iZ d] at this;simp only[yT,abQ] at this;rw[←e];exact this
def months:List ByteArray:=[⟨#[74,97,110,117,97,114,121]⟩,⟨#[70,101,98,114,117,97,114,121]⟩,⟨#[77,97,114,99,104]⟩,⟨#[65,112,114,105,108]⟩,⟨#[77,97,121]⟩,⟨#[74,117,110,101]⟩,⟨#[74,117,108,121]⟩,⟨#[65,117,103,117,115,116]⟩,⟨#[83,101,112,116,101,109,98,101,114]⟩,⟨#[79,99,116,111,98,101,114]⟩,⟨#[78,111,118,101,109,98,101,114]⟩,⟨#[68,101,99,101,109,98,101,114]⟩]
def weekdays:List ByteArray:=[⟨#[83,117,110,100,97,121]⟩,⟨#[77,111,110,100,97,121]⟩,⟨#[84,117,101,115,100,97,121]⟩,⟨#[87,101,100,110,101,115,100,97,121]⟩,⟨#[84,104,117,114,115,100,97,121]⟩,⟨#[70,114,105,100,97,121]⟩,⟨#[83,97,116,117,114,100,97,121]⟩]
theorem mt_err (s:ByteArray) (a:List ByteArray):(mt s a).2=0∨(mt s a).2=3:=by
 unfold mt
 (repeat' split)<;>simp
theorem EJ (a s:ByteArray):begins a s=true↔s.size≤a.size∧ ∀i,i<s.size→alike (at_ a i) (at_ s i)=true:=by unfold begins;simp
theorem ZK (a s:ByteArray):same a s=true↔s.size=a.size∧ ∀i,i<s.size→alike (at_ a i) (at_ s i)=true:=by
 unfold same;rw[bC,EJ,lG];constructor
 ·rintro⟨b,d,c⟩;exact⟨b.symm,c⟩
 rintro⟨b,c⟩;exact⟨b.symm,by omega,c⟩
theorem Sg {a s:ByteArray} (h:same a s=true):begins a s=true:=by rw[ZK] at h;rw[EJ];exact⟨by omega,h.2⟩
theorem mt_told (s:ByteArray) (a:List ByteArray) (i:Nat) (h:mt s a=(i,0)):
  s.size≠0∧i<a.length∧begins (vk a i) s=true∧
  ((same (vk a i) s=true)∨((∀j,j<a.length→same (vk a j) s=false)∧ ∃r,found s a a.length=i::r∧ ∀j∈i::r,same (vk a j) (vk a i)=true)):=by
 by_cases d:s.size=0
 ·rw[mt_nil s a d] at h;simp at h
 refine⟨d,?_⟩;unfold mt at h;rw[if_neg d] at h
 cases e:(List.range a.length).find? (fun i=>same (vk a i) s) with
 |some k=>rw[e] at h;simp only[bM,Tp] at h;subst h;have m:=acY e;have l:=List.find?_some e;simp only[ab8] at m;exact⟨m,Sg l,.inl l⟩
 |none=>
  rw[e] at h;rw[List.find?_eq_none] at e;have p: ∀j,j<a.length→same (vk a j) s=false:=fun j q=>by have:=e j (by simpa using q);simpa using this
  simp only at h
  cases c:found s a a.length with
  |nil=>rw[c] at h;simp at h
  |cons f r=>
   rw[c] at h;simp only at h;split at h
   ·rename_i b
    simp only[bM,Tp] at h;subst h;have g:f∈found s a a.length:=by rw[c];simp
    have n:=Ih s a _ _ g;have o:begins (vk a f) s=true:=by simp[found] at g;exact g.2
    exact⟨n,o,.inr ⟨p,r,rfl,List.all_eq_true.1 b⟩⟩
   simp at h
theorem mt_not (s:ByteArray) (a:List ByteArray) (i c:Nat) (h:mt s a=(i,c)) (b:c≠0):i=0:=by
 unfold mt at h
 (repeat' split at h)<;>simp_all
end Nt.Words
namespace Nt.Ev
open Go Go.RowKit
class kM where val:Int
def bE (L:List (af)):ah:=L.map V.str
def lZ (L:List (af)):List Value:=L.map fun l=>Value.string ⟨l.toArray⟩
theorem Dv {G:aU}: ∀(L:List (af)) (a:List Value),cO G [.str] (bE L) (lZ L++a)
 |[],_=>iR
 |l::L,a=>by show cO G [.str] (V.str l::bE L) (Value.string ⟨l.toArray⟩::(lZ L++a));unfold cO;refine⟨rfl,⟨.string ⟨l.toArray⟩,by unfold aV;rfl,rfl⟩,?_⟩;exact Dv L a
theorem new_strs {G:aU} {w:World} (c:xU G w) (e:Nat) (t:TypeId) (L:List (af)) (n cap:Nat) (d:n=L.length) (a:n≤cap):
  ∃G',New w (w.alloc (.cells (lZ L).toArray t)) G G'∧aV G' (.sl e [.str] none (bE L)) (.slice (some ⟨w.heap.size,0,none⟩) n cap):=by
 refine⟨_,NE c (iD _ _) (heap_alloc_new w _) (lZ L).length (by simp),?_⟩;unfold aV;have b:(bE L).length=n:=by unfold bE;simp[d]
 refine⟨_,cap,by rw[b],by omega,.inr ⟨w.heap.size,0,_,rfl,upd_same _ _ _,?_⟩⟩;have:=Dv (G:=upd G w.heap.size (List.take (lZ L).length (lZ L).toArray.toList)) L [];simpa using this
theorem str_bs (s:ByteArray):s=⟨s.data.toList.toArray⟩:=by cases s;simp
theorem iQ {G:aU} {a b:V} {vs:List Value} (h:PW (aV G) [a,b] vs): ∃x y,vs=[x,y]∧aV G a x∧aV G b y:=by obtain⟨x,t,rfl,e,c⟩:=h.cons_inv;obtain⟨y,t,rfl,f,d⟩:=c.cons_inv;exact⟨x,y,by rw[d.di],e,f⟩
theorem CR {G:aU} {a:V} {vs:List Value} (h:PW (aV G) [a] vs): ∃x,vs=[x]∧aV G a x:=by obtain⟨x,t,rfl,c,b⟩:=h.cons_inv;exact⟨x,by rw[b.di],c⟩
theorem QA {E:Env} {G:aU} {w:World} (f:xU G w) (d:lV E G w) {n:Nat} {k:IntKind} {m:Int} (h:E.glob n=some (.rptr [.int k] (.int k m) 0)):w.cell? ⟨n,0,none⟩=some (.int k m):=by have:=(d n _ h).2.1;unfold aV at this;obtain⟨b,o,l,e,c,_,u,a,i⟩:=this;unfold aV at a;subst a;simp only[Value.pointer.injEq,aR,Addr.mk.injEq,VU,Tp] at e;obtain⟨rfl,rfl⟩:=e;refine jR f c ?_;have g:=congrArg (fun l=>l[0]?) i;simpa[Value.cells] using g
theorem JC {E:Env} {f T mx:Nat} {mv:Int} (g:E.glob mx=some (.rptr [.int .i64] (.int .i64 mv) 0)) (s a:af) (h:1≤a.length) (r:s.length<4294967281)
  (v: ∀(s a:ByteArray) (m:Int) (w:World),s.size<4294967281→w.cell? ⟨mx,0,none⟩=some (.int .i64 m)→1≤a.size→Calls E.P f #[.string s,.string a] w fun e w'=>
   e=.returned (.slice (some ⟨w.heap.size,0,none⟩) (Lib.countB s a+1) (Lib.countB s a+1))∧w'=w.alloc (.cells ((Lib.splitB a 0 (Lib.countB s a) s).map Value.string).toArray T)):
  aj E f [.str s,.str a] (.sl T [.str] none (bE (Lib.splitK a 0 (Lib.count s a) s))):=by
 intro G w vs l n o;obtain⟨x,y,rfl,k,j⟩:=iQ o;unfold aV at k j;subst k;subst j;refine(v ⟨s.toArray⟩ ⟨a.toArray⟩ mv w (show s.toArray.size<_ by simpa using r) (QA l n g) (show 1≤a.toArray.size by simpa using h)).mono ?_;rintro e w' ⟨rfl,rfl⟩;have u:Lib.countB ⟨s.toArray⟩ ⟨a.toArray⟩=Lib.count s a:=rfl;have i:(Lib.splitB ⟨a.toArray⟩ 0 (Lib.count s a) ⟨s.toArray⟩).map Value.string=lZ (Lib.splitK a 0 (Lib.count s a) s):=by have:=Lib.splitB_data ⟨a.toArray⟩ 0 (Lib.count s a) ⟨s.toArray⟩;rw[show(ByteArray.mk a.toArray).data.toList=a from rfl,show(ByteArray.mk s.toArray).data.toList=s from rfl] at this;unfold lZ;rw[←this,Fy];exact abe fun b _=>by show Value.string b=_;rw[Function.comp_apply,←str_bs]
 rw[u,i];have c:(Lib.splitK a 0 (Lib.count s a) s).length=Lib.count s a+1:=by have q:=Lib.splitB_all ⟨a.toArray⟩ (show 1≤a.toArray.size by simpa using h) 0 _ ⟨s.toArray⟩ rfl;have d:=congrArg List.length i;unfold lZ at d;rw[kJ,kJ] at d;rw[←d];exact q
 obtain⟨G',t,p⟩:=new_strs l T T (Lib.splitK a 0 (Lib.count s a) s) (Lib.count s a+1) (Lib.count s a+1) c.symm (lg _);exact⟨_,G',rfl,t,p⟩
theorem sO (L:List (af)):(bE L).length=L.length:=by unfold bE;simp
theorem Ii (s:af) (k:Nat) (a:k<s.length):s.drop k=s.getD k 0::s.drop (k+1):=by rw[abf a,mg,iZ a];rfl
open Nt
theorem bX {E:Env} {f:Nat} {args:ah} {r:V} (h: ∀(G:aU) (w:World) (vs:List Value),xU G w→lV E G w→PW (aV G) args vs→
  Calls E.P f vs.toArray w fun e w'=>∃v,e=.returned v∧Below w.heap.size w w'∧ ∀(G':aU) (w':World) (B:Nat→Prop),fP G' w' B r v):aj E f args r:=by
 intro G w vs a m i;refine(h G w vs a m i).mono ?_;rintro e w' ⟨v,rfl,g,j⟩;refine⟨v,G,rfl,⟨g,fun _ _=>rfl,fun b l d=>?_⟩,j _ _ _⟩;obtain⟨c,e,fr,n,k⟩:=a b l d;exact⟨c,e,fr,by rw[g.block b (fw a d)];exact n,k⟩
theorem qL (k:IntKind) (n:Int): ∀(G':aU) (w':World) (B:Nat→Prop),fP G' w' B (.int k n) (.int k n):=fun _ _ _=>by simp only[fP,nS];unfold aV;rfl
theorem QB (b:Bool): ∀(G':aU) (w':World) (B:Nat→Prop),fP G' w' B (.bool b) (.bool b):=fun _ _ _=>by simp only[fP,nS];unfold aV;rfl
theorem NM (l:af): ∀(G':aU) (w':World) (B:Nat→Prop),fP G' w' B (.str l) (.string ⟨l.toArray⟩):=fun _ _ _=>by simp only[fP,nS];unfold aV;rfl
def Same (x:V) (v:Value):Prop:=tJ x=false∧ ∀(G':aU) (w':World) (B:Nat→Prop),nS G' w' B x v
theorem pK (k:IntKind) (n:Int):Same (.int k n) (.int k n):=⟨rfl,fun _ _ _=>by simp only[nS];unfold aV;rfl⟩
theorem LP (b:Bool):Same (.bool b) (.bool b):=⟨rfl,fun _ _ _=>by simp only[nS];unfold aV;rfl⟩
theorem Ij (l:af):Same (.str l) (.string ⟨l.toArray⟩):=⟨rfl,fun _ _ _=>by simp only[nS];unfold aV;rfl⟩
theorem NN {xs:ah} {vs:List Value} (h:PW Same xs vs): ∀(G':aU) (w':World) (B:Nat→Prop),fP G' w' B (.tup xs) (.tuple vs.toArray):=by
 intro G w B;refine⟨vs,rfl,h.mono fun x _ v a=>a.2 G w B,?_⟩;have:xs.countP tJ=0:=by rw[List.countP_eq_zero];intro x a;obtain⟨i,c⟩:=aa5 a;obtain⟨v,_,b⟩:=h.get c;rw[b.1];decide
 omega
theorem NP {x y:V} {a b:Value} (h:Same x a) (k:Same y b): ∀(G':aU) (w':World) (B:Nat→Prop),fP G' w' B (.tup [x,y]) (.tuple #[a,b]):=NN (vs:=[a,b]) (.cons h (.cons k .nil))
theorem ZL {x y z:V} {a b c:Value} (h:Same x a) (k:Same y b) (l:Same z c): ∀(G':aU) (w':World) (B:Nat→Prop),fP G' w' B (.tup [x,y,z]) (.tuple #[a,b,c]):=NN (vs:=[a,b,c]) (.cons h (.cons k (.cons l .nil)))
theorem rep_strs {G:aU} {w:World} (z:xU G w) {e:Nat} {o:Option Nat} {d:ah} {v:Value} (h:aV G (.sl e [.str] o d) v) (c: ∀x∈d,∃l,x=.str l∧l.length≤1000):
  ∃p cap,v=.slice p d.length cap∧Strs w p d.length (d.map fun x=>(⟨(aH x).toArray⟩:ByteArray)):=by
 unfold aV at h;obtain⟨p,cap,rfl,t,h⟩:=h;refine⟨p,cap,rfl,by simp,?_,fun a=>?_⟩
 ·intro s y
  rw[acS] at y;obtain⟨x,A,rfl⟩:=y;obtain⟨l,rfl,D⟩:=c x A;have:(⟨(aH (V.str l)).toArray⟩:ByteArray).size=l.length:=by simp[ByteArray.size,aH]
  rw[this];unfold maxLen;omega
 rcases h with h|⟨b,off,l,rfl,g,hE⟩
 ·rw[h] at a;simp at a
 refine⟨b,off,rfl,fw z g,fun i n=>?_⟩;obtain⟨C,u,k,m⟩:=vT _ _ hE i _ (iZ n);obtain⟨B,f,_⟩:=c _ (Ga n);refine jR z g ?_;rw[f] at k;unfold aV at k;subst k;have j:=congrArg (fun q=>q[0]?) m;simp only[vg,acA,Value.cells] at j;have r:((l.drop off).drop i)[0]? =some (Value.string ⟨B.toArray⟩):=by rw[SY] at j;simpa using j
 rw[Tk,Tk] at r;rw[show off+i=off+(i+0) by omega,r];congr 2;rw[mg,sW,iZ n,f];rfl
end Nt.Ev
namespace Go.Proofs.YtknhlobahpgkeaaGreatDoor
open Go Nt Nt.Ev Nt.Num
noncomputable def nE:Env:=⟨Tryz.prog,fun _=>none⟩
theorem nE_ok:uL nE:=⟨by kernel_rfl,by kernel_rfl⟩
def nS0:List (Nat×aC):=[]
noncomputable def nO:=fun F c n a d b e K=>(gH nE nS0 F 1 54 [1,1,1,1,1,0,0] c K n (kD 35 [(0,V.int .i64 a),(2,V.str []),(3,V.sl 5 [Kd.int .u8] (some 3) d),(4,V.int .u64 b),(5,V.int .u64 e)] []):Option V)
noncomputable def pM:=fun F c n a d b e K=>(gH nE nS0 F 1 54 [1,1,1,1,1,1,0,0] c K n (kD 35 [(0,V.int .i64 a),(2,V.str []),(3,V.sl 5 [Kd.int .u8] (some 3) d),(4,V.int .u64 b),(5,V.int .u64 e)] []):Option V)
set_option maxRecDepth 100000 in
theorem ZM (F m) (K:V→Option V):
  bA nE (bu nE nS0 F 1) F 54 [V.int .i64 m] K=
 let A:=Cy 0 (V.int .u8 0);let B:=qm .u64 m;let C:=[V.int .u8 45];sel (aW m 0) (sel (eD A C) (sel (aW m 0) (nO F [] F m (aX A C) (dw .u64 0 B) 1 K) (nO F [] F m (aX A C) B 1 K)) none) (sel (aW m 0) (nO F [] F m A (dw .u64 0 B) 1 K) (nO F [] F m A B 1 K)):=by kernel_rfl
set_option maxRecDepth 100000 in
theorem Kc (F n x0 x3 x4 x5 K):
  nO F [] (n+1) x0 x3 x4 x5 K=
 sel (aL (ieq x5 0)) (sel (av 10 (gF .u64 x4 x5)) (nO F [] n x0 x3 x4 (mF .u64 x5 10) K) (pM F [] F x0 x3 x4 x5 K)) none:=by kernel_rfl
set_option maxRecDepth 100000 in
theorem yD (F n x0 x3 x4 x5 K):
  pM F [] (n+1) x0 x3 x4 x5 K=
 let A:=[V.int .u8 (qm .u8 (bJ .u64 48 (tH (gF .u64 x4 x5) 10)))];sel (aW 0 x5) (sel (aL (ieq x5 0)) (sel (eD x3 A) (pM F [] n x0 (aX x3 A) x4 (gF .u64 x5 10) K) none) none) (K (V.str (fZ x3))):=by kernel_rfl
theorem wK (c:UInt8):isDigit c=true↔48≤c.toNat∧c.toNat≤57:=by unfold isDigit;simp
theorem nText_up (m:Int) (d:ah) (F:Nat) (K:V→Option V) (u:Nat) (o:u≤9223372036854775808): ∀(n k:Nat),(k=0∨10 ^ k≤u)→20<n+k→
  ∃j,(j=0∨10 ^ j≤u)∧u/10 ^ j<10∧nO F [] n m d (u:Int) ((10 ^ k:Nat):Int) K=pM F [] F m d (u:Int) ((10 ^ j:Nat):Int) K:=by
 intro n;induction n with
 |zero=>intro k a g;exfalso;have c:10 ^ 21≤10 ^ k:=abp (by decide) (by omega);rcases a with rfl|a<;>omega
 |succ n l=>
  intro k a g;have f:0<10 ^ k:=ade (by decide);have e:10 ^ k≤9223372036854775808:=by
   rcases a with rfl|a
   ·decide
   omega
  rw[Kc];simp only[bK,bW,aN,aB];rw[if_pos (by omega)];have i:gF .u64 (u:Int) ((10 ^ k:Nat):Int)=((u/10 ^ k:Nat):Int):=by rw[NJ (by omega) (by omega) (by omega)];rfl
  rw[i];by_cases b:10≤u/10 ^ k
  ·rw[if_pos (by omega)]
   have c:10 ^ (k+1)≤u:=by rw[Nat.le_div_iff_mul_le f] at b;rw[ach];omega
   have h:mF .u64 ((10 ^ k:Nat):Int) 10=((10 ^ (k+1):Nat):Int):=by rw[imulu64 (by rw[ach] at c;omega),ach];omega
   rw[h];exact l (k+1) (.inr c) (by omega)
  rw[if_neg (by omega)];exact⟨k,a,by omega,rfl⟩
theorem lcat_map (l:af) (c:UInt8):aX (aF l) [V.int .u8 (c.toNat:Int)]=aF (l++[c]):=by unfold aX aF;simp
theorem Vd (l:af):fZ (aF l)=l:=by
 unfold fZ aF;rw[Fy];conv=>rhs;rw[←adf l]
 refine abe fun c _=>?_
 show UInt8.ofNat ((c.toNat:Int)).toNat=c;simp
theorem Ve (m:Int) (F:Nat) (K:V→Option V) (u k:Nat) (s:u≤9223372036854775808) (p:u/10 ^ k<10) (b:k=0∨10 ^ k≤u) (a:af) (g:a.length≤1):
  ∀(j n:Nat),j≤k→j+1<n→pM F [] n m (aF (a++Num.ahead u k (j+1))) (u:Int) ((10 ^ j:Nat):Int) K=K (.str (a++gy u)):=by
 have l:k≤20:=by
  rcases acU 20 k with h|h
  ·exfalso
   have y:10 ^ 21≤10 ^ k:=abp (by decide) (by omega);rcases b with rfl|b<;>omega
  exact h
 have step: ∀(j n:Nat),j≤k→pM F [] (n+1) m (aF (a++Num.ahead u k (j+1))) (u:Int) ((10 ^ j:Nat):Int) K=pM F [] n m (aF (a++Num.ahead u k j)) (u:Int) ((10 ^ j/10:Nat):Int) K:=by
  intro j n c;have z:0<10 ^ j:=ade (by decide);have i:10 ^ j≤9223372036854775808:=by
   rcases b with rfl|b
   ·obtain rfl:j=0:=by omega
    decide
   exact Cr (Cr (abp (by decide) c) b) s
  (rw[yD];(conv=>zeta))
  simp only[bK,bW,aN,bq,iY];have f:(aF (a++Num.ahead u k (j+1))).length≤100:=by
   unfold aF;rw[kJ,iH];have:(Num.ahead u k (j+1)).length≤20:=by
    unfold Num.ahead;split
    ·refine(rZ 20 _ ?_ (by decide)).1
     have:=Nat.div_le_self u (10 ^ (j+1));omega
    simp
   omega
  rw[if_pos (by omega),if_pos (by omega),if_pos (by simp;omega)];have q:gF .u64 (u:Int) ((10 ^ j:Nat):Int)=((u/10 ^ j:Nat):Int):=by rw[NJ (by omega) (by omega) (by omega)];rfl
  have r:tH ((u/10 ^ j:Nat):Int) 10=((u/10 ^ j%10:Nat):Int):=by rw[nN (Int.natCast_nonneg _)];rfl
  have o:=jV (u/10 ^ j%10) (acL _ (by decide));have x:qm .u8 (bJ .u64 48 ((u/10 ^ j%10:Nat):Int))=((digit (u/10 ^ j%10)).toNat:Int):=by have A:=acL (u/10 ^ j) (show 0<10 by decide);rw[iaddu64 (by omega),icnvu8 (by omega),o];omega
  have e:gF .u64 ((10 ^ j:Nat):Int) 10=((10 ^ j/10:Nat):Int):=by rw[NJ (by omega) (by omega) (by omega)];rfl
  rw[q,r,x,e,lcat_map,DX,←uq u k j p b c]
 intro j;induction j with
 |zero=>
  intro n c t;obtain⟨n,rfl⟩: ∃d,n=d+1:=⟨n-1,by omega⟩
  rw[step 0 n c,ZH];obtain⟨n,rfl⟩: ∃d,n=d+1:=⟨n-1,by omega⟩
  (rw[yD];(conv=>zeta))
  simp only[bK,bq];rw[if_neg (by decide),Vd]
 |succ j w=>
  intro n c t;obtain⟨n,rfl⟩: ∃d,n=d+1:=⟨n-1,by omega⟩
  have v:10 ^ (j+1)/10=10 ^ j:=by rw[ach];omega
  rw[step (j+1) n c,v];exact w n (by omega) (by omega)
theorem Bw (m:Int) (h:Fits m):aj nE 54 [.int .i64 m] (.str (text m)):=by
 obtain⟨p,r⟩:=h;refine au nE_ok (S:=nS0) bf.nil 30 1 ?_
 (rw[ZM];(conv=>zeta))
 simp only[bK,bq,iY];have both: ∀(a:af) (u:Nat),a.length≤1→u≤9223372036854775808→nO 30 [] 30 m (aF a) (u:Int) 1 some=some (.str (a++gy u)):=by
  intro a u l i;obtain⟨j,c,f,o⟩:=nText_up m (aF a) 30 some u i 30 0 (.inl rfl) (by omega);have k:j≤20:=by
   rcases acU 20 j with h|h
   ·exfalso
    have p:10 ^ 21≤10 ^ j:=abp (by decide) (by omega);rcases c with rfl|q<;>omega
   exact h
  have g:=Ve m 30 some u j i f c a l j 30 (lg _) (by omega);have d:Num.ahead u j (j+1)=[]:=by unfold Num.ahead;rw[if_neg (by omega)]
  rw[d,JQ] at g;rw[←g,←o];rfl
 have n:Cy 0 (V.int .u8 0)=aF []:=rfl;have e:aX (aF []) [V.int .u8 45]=aF [45]:=rfl;rw[n,e];unfold text;by_cases b:m<0
 ·rw[if_pos b,if_pos (by decide),if_pos b,if_pos b]
  have d:dw .u64 0 (qm .u64 m)=((m.natAbs:Nat):Int):=by unfold dw qm;rw[IntKind.wrap_u64,IntKind.wrap_u64];omega
  rw[d];exact both [45] m.natAbs (by simp) (by omega)
 rw[if_neg b,if_neg b,if_neg b];have d:qm .u64 m=((m.natAbs:Nat):Int):=by rw[icnvu64 (by omega)];omega
 rw[d];exact both [] m.natAbs (by simp) (by omega)
end Go.Proofs.YtknhlobahpgkeaaGreatDoor
namespace Nt
open Go Go.RowKit Go.ChangeShapes Go.WideShapes Go.ChangeAt
open Go.ChangeMaps (open_string shut_string)
section
variable {H:Type} {enc:TypeId×Value→H} {P:Program}
theorem yF (j:laidOutB P=true) {W W':World} (k:Below W.heap.size W W'):
  ∀(a:List TypeId) (vs:List Value) (f:List (DataW H)) (g:List MemPlace),(a.all fun t=>P.readableRec t&&decide (t<P.types.size))=true→
  DataW.TrodAll enc P W 0 (fun _=>true) true a vs f g→DataW.TrodAll enc P W' 0 (fun b=>decide (b<W.heap.size)) true a vs f g
 |[],[],[],_,_,h=>h
 |[],_::_,_,_,_,h=>by simp[DataW.TrodAll] at h
 |[],[],_::_,_,_,h=>by simp[DataW.TrodAll] at h
 |_::_,[],_,_,_,h=>by simp[DataW.TrodAll] at h
 |_::_,_::_,[],_,_,h=>by simp[DataW.TrodAll] at h
 |t::a,v::vs,d::f,g,c,h=>by
  simp only[Pg,bC,lG] at c;obtain⟨p,q,i,n,e⟩:=h;refine⟨p,q,?_,yF j k a vs f q c.2 n,e⟩;have lt: ∀x∈p,x.block<W.heap.size:=by obtain⟨m,l⟩:=i;exact DataW.trod_lt m _ _ _ l
  exact Below.trod j c.1.1 c.1.2 i k lt
end
section
variable {H:Type} {enc:TypeId×Value→H} {P:Program}
end
end Nt
namespace Nt.Ev.YtknhlobahpgkeaaGreatDoor
open Go Nt.Num Go.Proofs.YtknhlobahpgkeaaGreatDoor
noncomputable def oE:Env:=⟨Go.Proofs.Tryz.prog,fun _=>none⟩
noncomputable def oS:List (Nat×aC):=[]
open Go.RowKit Nt
theorem KL:uL oE:=⟨by kernel_rfl,by kernel_rfl⟩
theorem oS_ok:bf oE oS:=bf.nil
theorem OY {E:Env} {f:Nat} {args:ah} {e:Nat} {sh:List Kd} {ys:ah} (h:aj E f args (.tup (.nilsl::ys))):aj E f args (.tup (.sl e sh none []::ys)):=by
 intro G w vs i g c;refine(h G w vs i g c).mono ?_;rintro m w' ⟨v,G',rfl,j,a,rfl,b,l⟩;refine⟨_,G',rfl,j,a,rfl,?_,l⟩;match a,b with
 |[],b=>exact absurd b.1 (by simp)
 |u::us,b=>refine .cons ?_ b.tail;have k:=b.head;have d:u=.slice none 0 0:=k;subst d;show aV G' _ _;unfold aV;exact⟨none,0,rfl,lg _,.inl rfl⟩
end Nt.Ev.YtknhlobahpgkeaaGreatDoor
