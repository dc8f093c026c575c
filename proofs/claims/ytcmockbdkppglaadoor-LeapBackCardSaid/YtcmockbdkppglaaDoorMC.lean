/-
  A namespace. Plain facts on bytes, strings and byte lists, used by all walks of this work.
-/
import Derived.Lib.IndexAny
import Derived.Lib.Bytealg
import Derived.WalkSpells
import Derived.WalkLawsBesides
import Derived.Deep.QuietTactic
import Derived.BigQuiet
import Derived.Handy
import Derived.Lib.Hide
import Derived.Lib.Strings
import Derived.Lib.SlTrimSet
import Derived.Test.YtcmockbdkppglaaDoorMBB
import Derived.Lib.SplitLaws
import Derived.Test.YtcmockbdkppglaaDoorProg
import Derived.ProofKit
import Derived.ShutString
import Derived.ChangeOld
import Derived.Below
import Derived.SliceStrings
import Derived.LaidMore
import Derived.Stop.Joined
set_option linter.all false
namespace Go.Proofs.YtcmockbdkppglaaDoor
theorem here:True:=trivial
end Go.Proofs.YtcmockbdkppglaaDoor
namespace Nt
open Go Go.RowKit
def at_ (s:ByteArray) (i:Nat):UInt8:=s.data.toList.getD i 0
theorem Pj (s:ByteArray) (i:Nat) (h:i<s.size):at_ s i=s[i]:=by
 unfold at_;rw[sQ,gQ (by simpa using h)];rfl
theorem xR {P:Program} {f:FuncId} {args:Array Value} {w:World} {k n:Nat} {v:Value}
  (h:Calls P f args (w.drewN (k+n)) fun e w'=>e=.returned v∧w'=w.drewN (k+n)):Calls P f args (w.drewN (k+n)) fun e a=>e=.returned v∧ ∃m,a=w.drewN (k+m):=
 h.mono fun _ _ ⟨c,b⟩=>⟨c,n,b⟩
theorem K8 {k:IntKind} {a b:Int} (h:a=b):Ending.returned (.int k a)=.returned (.int k b):=by rw[h]
def Strs (w:World) (p:Option Addr) (len:Nat) (a:List ByteArray):Prop:=
 a.length=len∧(∀s∈a,s.size≤maxLen)∧(0<len→ ∃b off,p=some ⟨b,off,none⟩∧b<w.heap.size∧ ∀i,i<len→w.cell? ⟨b,off+i,none⟩=some (.string (a.getD i ByteArray.empty)))
theorem Strs.below {w w':World} {p:Option Addr} {len:Nat} {c:List ByteArray} (h:Strs w p len c) (d:Below w.heap.size w w'):Strs w' p len c:=by
 obtain⟨k,g,h3⟩:=h;refine⟨k,g,fun f=>?_⟩;obtain⟨b,off,e,a,l⟩:=h3 f;exact⟨b,off,e,acG a d.size,fun i j=>(d.cell (p:=⟨b,off+i,none⟩) a).trans (l i j)⟩
theorem below_drewN {B:Nat} {a w:World} (h:Below B a w) (n:Nat):Below B a (w.drewN n):=⟨h.os,h.tape,h.output,h.size,h.block⟩
theorem JM {B:Nat} {w w':World} (h: ∃n,w'=w.drewN n):Below B w w':=by
 obtain⟨n,rfl⟩:=h;exact Nt.below_drewN (Below.refl _ _) n
theorem toList_eq (s:ByteArray):s.toList=s.data.toList:=ByteArray.toList_eq s
theorem xS (s:ByteArray) (h:s.size=0):s.toList.isEmpty=true:=by
 rw[toList_eq,List.isEmpty_iff,←List.length_eq_zero_iff];simpa using h
theorem Be (s:ByteArray) (h:s.size≠0):s.toList.isEmpty=false:=by
 rw[toList_eq]
 cases e:s.data.toList with
 |nil=>exact absurd (by have:=congrArg List.length e;simpa using this) h
 |cons a l=>rfl
end Nt
namespace Nt.Num
open Go Go.RowKit Nt
def Fits (n:Int):Prop:= -9223372036854775808≤n∧n≤9223372036854775807
instance (n:Int):Decidable (Fits n):=inferInstanceAs (Decidable (_∧_))
def told (n:Int):Int×Int:=if Fits n then(n,0) else(0,1)
theorem jh {n:Int} (h:Fits n):told n=(n,0):=if_pos h
theorem jl {n:Int} (h: ¬Fits n):told n=(0,1):=if_neg h
def DN (a b:Int):Int×Int×Int:=
 if b=0∨(a= -9223372036854775808∧b= -1) then(0,0,1)
 else if a.tmod b≠0∧ ¬(a.tmod b<0↔b<0) then(a.tdiv b-1,a.tmod b+b,0) else(a.tdiv b,a.tmod b,0)
theorem Dh (a b:Int) (d:b≠0) (c: ¬(a= -9223372036854775808∧b= -1)):
  DN a b=if a.tmod b≠0∧ ¬(a.tmod b<0↔b<0) then(a.tdiv b-1,a.tmod b+b,0) else(a.tdiv b,a.tmod b,0):=by
 unfold DN;rw[if_neg (by rintro(h|h);exact d h;exact c h)]
theorem Ep (a b:Int) (d:b≠0): -(b.natAbs:Int)<a.tmod b∧a.tmod b<b.natAbs:=by
 have c:=Int.natAbs_tmod a b;have e:(a.tmod b).natAbs<b.natAbs:=by rw[c];exact Vy _ (by omega)
 omega
theorem Gg (a b:Int):(a.tdiv b).natAbs≤a.natAbs:=by
 rw[ZH];exact Nat.div_le_self _ _
theorem JN (a b:Int) (g:Fits a) (e:Fits b) (d:b≠0) (f: ¬(a= -9223372036854775808∧b= -1)):
  -9223372036854775808≤a.tdiv b∧a.tdiv b≤9223372036854775807∧-9223372036854775807≤a.tmod b∧a.tmod b≤9223372036854775807:=by
 obtain⟨n,o⟩:=g;obtain⟨k,m⟩:=e;have r:=Ep a b d;have q:=Gg a b;refine⟨by omega,?_,by omega,by omega⟩;by_cases j:a= -9223372036854775808
 ·have i:b≠-1:=fun h=>f ⟨j,h⟩
  by_cases c:b=1
  ·subst c;rw[Int.tdiv_one];omega
  ·have l:(a.tdiv b).natAbs=a.natAbs/b.natAbs:=ZH a b
   have h3:a.natAbs/b.natAbs≤a.natAbs/2:=Nat.div_le_div_left (by omega) (by omega);omega
 ·omega
theorem Tz (r b:Int) (f:Fits r) (g:Fits b):bits .xor .i64 r b<0↔ ¬(r<0↔b<0):=by
 have msb: ∀x:Int,Fits x→(BitVec.ofInt 64 x).msb=decide (x<0):=fun x hx=>by
  rw[BitVec.msb_eq_toInt,BitVec.toInt_ofInt,Int.bmod_eq_of_le (by unfold Fits at hx;omega) (by unfold Fits at hx;omega)]
 have j: ∀n:Nat,n<18446744073709551616→(IntKind.i64.wrap (n:Int)<0↔9223372036854775808≤n):=fun n k=>by rw[IntKind.wrap_i64];omega
 have e:(BitVec.ofInt 64 r ^^^ BitVec.ofInt 64 b).msb=(decide (r<0) ^^ decide (b<0)):=by rw[BitVec.msb_xor,msb r f,msb b g]
 have h3:bits .xor .i64 r b=IntKind.i64.wrap (((BitVec.ofInt 64 r ^^^ BitVec.ofInt 64 b).toNat:Nat):Int):=rfl;have i:=(BitVec.ofInt 64 r ^^^ BitVec.ofInt 64 b).isLt;rw[h3,j _ i];have d:=BitVec.msb_eq_decide (BitVec.ofInt 64 r ^^^ BitVec.ofInt 64 b);rw[e] at d;have h:(9223372036854775808≤(BitVec.ofInt 64 r ^^^ BitVec.ofInt 64 b).toNat)↔(decide (r<0) ^^ decide (b<0))=true:=by
  rw[d,Iy]
 rw[h];by_cases c:r<0<;>by_cases a:b<0<;>simp[c,a]
theorem Nf {n:Int} (h:9223372036854775807<n) (a:n≤18446744073709551615):wrap64 n<0:=by unfold wrap64;omega
theorem JO {n:Int} (h:n< -9223372036854775808) (a: -18446744073709551616≤n):0≤wrap64 n:=by unfold wrap64;omega
theorem K9 (a b:Int):(a*b).natAbs=a.natAbs*b.natAbs:=Int.natAbs_mul a b
theorem Ng (a b:Int) (h: ¬(a<0↔b<0)):a*b= -((a.natAbs*b.natAbs:Nat):Int):=by
 have c:=K9 a b;have e:a*b≤0:=by
  by_cases d:a<0
  ·exact Int.mul_nonpos_of_nonpos_of_nonneg (by omega) (by omega)
  ·exact Int.mul_nonpos_of_nonneg_of_nonpos (by omega) (by omega)
 omega
theorem Nh (a b:Int) (h:a<0↔b<0):a*b=((a.natAbs*b.natAbs:Nat):Int):=by
 have c:=K9 a b;have e:0≤a*b:=by
  by_cases d:a<0
  ·exact Int.mul_nonneg_of_nonpos_of_nonpos (by omega) (by omega)
  ·exact Int.mul_nonneg (by omega) (by omega)
 omega
def bs (l:ah):ByteArray:=⟨l.toArray⟩
theorem qj (l:ah):(bs l).size=l.length:=by simp[bs,ByteArray.size]
def digit (k:Nat):UInt8:=UInt8.ofNat (48+k)
theorem kL (k:Nat) (h:k<10):(digit k).toNat=48+k:=by
 unfold digit;rw[acH];omega
def zD:Nat→Nat→ah
 |0,_=>[]
 |f+1,n=>if n<10 then[digit n] else zD f (n/10)++[digit (n%10)]
theorem xU: ∀(f g n:Nat),n<f→n<g→zD f n=zD g n
 |0,_,_,h,_=>by omega
 |_,0,_,_,h=>by omega
 |f+1,g+1,n,b,a=>by
  unfold zD;split
  ·rfl
  ·rw[xU f g (n/10) (by omega) (by omega)]
def mq (n:Nat):ah:=zD (n+1) n
theorem l8 (n:Nat) (h:n<10):mq n=[digit n]:=by unfold mq zD;rw[if_pos h]
theorem nV (n:Nat) (h:10≤n):mq n=mq (n/10)++[digit (n%10)]:=by
 conv=>lhs;unfold mq zD
 rw[if_neg (by omega),xU n (n/10+1) (n/10) (by omega) (by omega)];rfl
theorem uq: ∀(f n:Nat),n<10 ^ f→0<f→(mq n).length≤f∧0<(mq n).length
 |0,_,_,h=>by omega
 |f+1,n,h,_=>by
  by_cases c:n<10
  ·rw[l8 n c];simp
  ·rw[nV n (by omega)]
   have a:0<f:=by
    by_cases b:f=0
    ·subst b;omega
    ·omega
   have:=uq f (n/10) (by rw[Se] at h;omega) a;simp;omega
def text (n:Int):ah:=(if n<0 then[45] else[])++mq n.natAbs
theorem Gi (n:Int) (h:Fits n):(text n).length≤21∧0<(text n).length:=by
 have:=uq 20 n.natAbs (by unfold Fits at h;omega) (by decide);unfold text;split<;>simp<;>omega
def ahead (u k m:Nat):ah:=if m≤k then mq (u/10 ^ m) else[]
theorem oJ (u k m:Nat) (a:u/10 ^ k<10) (hl:k=0∨10 ^ k≤u) (b:m≤k):ahead u k m=ahead u k (m+1)++[digit (u/10 ^ m%10)]:=by
 unfold ahead;rw[if_pos b];by_cases h:m=k
 ·subst h
  rw[if_neg (by omega),l8 _ a,IA,Nat.mod_eq_of_lt a]
 ·rw[if_pos (by omega)]
  have d:10 ^ (m+1)≤u:=by
   rcases hl with hl|hl
   ·omega
   ·exact zl (R7 (by decide) (by omega)) hl
  have c:10≤u/10 ^ m:=by
   rw[Nat.le_div_iff_mul_le (XT (by decide))];rw[Se] at d;omega
  rw[nV _ c,Nat.div_div_eq_div_mul,Se]
theorem Ni (u k:Nat):ahead u k 0=mq u:=by unfold ahead;simp
def isDigit (c:UInt8):Bool:=decide (48≤c.toNat)&&decide (c.toNat≤57)
def minus (l:ah):Bool:=match l with|c::_=>c==45|[]=>false
def bare (l:ah):ah:=if minus l then l.drop 1 else l
def good (l:ah):Bool:=(bare l).all isDigit&& !(bare l).isEmpty&&(!((bare l).getD 0 0==48)||(decide ((bare l).length=1)&& !minus l))
def val (d:ah):Nat:=d.foldl (fun n c=>10*n+(c.toNat-48)) 0
def read (l:ah):Int×Int:=if good l then told (if minus l then -(val (bare l):Int) else(val (bare l):Int)) else(0,2)
theorem Gj (d:ah) (c:UInt8):val (d++[c])=10*val d+(c.toNat-48):=by unfold val;rw[List.foldl_append];rfl
theorem Al (d:ah) (k:Nat) (h:k<d.length):val (d.take (k+1))=10*val (d.take k)+((d.getD k 0).toNat-48):=by
 rw[List.take_add_one,sQ,gQ h];exact Gj _ _
theorem Qt (d:ah) (k:Nat): ∀m,k≤m→val (d.take k)≤val (d.take m):=by
 intro m;induction m with
 |zero=>
  intro h;have e:k=0:=by omega
  rw[e];exact iA _
 |succ m c=>
  intro h;by_cases e:k=m+1
  ·rw[e];exact iA _
  ·have a:=c (by omega)
   by_cases b:m<d.length
   ·rw[Al d m b];omega
   ·rw[J8 (show d.length≤m+1 by omega)]
    rw[J8 (show d.length≤m by omega)] at a;exact a
theorem Pk (d:ah) (k:Nat):val (d.take k)≤val d:=by
 by_cases h:k≤d.length
 ·have:=Qt d k d.length h
  rwa [RP] at this
 ·rw[J8 (by omega)];exact iA _
theorem Pm (d:ah) (b:d.all isDigit=true): ∀k,val (d.take k)<10 ^ k:=by
 intro k;induction k with
 |zero=>simp[val]
 |succ k a=>
  by_cases h:k<d.length
  ·have c:=List.all_eq_true.1 b (d.getD k 0) (by rw[sQ,gQ h];exact Fg _)
   simp only[isDigit,bB,Iy] at c;rw[Al d k h,Se];omega
  ·rw[J8 (by omega)]
   rw[J8 (by omega)] at a;exact acG a (R7 (by decide) (by omega))
def signed (below:Bool) (n:Nat):Int:=if below then -(n:Int) else n
theorem HZ (below:Bool) (d:ah) (k:Nat) (h:k<d.length) (a:d.all isDigit=true):
  signed below (val (d.take (k+1)))=signed below (val (d.take k))*10+(if below then -((d.getD k 0).toNat-48:Int) else((d.getD k 0).toNat-48:Int)):=by
 have b:=List.all_eq_true.1 a (d.getD k 0) (by rw[sQ,gQ h];exact Fg _);simp only[isDigit,bB,Iy] at b;rw[Al d k h];generalize (d.getD k 0).toNat=c at*;unfold signed
 cases below<;>simp<;>omega
theorem H6 (below:Bool) (n m:Nat) (h:n≤m) (a: ¬Fits (signed below n)): ¬Fits (signed below m):=by
 unfold Fits signed at*
 cases below<;>simp at* <;>omega
theorem xV (d:ah):(Lib.trimS d [48,49,50,51,52,53,54,55,56,57]=[])↔d.all isDigit=true:=by
 have f: ∀c:UInt8,([48,49,50,51,52,53,54,55,56,57]:ah).contains c=isDigit c:=by
  have h: ∀n:Fin 256,([48,49,50,51,52,53,54,55,56,57]:ah).contains (UInt8.ofNat n)=isDigit (UInt8.ofNat n):=by decide+kernel
  intro c;have:=h ⟨c.toNat,c.toNat_lt⟩;simpa using this
 have b: ∀(p:UInt8→Bool) (l:ah),l.dropWhile p=[]↔ ∀x∈l,p x=true:=by
  intro p l;induction l with
  |nil=>simp
  |cons a l g=>
   rw[ZB];split
   ·rename_i h;rw[g];simp[h]
   ·rename_i h;simp[h]
 have e: ∀l:ah,(∀x∈l.dropWhile isDigit,isDigit x=true)↔ ∀x∈l,isDigit x=true:=by
  intro l;induction l with
  |nil=>simp
  |cons a l g=>
   rw[ZB];split
   ·rename_i h;rw[g];simp[h]
   ·rfl
 unfold Lib.trimS Lib.trimLeftS Lib.trimRightS;simp only[f];rw[b,jJ];simp only[List.mem_reverse];rw[e];simp
theorem qZ (k:Nat) (h:k<10):isDigit (digit k)=true:=by
 unfold isDigit;rw[kL k h];simp;omega
theorem Am: ∀(f n:Nat),n<f→(mq n).all isDigit=true∧mq n≠[]
 |0,_,h=>by omega
 |f+1,n,h=>by
  by_cases a:n<10
  ·rw[l8 n a]
   exact⟨by simp[qZ n a],by simp⟩
  ·rw[nV n (by omega),acW]
   have:=Am f (n/10) (by omega);refine⟨?_,by simp⟩;rw[this.1];simp[qZ (n%10) (Vy _ (by decide))]
theorem Gl: ∀(f n:Nat),n<f→val (mq n)=n
 |0,_,h=>by omega
 |f+1,n,h=>by
  by_cases a:n<10
  ·rw[l8 n a]
   show 10*0+((digit n).toNat-48)=n;rw[kL n a];omega
  ·rw[nV n (by omega),Gj,Gl f (n/10) (by omega),kL _ (Vy _ (by decide))]
   omega
theorem Di: ∀(f n:Nat),n<f→1≤n→((mq n).getD 0 0==48)=false
 |0,_,h,_=>by omega
 |f+1,n,h,d=>by
  by_cases c:n<10
  ·rw[l8 n c]
   simp only[XN,oZ];intro e;have:=congrArg UInt8.toNat e;rw[kL n c] at this;have b:(48:UInt8).toNat=48:=rfl;omega
  ·rw[nV n (by omega)]
   have b:=(Am (n/10+1) (n/10) (by omega)).2;have h3:0<(mq (n/10)).length:=by
    cases e:mq (n/10) with
    |nil=>exact absurd e b
    |cons a l=>simp
   have:(mq (n/10)++[digit (n%10)]).getD 0 0=(mq (n/10)).getD 0 0:=by
    rw[sQ,sQ,Xh h3]
   rw[this];exact Di f (n/10) (by omega) (by omega)
end Nt.Num
namespace Nt.Words
open Go Nt
def low (c:UInt8):UInt8:=if 65≤c.toNat∧c.toNat≤90 then UInt8.ofNat (c.toNat+32) else c
def alike (x y:UInt8):Bool:=low x==low y
def begins (a s:ByteArray):Bool:=decide (s.size≤a.size)&&decide (∀i,i<s.size→alike (at_ a i) (at_ s i)=true)
def same (a b:ByteArray):Bool:=decide (a.size=b.size)&&begins a b
end Nt.Words
namespace Nt.Ev
open Go Go.RowKit
class MLen where val:Int
def fP (L:List (ah)):af:=L.map V.str
def yQ (L:List (ah)):List Value:=L.map fun l=>Value.string ⟨l.toArray⟩
theorem Dj {G:aI}: ∀(L:List (ah)) (a:List Value),bF G [.str] (fP L) (yQ L++a)
 |[],_=>fZ
 |l::L,a=>by
  show bF G [.str] (V.str l::fP L) (Value.string ⟨l.toArray⟩::(yQ L++a));unfold bF;refine⟨rfl,⟨.string ⟨l.toArray⟩,by unfold aJ;rfl,rfl⟩,?_⟩;exact Dj L a
theorem rO {G:aI} {a b:V} {vs:List Value} (h:PW (aJ G) [a,b] vs): ∃x y,vs=[x,y]∧aJ G a x∧aJ G b y:=by
 obtain⟨x,t,rfl,e,c⟩:=h.cons_inv;obtain⟨y,t,rfl,h3,d⟩:=c.cons_inv;exact⟨x,y,by rw[d.bH],e,h3⟩
theorem Pn {G:aI} {a:V} {vs:List Value} (h:PW (aJ G) [a] vs): ∃x,vs=[x]∧aJ G a x:=by
 obtain⟨x,t,rfl,c,b⟩:=h.cons_inv;exact⟨x,by rw[b.bH],c⟩
theorem wE (L:List (ah)):(fP L).length=L.length:=by unfold fP;simp
theorem Ao (s:ah) (k:Nat) (a:k<s.length):s.drop k=s.getD k 0::s.drop (k+1):=by
 rw[ab5 a,sQ,gQ a];rfl
open Nt
theorem fJ {E:Env} {f:Nat} {args:af} {r:V} (h: ∀(G:aI) (w:World) (vs:List Value),sU G w→jQ E G w→PW (aJ G) args vs→
  Calls E.P f vs.toArray w fun e w'=>∃v,e=.returned v∧Below w.heap.size w w'∧ ∀(G':aI) (w':World) (B:Nat→Prop),d9 G' w' B r v):ak E f args r:=by
 intro G w vs a k g;refine(h G w vs a k g).mono ?_;rintro e w' ⟨v,rfl,d,i⟩;refine⟨v,G,rfl,⟨d,fun _ _=>rfl,fun b l hl=>?_⟩,i _ _ _⟩;obtain⟨c,e,fr,m,j⟩:=a b l hl;exact⟨c,e,fr,by rw[d.block b (dU a hl)];exact m,j⟩
theorem Er (k:IntKind) (n:Int): ∀(G':aI) (w':World) (B:Nat→Prop),d9 G' w' B (.int k n) (.int k n):=fun _ _ _=>by simp only[d9,jO];unfold aJ;rfl
theorem Qu (b:Bool): ∀(G':aI) (w':World) (B:Nat→Prop),d9 G' w' B (.bool b) (.bool b):=fun _ _ _=>by simp only[d9,jO];unfold aJ;rfl
theorem La (l:ah): ∀(G':aI) (w':World) (B:Nat→Prop),d9 G' w' B (.str l) (.string ⟨l.toArray⟩):=fun _ _ _=>by simp only[d9,jO];unfold aJ;rfl
def Same (x:V) (v:Value):Prop:=nZ x=false∧ ∀(G':aI) (w':World) (B:Nat→Prop),jO G' w' B x v
theorem pO (k:IntKind) (n:Int):Same (.int k n) (.int k n):=⟨rfl,fun _ _ _=>by simp only[jO];unfold aJ;rfl⟩
theorem Nj (b:Bool):Same (.bool b) (.bool b):=⟨rfl,fun _ _ _=>by simp only[jO];unfold aJ;rfl⟩
theorem Qv (l:ah):Same (.str l) (.string ⟨l.toArray⟩):=⟨rfl,fun _ _ _=>by simp only[jO];unfold aJ;rfl⟩
theorem Lb {xs:af} {vs:List Value} (h:PW Same xs vs): ∀(G':aI) (w':World) (B:Nat→Prop),d9 G' w' B (.tup xs) (.tuple vs.toArray):=by
 intro G w B;refine⟨vs,rfl,h.mono fun x _ v hx=>hx.2 G w B,?_⟩;have:xs.countP nZ=0:=by
  rw[List.countP_eq_zero];intro x hx;obtain⟨i,b⟩:=BD hx;obtain⟨v,_,a⟩:=h.get b;rw[a.1];decide
 omega
theorem Lc {x y:V} {a b:Value} (h:Same x a) (k:Same y b): ∀(G':aI) (w':World) (B:Nat→Prop),d9 G' w' B (.tup [x,y]) (.tuple #[a,b]):=Lb (vs:=[a,b]) (.cons h (.cons k .nil))
theorem Nk {x y z:V} {a b c:Value} (h:Same x a) (k:Same y b) (l:Same z c): ∀(G':aI) (w':World) (B:Nat→Prop),d9 G' w' B (.tup [x,y,z]) (.tuple #[a,b,c]):=Lb (vs:=[a,b,c]) (.cons h (.cons k (.cons l .nil)))
end Nt.Ev
namespace Go.Proofs.YtcmockbdkppglaaDoor
open Go Nt Nt.Ev Nt.Num
noncomputable def nE:Env:=⟨Tryd.prog,fun _=>none⟩
theorem Y9:oU nE:=⟨by kernel_rfl,by kernel_rfl⟩
def ZU:List (Nat×aO):=[]
noncomputable def kJ:=fun F c n a d b e K=>(jP nE ZU F 1 42 [1,1,1,1,1,0,0] c K n (ny 35 [(0,V.int .i64 a),(2,V.str []),(3,V.sl 5 [Kd.int .u8] (some 3) d),(4,V.int .u64 b),(5,V.int .u64 e)] []):Option V)
noncomputable def lS:=fun F c n a d b e K=>(jP nE ZU F 1 42 [1,1,1,1,1,1,0,0] c K n (ny 35 [(0,V.int .i64 a),(2,V.str []),(3,V.sl 5 [Kd.int .u8] (some 3) d),(4,V.int .u64 b),(5,V.int .u64 e)] []):Option V)
set_option maxRecDepth 100000 in
theorem Nl (F m) (K:V→Option V):
  gF nE (fK nE ZU F 1) F 42 [V.int .i64 m] K=
 let A:=vB 0 (V.int .u8 0);let B:=gP .u64 m;let C:=[V.int .u8 45];sel (aZ m 0) (sel (fO A C) (sel (aZ m 0) (kJ F [] F m (bT A C) (bD .u64 0 B) 1 K) (kJ F [] F m (bT A C) B 1 K)) none) (sel (aZ m 0) (kJ F [] F m A (bD .u64 0 B) 1 K) (kJ F [] F m A B 1 K)):=by kernel_rfl
set_option maxRecDepth 100000 in
theorem BV (F n x0 x3 x4 x5 K):
  kJ F [] (n+1) x0 x3 x4 x5 K=
 sel (aS (ieq x5 0)) (sel (aH 10 (iC .u64 x4 x5)) (kJ F [] n x0 x3 x4 (iB .u64 x5 10) K) (lS F [] F x0 x3 x4 x5 K)) none:=by kernel_rfl
set_option maxRecDepth 100000 in
theorem q8 (F n x0 x3 x4 x5 K):
  lS F [] (n+1) x0 x3 x4 x5 K=
 let A:=[V.int .u8 (gP .u8 (aY .u64 48 (DK (iC .u64 x4 x5) 10)))];sel (aZ 0 x5) (sel (aS (ieq x5 0)) (sel (fO x3 A) (lS F [] n x0 (bT x3 A) x4 (iC .u64 x5 10) K) none) none) (K (V.str (eF x3))):=by kernel_rfl
theorem Qw (m:Int) (d:af) (F:Nat) (K:V→Option V) (u:Nat) (o:u≤9223372036854775808): ∀(n k:Nat),(k=0∨10 ^ k≤u)→20<n+k→
  ∃j,(j=0∨10 ^ j≤u)∧u/10 ^ j<10∧kJ F [] n m d (u:Int) ((10 ^ k:Nat):Int) K=lS F [] F m d (u:Int) ((10 ^ j:Nat):Int) K:=by
 intro n;induction n with
 |zero=>
  intro k a g;exfalso;have c:10 ^ 21≤10 ^ k:=R7 (by decide) (by omega);rcases a with rfl|a<;>omega
 |succ n l=>
  intro k a g;have f:0<10 ^ k:=XT (by decide);have e:10 ^ k≤9223372036854775808:=by
   rcases a with rfl|a
   ·decide
   ·omega
  rw[BV];simp only[oh,um,oz,ax];rw[if_pos (by omega)];have i:iC .u64 (u:Int) ((10 ^ k:Nat):Int)=((u/10 ^ k:Nat):Int):=by
   rw[Eo (by omega) (by omega) (by omega)];rfl
  rw[i];by_cases b:10≤u/10 ^ k
  ·rw[if_pos (by omega)]
   have c:10 ^ (k+1)≤u:=by
    rw[Nat.le_div_iff_mul_le f] at b;rw[Se];omega
   have h:iB .u64 ((10 ^ k:Nat):Int) 10=((10 ^ (k+1):Nat):Int):=by
    rw[Ty (by rw[Se] at c;omega),Se];omega
   rw[h];exact l (k+1) (.inr c) (by omega)
  ·rw[if_neg (by omega)]
   exact⟨k,a,by omega,rfl⟩
theorem Qx (l:ah) (c:UInt8):bT (aC l) [V.int .u8 (c.toNat:Int)]=aC (l++[c]):=by unfold bT aC;simp
theorem JP (l:ah):eF (aC l)=l:=by
 unfold eF aC;rw[RQ];conv=>rhs;rw[←ZO l]
 refine R8 fun c _=>?_
 show UInt8.ofNat ((c.toNat:Int)).toNat=c;simp
theorem JQ (m:Int) (F:Nat) (K:V→Option V) (u k:Nat) (r:u≤9223372036854775808) (o:u/10 ^ k<10) (hl:k=0∨10 ^ k≤u) (a:ah) (f:a.length≤1):
  ∀(j n:Nat),j≤k→j+1<n→lS F [] n m (aC (a++Num.ahead u k (j+1))) (u:Int) ((10 ^ j:Nat):Int) K=K (.str (a++mq u)):=by
 have i:k≤20:=by
  rcases ZN 20 k with h|h
  ·exfalso
   have x:10 ^ 21≤10 ^ k:=R7 (by decide) (by omega);rcases hl with rfl|hl<;>omega
  ·exact h
 have step: ∀(j n:Nat),j≤k→lS F [] (n+1) m (aC (a++Num.ahead u k (j+1))) (u:Int) ((10 ^ j:Nat):Int) K=lS F [] n m (aC (a++Num.ahead u k j)) (u:Int) ((10 ^ j/10:Nat):Int) K:=by
  intro j n b;have y:0<10 ^ j:=XT (by decide);have g:10 ^ j≤9223372036854775808:=by
   rcases hl with rfl|hl
   ·obtain rfl:j=0:=by omega
    decide
   ·exact zl (zl (R7 (by decide) b) hl) r
  (rw[q8];(conv=>zeta))
  simp only[oh,um,oz,aU,dH];have e:(aC (a++Num.ahead u k (j+1))).length≤100:=by
   unfold aC;rw[vk,nY];have:(Num.ahead u k (j+1)).length≤20:=by
    unfold Num.ahead;split
    ·refine(uq 20 _ ?_ (by decide)).1
     have:=Nat.div_le_self u (10 ^ (j+1));omega
    ·simp
   omega
  rw[if_pos (by omega),if_pos (by omega),if_pos (by simp;omega)];have p:iC .u64 (u:Int) ((10 ^ j:Nat):Int)=((u/10 ^ j:Nat):Int):=by
   rw[Eo (by omega) (by omega) (by omega)];rfl
  have q:DK ((u/10 ^ j:Nat):Int) 10=((u/10 ^ j%10:Nat):Int):=by rw[Gc (Int.natCast_nonneg _)];rfl
  have l:=kL (u/10 ^ j%10) (Vy _ (by decide));have w:gP .u8 (aY .u64 48 ((u/10 ^ j%10:Nat):Int))=((digit (u/10 ^ j%10)).toNat:Int):=by
   have z:=Vy (u/10 ^ j) (show 0<10 by decide);rw[Tx (by omega),WG (by omega),l];omega
  have d:iC .u64 ((10 ^ j:Nat):Int) 10=((10 ^ j/10:Nat):Int):=by
   rw[Eo (by omega) (by omega) (by omega)];rfl
  rw[p,q,w,d,Qx,Iz,←oJ u k j o hl b]
 intro j;induction j with
 |zero=>
  intro n b s;obtain⟨n,rfl⟩: ∃c,n=c+1:=⟨n-1,by omega⟩
  rw[step 0 n b,Ni];obtain⟨n,rfl⟩: ∃c,n=c+1:=⟨n-1,by omega⟩
  (rw[q8];(conv=>zeta))
  simp only[oh,aU];rw[if_neg (by decide),JP]
 |succ j v=>
  intro n b s;obtain⟨n,rfl⟩: ∃c,n=c+1:=⟨n-1,by omega⟩
  have t:10 ^ (j+1)/10=10 ^ j:=by rw[Se];omega
  rw[step (j+1) n b,t];exact v n (by omega) (by omega)
theorem Qy (m:Int) (h:Fits m):ak nE 42 [.int .i64 m] (.str (text m)):=by
 obtain⟨p,q⟩:=h;refine aG Y9 (S:=ZU) dP.nil 30 1 ?_
 (rw[Nl];(conv=>zeta))
 simp only[oh,aU,dH];have both: ∀(a:ah) (u:Nat),a.length≤1→u≤9223372036854775808→kJ 30 [] 30 m (aC a) (u:Int) 1 some=some (.str (a++mq u)):=by
  intro a u l i;obtain⟨j,c,f,o⟩:=Qw m (aC a) 30 some u i 30 0 (.inl rfl) (by omega);have k:j≤20:=by
   rcases ZN 20 j with h|h
   ·exfalso
    have p:10 ^ 21≤10 ^ j:=R7 (by decide) (by omega);rcases c with rfl|hl<;>omega
   ·exact h
  have g:=JQ m 30 some u j i f c a l j 30 (iA _) (by omega);have d:Num.ahead u j (j+1)=[]:=by unfold Num.ahead;rw[if_neg (by omega)]
  rw[d,Oa] at g;rw[←g,←o];rfl
 have n:vB 0 (V.int .u8 0)=aC []:=rfl;have e:bT (aC []) [V.int .u8 45]=aC [45]:=rfl;rw[n,e];unfold text;by_cases b:m<0
 ·rw[if_pos b,if_pos (by decide),if_pos b,if_pos b]
  have d:bD .u64 0 (gP .u64 m)=((m.natAbs:Nat):Int):=by
   unfold bD gP;rw[IntKind.wrap_u64,IntKind.wrap_u64];omega
  rw[d];exact both [45] m.natAbs (by simp) (by omega)
 ·rw[if_neg b,if_neg b,if_neg b]
  have d:gP .u64 m=((m.natAbs:Nat):Int):=by rw[K6 (by omega)];omega
  rw[d];exact both [] m.natAbs (by simp) (by omega)
end Go.Proofs.YtcmockbdkppglaaDoor
namespace Nt
open Go Go.RowKit Go.ChangeShapes Go.WideShapes Go.ChangeAt
open Go.ChangeMaps (open_string shut_string)
section
variable {H:Type} {enc:TypeId×Value→H} {P:Program}
theorem q9 (hl:laidOutB P=true) {W W':World} (j:Below W.heap.size W W'):
  ∀(a:List TypeId) (vs:List Value) (f:List (DataW H)) (g:List MemPlace),(a.all fun t=>P.readableRec t&&decide (t<P.types.size))=true→
  DataW.TrodAll enc P W 0 (fun _=>true) true a vs f g→DataW.TrodAll enc P W' 0 (fun b=>decide (b<W.heap.size)) true a vs f g
 |[],[],[],_,_,h=>h
 |[],_::_,_,_,_,h=>by simp[DataW.TrodAll] at h
 |[],[],_::_,_,_,h=>by simp[DataW.TrodAll] at h
 |_::_,[],_,_,_,h=>by simp[DataW.TrodAll] at h
 |_::_,_::_,[],_,_,h=>by simp[DataW.TrodAll] at h
 |t::a,v::vs,d::f,g,c,h=>by
  simp only[Me,bB,Iy] at c;obtain⟨p,q,i,l,e⟩:=h;refine⟨p,q,?_,q9 hl j a vs f q c.2 l,e⟩;have n: ∀x∈p,x.block<W.heap.size:=by obtain⟨m,k⟩:=i;exact DataW.trod_lt m _ _ _ k
  exact Below.trod hl c.1.1 c.1.2 i j n
end
section
variable {H:Type} {enc:TypeId×Value→H} {P:Program}
end
end Nt
namespace Nt.Ev.YtcmockbdkppglaaDoor
open Go Nt.Num Go.Proofs.YtcmockbdkppglaaDoor
noncomputable def oE:Env:=⟨Go.Proofs.Tryd.prog,fun _=>none⟩
noncomputable def oS:List (Nat×aO):=[]
open Go.RowKit Nt
theorem Vb:oU oE:=⟨by kernel_rfl,by kernel_rfl⟩
theorem Za:dP oE oS:=dP.nil
theorem EX {E:Env} {f:Nat} {args:af} {e:Nat} {sh:List Kd} {ys:af} (h:ak E f args (.tup (.nilsl::ys))):ak E f args (.tup (.sl e sh none []::ys)):=by
 intro G w vs i g c;refine(h G w vs i g c).mono ?_;rintro m w' ⟨v,G',rfl,j,a,rfl,b,l⟩;refine⟨_,G',rfl,j,a,rfl,?_,l⟩;match a,b with
 |[],b=>exact absurd b.1 (by simp)
 |u::us,b=>
  refine .cons ?_ b.tail;have k:=b.head;have d:u=.slice none 0 0:=k;subst d;show aJ G' _ _;unfold aJ;exact⟨none,0,rfl,iA _,.inl rfl⟩
end Nt.Ev.YtcmockbdkppglaaDoor
