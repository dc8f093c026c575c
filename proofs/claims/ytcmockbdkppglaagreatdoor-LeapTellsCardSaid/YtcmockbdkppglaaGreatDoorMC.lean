/-
  A namespace. Plain facts on bytes, strings and byte lists, used by all walks of this work.
-/
import Derived.Lib.IndexAny
import Derived.Lib.Bytealg
import Derived.WalkSpells
import Derived.WalkLawsBesides
import Derived.Deep.QuietTactic
import Derived.BigQuiet
import Derived.Handy
import Derived.Lib.Hide
import Derived.Lib.Strings
import Derived.Lib.SlTrimSet
import Derived.Test.YtcmockbdkppglaaGreatDoorMBB
import Derived.Lib.SplitLaws
import Derived.Test.YtcmockbdkppglaaGreatDoorProg
import Derived.ProofKit
import Derived.ShutString
import Derived.ChangeOld
import Derived.Below
import Derived.SliceStrings
import Derived.LaidMore
import Derived.Stop.Joined
set_option linter.all false
namespace Go.Proofs.YtcmockbdkppglaaGreatDoor
theorem here:True:=trivial
end Go.Proofs.YtcmockbdkppglaaGreatDoor
namespace Nt
open Go Go.RowKit
def at_ (s:ByteArray) (i:Nat):UInt8:=s.data.toList.getD i 0
theorem RS (s:ByteArray) (i:Nat) (h:i<s.size):at_ s i=s[i]:=by
 unfold at_;rw[sV,gP (by simpa using h)];rfl
theorem zI {P:Program} {f:FuncId} {args:Array Value} {w:World} {k n:Nat} {v:Value}
  (h:Calls P f args (w.drewN (k+n)) fun e w'=>e=.returned v∧w'=w.drewN (k+n)):Calls P f args (w.drewN (k+n)) fun e a=>e=.returned v∧ ∃m,a=w.drewN (k+m):=
 h.mono fun _ _ ⟨c,b⟩=>⟨c,n,b⟩
theorem Nu {k:IntKind} {a b:Int} (h:a=b):Ending.returned (.int k a)=.returned (.int k b):=by rw[h]
def Strs (w:World) (p:Option Addr) (len:Nat) (a:List ByteArray):Prop:=
 a.length=len∧(∀s∈a,s.size≤maxLen)∧(0<len→ ∃b off,p=some ⟨b,off,none⟩∧b<w.heap.size∧ ∀i,i<len→w.cell? ⟨b,off+i,none⟩=some (.string (a.getD i ByteArray.empty)))
theorem Strs.below {w w':World} {p:Option Addr} {len:Nat} {c:List ByteArray} (h:Strs w p len c) (d:Below w.heap.size w w'):Strs w' p len c:=by
 obtain⟨k,g,h3⟩:=h;refine⟨k,g,fun f=>?_⟩;obtain⟨b,off,e,a,l⟩:=h3 f;exact⟨b,off,e,acD a d.size,fun i j=>(d.cell (p:=⟨b,off+i,none⟩) a).trans (l i j)⟩
theorem below_drewN {B:Nat} {a w:World} (h:Below B a w) (n:Nat):Below B a (w.drewN n):=⟨h.os,h.tape,h.output,h.size,h.block⟩
theorem L5 {B:Nat} {w w':World} (h: ∃n,w'=w.drewN n):Below B w w':=by
 obtain⟨n,rfl⟩:=h;exact Nt.below_drewN (Below.refl _ _) n
theorem toList_eq (s:ByteArray):s.toList=s.data.toList:=ByteArray.toList_eq s
theorem zJ (s:ByteArray) (h:s.size=0):s.toList.isEmpty=true:=by
 rw[toList_eq,List.isEmpty_iff,←List.length_eq_zero_iff];simpa using h
theorem C5 (s:ByteArray) (h:s.size≠0):s.toList.isEmpty=false:=by
 rw[toList_eq]
 cases e:s.data.toList with
 |nil=>exact absurd (by have:=congrArg List.length e;simpa using this) h
 |cons a l=>rfl
end Nt
namespace Nt.Num
open Go Go.RowKit Nt
def Fits (n:Int):Prop:= -9223372036854775808≤n∧n≤9223372036854775807
instance (n:Int):Decidable (Fits n):=inferInstanceAs (Decidable (_∧_))
def told (n:Int):Int×Int:=if Fits n then(n,0) else(0,1)
theorem jC {n:Int} (h:Fits n):told n=(n,0):=if_pos h
theorem jG {n:Int} (h: ¬Fits n):told n=(0,1):=if_neg h
def uo (a b:Int):Int×Int×Int:=
 if b=0∨(a= -9223372036854775808∧b= -1) then(0,0,1)
 else if a.tmod b≠0∧ ¬(a.tmod b<0↔b<0) then(a.tdiv b-1,a.tmod b+b,0) else(a.tdiv b,a.tmod b,0)
theorem yG (a b:Int) (d:b≠0) (c: ¬(a= -9223372036854775808∧b= -1)):
  uo a b=if a.tmod b≠0∧ ¬(a.tmod b<0↔b<0) then(a.tdiv b-1,a.tmod b+b,0) else(a.tdiv b,a.tmod b,0):=by
 unfold uo;rw[if_neg (by rintro(h|h);exact d h;exact c h)]
theorem Au (a b:Int) (d:b≠0): -(b.natAbs:Int)<a.tmod b∧a.tmod b<b.natAbs:=by
 have c:=Int.natAbs_tmod a b;have e:(a.tmod b).natAbs<b.natAbs:=by rw[c];exact acU _ (by omega)
 omega
theorem Cg (a b:Int):(a.tdiv b).natAbs≤a.natAbs:=by
 rw[ZG];exact Nat.div_le_self _ _
theorem C6 (a b:Int) (g:Fits a) (e:Fits b) (d:b≠0) (f: ¬(a= -9223372036854775808∧b= -1)):
  -9223372036854775808≤a.tdiv b∧a.tdiv b≤9223372036854775807∧-9223372036854775807≤a.tmod b∧a.tmod b≤9223372036854775807:=by
 obtain⟨n,o⟩:=g;obtain⟨k,m⟩:=e;have r:=Au a b d;have q:=Cg a b;refine⟨by omega,?_,by omega,by omega⟩;by_cases j:a= -9223372036854775808
 ·have i:b≠-1:=fun h=>f ⟨j,h⟩
  by_cases c:b=1
  ·subst c;rw[Int.tdiv_one];omega
  ·have l:(a.tdiv b).natAbs=a.natAbs/b.natAbs:=ZG a b
   have h3:a.natAbs/b.natAbs≤a.natAbs/2:=acB (by omega) (by omega);omega
 ·omega
theorem Nv (r b:Int) (f:Fits r) (g:Fits b):bits .xor .i64 r b<0↔ ¬(r<0↔b<0):=by
 have msb: ∀x:Int,Fits x→(BitVec.ofInt 64 x).msb=decide (x<0):=fun x hx=>by
  rw[BitVec.msb_eq_toInt,BitVec.toInt_ofInt,Int.bmod_eq_of_le (by unfold Fits at hx;omega) (by unfold Fits at hx;omega)]
 have j: ∀n:Nat,n<18446744073709551616→(IntKind.i64.wrap (n:Int)<0↔9223372036854775808≤n):=fun n k=>by rw[IntKind.wrap_i64];omega
 have e:(BitVec.ofInt 64 r ^^^ BitVec.ofInt 64 b).msb=(decide (r<0) ^^ decide (b<0)):=by rw[BitVec.msb_xor,msb r f,msb b g]
 have h3:bits .xor .i64 r b=IntKind.i64.wrap (((BitVec.ofInt 64 r ^^^ BitVec.ofInt 64 b).toNat:Nat):Int):=rfl;have i:=(BitVec.ofInt 64 r ^^^ BitVec.ofInt 64 b).isLt;rw[h3,j _ i];have d:=BitVec.msb_eq_decide (BitVec.ofInt 64 r ^^^ BitVec.ofInt 64 b);rw[e] at d;have h:(9223372036854775808≤(BitVec.ofInt 64 r ^^^ BitVec.ofInt 64 b).toNat)↔(decide (r<0) ^^ decide (b<0))=true:=by
  rw[d,Fw]
 rw[h];by_cases c:r<0<;>by_cases a:b<0<;>simp[c,a]
theorem Pp {n:Int} (h:9223372036854775807<n) (a:n≤18446744073709551615):wrap64 n<0:=by unfold wrap64;omega
theorem L6 {n:Int} (h:n< -9223372036854775808) (a: -18446744073709551616≤n):0≤wrap64 n:=by unfold wrap64;omega
theorem Nw (a b:Int):(a*b).natAbs=a.natAbs*b.natAbs:=Int.natAbs_mul a b
theorem Pq (a b:Int) (h: ¬(a<0↔b<0)):a*b= -((a.natAbs*b.natAbs:Nat):Int):=by
 have c:=Nw a b;have e:a*b≤0:=by
  by_cases d:a<0
  ·exact Int.mul_nonpos_of_nonpos_of_nonneg (by omega) (by omega)
  ·exact Int.mul_nonpos_of_nonneg_of_nonpos (by omega) (by omega)
 omega
theorem Ps (a b:Int) (h:a<0↔b<0):a*b=((a.natAbs*b.natAbs:Nat):Int):=by
 have c:=Nw a b;have e:0≤a*b:=by
  by_cases d:a<0
  ·exact Int.mul_nonneg_of_nonpos_of_nonpos (by omega) (by omega)
  ·exact Int.mul_nonneg (by omega) (by omega)
 omega
def bs (l:ah):ByteArray:=⟨l.toArray⟩
theorem rR (l:ah):(bs l).size=l.length:=by simp[bs,ByteArray.size]
def digit (k:Nat):UInt8:=UInt8.ofNat (48+k)
theorem JK (k:Nat) (h:k<10):(digit k).toNat=48+k:=by
 unfold digit;rw[acE];omega
def Bo:Nat→Nat→ah
 |0,_=>[]
 |f+1,n=>if n<10 then[digit n] else Bo f (n/10)++[digit (n%10)]
theorem zK: ∀(f g n:Nat),n<f→n<g→Bo f n=Bo g n
 |0,_,_,h,_=>by omega
 |_,0,_,_,h=>by omega
 |f+1,g+1,n,b,a=>by
  unfold Bo;split
  ·rfl
  ·rw[zK f g (n/10) (by omega) (by omega)]
def sQ (n:Nat):ah:=Bo (n+1) n
theorem qh (n:Nat) (h:n<10):sQ n=[digit n]:=by unfold sQ Bo;rw[if_pos h]
theorem yH (n:Nat) (h:10≤n):sQ n=sQ (n/10)++[digit (n%10)]:=by
 conv=>lhs;unfold sQ Bo
 rw[if_neg (by omega),zK n (n/10+1) (n/10) (by omega) (by omega)];rfl
theorem pq: ∀(f n:Nat),n<10 ^ f→0<f→(sQ n).length≤f∧0<(sQ n).length
 |0,_,_,h=>by omega
 |f+1,n,h,_=>by
  by_cases c:n<10
  ·rw[qh n c];simp
  ·rw[yH n (by omega)]
   have a:0<f:=by
    by_cases b:f=0
    ·subst b;omega
    ·omega
   have:=pq f (n/10) (by rw[U5] at h;omega) a;simp;omega
def text (n:Int):ah:=(if n<0 then[45] else[])++sQ n.natAbs
theorem Ch (n:Int) (h:Fits n):(text n).length≤21∧0<(text n).length:=by
 have:=pq 20 n.natAbs (by unfold Fits at h;omega) (by decide);unfold text;split<;>simp<;>omega
def ahead (u k m:Nat):ah:=if m≤k then sQ (u/10 ^ m) else[]
theorem nC (u k m:Nat) (a:u/10 ^ k<10) (hl:k=0∨10 ^ k≤u) (b:m≤k):ahead u k m=ahead u k (m+1)++[digit (u/10 ^ m%10)]:=by
 unfold ahead;rw[if_pos b];by_cases h:m=k
 ·subst h
  rw[if_neg (by omega),qh _ a,Oo,Nat.mod_eq_of_lt a]
 ·rw[if_pos (by omega)]
  have d:10 ^ (m+1)≤u:=by
   rcases hl with hl|hl
   ·omega
   ·exact Dy (UZ (by decide) (by omega)) hl
  have c:10≤u/10 ^ m:=by
   rw[Nat.le_div_iff_mul_le (acP (by decide))];rw[U5] at d;omega
  rw[yH _ c,Nat.div_div_eq_div_mul,U5]
theorem Pt (u k:Nat):ahead u k 0=sQ u:=by unfold ahead;simp
def isDigit (c:UInt8):Bool:=decide (48≤c.toNat)&&decide (c.toNat≤57)
def minus (l:ah):Bool:=match l with|c::_=>c==45|[]=>false
def bare (l:ah):ah:=if minus l then l.drop 1 else l
def good (l:ah):Bool:=(bare l).all isDigit&& !(bare l).isEmpty&&(!((bare l).getD 0 0==48)||(decide ((bare l).length=1)&& !minus l))
def val (d:ah):Nat:=d.foldl (fun n c=>10*n+(c.toNat-48)) 0
def read (l:ah):Int×Int:=if good l then told (if minus l then -(val (bare l):Int) else(val (bare l):Int)) else(0,2)
theorem S9 (d:ah) (c:UInt8):val (d++[c])=10*val d+(c.toNat-48):=by unfold val;rw[List.foldl_append];rfl
theorem wC (d:ah) (k:Nat) (h:k<d.length):val (d.take (k+1))=10*val (d.take k)+((d.getD k 0).toNat-48):=by
 rw[acH,sV,gP h];exact S9 _ _
theorem Ta (d:ah) (k:Nat): ∀m,k≤m→val (d.take k)≤val (d.take m):=by
 intro m;induction m with
 |zero=>
  intro h;have e:k=0:=by omega
  rw[e];exact iI _
 |succ m c=>
  intro h;by_cases e:k=m+1
  ·rw[e];exact iI _
  ·have a:=c (by omega)
   by_cases b:m<d.length
   ·rw[wC d m b];omega
   ·rw[Hw (show d.length≤m+1 by omega)]
    rw[Hw (show d.length≤m by omega)] at a;exact a
theorem RU (d:ah) (k:Nat):val (d.take k)≤val d:=by
 by_cases h:k≤d.length
 ·have:=Ta d k d.length h
  rwa [QA] at this
 ·rw[Hw (by omega)];exact iI _
theorem RV (d:ah) (b:d.all isDigit=true): ∀k,val (d.take k)<10 ^ k:=by
 intro k;induction k with
 |zero=>simp[val]
 |succ k a=>
  by_cases h:k<d.length
  ·have c:=List.all_eq_true.1 b (d.getD k 0) (by rw[sV,gP h];exact Hg _)
   simp only[isDigit,bL,Fw] at c;rw[wC d k h,U5];omega
  ·rw[Hw (by omega)]
   rw[Hw (by omega)] at a;exact acD a (UZ (by decide) (by omega))
def signed (below:Bool) (n:Nat):Int:=if below then -(n:Int) else n
theorem JL (below:Bool) (d:ah) (k:Nat) (h:k<d.length) (a:d.all isDigit=true):
  signed below (val (d.take (k+1)))=signed below (val (d.take k))*10+(if below then -((d.getD k 0).toNat-48:Int) else((d.getD k 0).toNat-48:Int)):=by
 have b:=List.all_eq_true.1 a (d.getD k 0) (by rw[sV,gP h];exact Hg _);simp only[isDigit,bL,Fw] at b;rw[wC d k h];generalize (d.getD k 0).toNat=c at*;unfold signed
 cases below<;>simp<;>omega
theorem JM (below:Bool) (n m:Nat) (h:n≤m) (a: ¬Fits (signed below n)): ¬Fits (signed below m):=by
 unfold Fits signed at*
 cases below<;>simp at* <;>omega
theorem zL (d:ah):(Lib.trimS d [48,49,50,51,52,53,54,55,56,57]=[])↔d.all isDigit=true:=by
 have f: ∀c:UInt8,([48,49,50,51,52,53,54,55,56,57]:ah).contains c=isDigit c:=by
  have h: ∀n:Fin 256,([48,49,50,51,52,53,54,55,56,57]:ah).contains (UInt8.ofNat n)=isDigit (UInt8.ofNat n):=by decide+kernel
  intro c;have:=h ⟨c.toNat,c.toNat_lt⟩;simpa using this
 have b: ∀(p:UInt8→Bool) (l:ah),l.dropWhile p=[]↔ ∀x∈l,p x=true:=by
  intro p l;induction l with
  |nil=>simp
  |cons a l g=>
   rw[ab7];split
   ·rename_i h;rw[g];simp[h]
   ·rename_i h;simp[h]
 have e: ∀l:ah,(∀x∈l.dropWhile isDigit,isDigit x=true)↔ ∀x∈l,isDigit x=true:=by
  intro l;induction l with
  |nil=>simp
  |cons a l g=>
   rw[ab7];split
   ·rename_i h;rw[g];simp[h]
   ·rfl
 unfold Lib.trimS Lib.trimLeftS Lib.trimRightS;simp only[f];rw[b,ko];simp only[List.mem_reverse];rw[e];simp
end Nt.Num
namespace Nt.Words
open Go Nt
def low (c:UInt8):UInt8:=if 65≤c.toNat∧c.toNat≤90 then UInt8.ofNat (c.toNat+32) else c
def alike (x y:UInt8):Bool:=low x==low y
def begins (a s:ByteArray):Bool:=decide (s.size≤a.size)&&decide (∀i,i<s.size→alike (at_ a i) (at_ s i)=true)
def same (a b:ByteArray):Bool:=decide (a.size=b.size)&&begins a b
end Nt.Words
namespace Nt.Ev
open Go Go.RowKit
class MLen where val:Int
def dx (L:List (ah)):af:=L.map V.str
def Av (L:List (ah)):List Value:=L.map fun l=>Value.string ⟨l.toArray⟩
theorem EZ {G:aJ}: ∀(L:List (ah)) (a:List Value),bM G [.str] (dx L) (Av L++a)
 |[],_=>gH
 |l::L,a=>by
  show bM G [.str] (V.str l::dx L) (Value.string ⟨l.toArray⟩::(Av L++a));unfold bM;refine⟨rfl,⟨.string ⟨l.toArray⟩,by unfold aK;rfl,rfl⟩,?_⟩;exact EZ L a
theorem pX {G:aJ} {a b:V} {vs:List Value} (h:PW (aK G) [a,b] vs): ∃x y,vs=[x,y]∧aK G a x∧aK G b y:=by
 obtain⟨x,t,rfl,e,c⟩:=h.cons_inv;obtain⟨y,t,rfl,h3,d⟩:=c.cons_inv;exact⟨x,y,by rw[d.bR],e,h3⟩
theorem RX {G:aJ} {a:V} {vs:List Value} (h:PW (aK G) [a] vs): ∃x,vs=[x]∧aK G a x:=by
 obtain⟨x,t,rfl,c,b⟩:=h.cons_inv;exact⟨x,by rw[b.bR],c⟩
theorem IQ (L:List (ah)) (p:ah):bS (dx L) [V.str p]=dx (L++[p]):=by unfold bS dx;simp
theorem pP (L:List (ah)):(dx L).length=L.length:=by unfold dx;simp
theorem Tc (s:ah) (a k:Nat) (h:a≤k) (b:k<s.length):(s.drop a).take (k+1-a)=(s.drop a).take (k-a)++[s.getD k 0]:=by
 rw[show k+1-a=(k-a)+1 by omega,acH];congr 1
 rw[Hy,show a+(k-a)=k by omega,gP b,sV,gP b];rfl
theorem pu (s:ah) (k:Nat) (a:k<s.length):s.drop k=s.getD k 0::s.drop (k+1):=by
 rw[Zz a,sV,gP a];rfl
open Nt
theorem eO {E:Env} {f:Nat} {args:af} {r:V} (h: ∀(G:aJ) (w:World) (vs:List Value),vk G w→kC E G w→PW (aK G) args vs→
  Calls E.P f vs.toArray w fun e w'=>∃v,e=.returned v∧Below w.heap.size w w'∧ ∀(G':aJ) (w':World) (B:Nat→Prop),fo G' w' B r v):aj E f args r:=by
 intro G w vs a k g;refine(h G w vs a k g).mono ?_;rintro e w' ⟨v,rfl,d,i⟩;refine⟨v,G,rfl,⟨d,fun _ _=>rfl,fun b l hl=>?_⟩,i _ _ _⟩;obtain⟨c,e,fr,m,j⟩:=a b l hl;exact⟨c,e,fr,by rw[d.block b (eU a hl)];exact m,j⟩
theorem Aw (k:IntKind) (n:Int): ∀(G':aJ) (w':World) (B:Nat→Prop),fo G' w' B (.int k n) (.int k n):=fun _ _ _=>by simp only[fo,kz];unfold aK;rfl
theorem Td (b:Bool): ∀(G':aJ) (w':World) (B:Nat→Prop),fo G' w' B (.bool b) (.bool b):=fun _ _ _=>by simp only[fo,kz];unfold aK;rfl
theorem Ny (l:ah): ∀(G':aJ) (w':World) (B:Nat→Prop),fo G' w' B (.str l) (.string ⟨l.toArray⟩):=fun _ _ _=>by simp only[fo,kz];unfold aK;rfl
def Same (x:V) (v:Value):Prop:=mD x=false∧ ∀(G':aJ) (w':World) (B:Nat→Prop),kz G' w' B x v
theorem lu (k:IntKind) (n:Int):Same (.int k n) (.int k n):=⟨rfl,fun _ _ _=>by simp only[kz];unfold aK;rfl⟩
theorem Pv (b:Bool):Same (.bool b) (.bool b):=⟨rfl,fun _ _ _=>by simp only[kz];unfold aK;rfl⟩
theorem Te (l:ah):Same (.str l) (.string ⟨l.toArray⟩):=⟨rfl,fun _ _ _=>by simp only[kz];unfold aK;rfl⟩
theorem Nz {xs:af} {vs:List Value} (h:PW Same xs vs): ∀(G':aJ) (w':World) (B:Nat→Prop),fo G' w' B (.tup xs) (.tuple vs.toArray):=by
 intro G w B;refine⟨vs,rfl,h.mono fun x _ v hx=>hx.2 G w B,?_⟩;have:xs.countP mD=0:=by
  rw[List.countP_eq_zero];intro x hx;obtain⟨i,b⟩:=Du hx;obtain⟨v,_,a⟩:=h.get b;rw[a.1];decide
 omega
theorem NA {x y:V} {a b:Value} (h:Same x a) (k:Same y b): ∀(G':aJ) (w':World) (B:Nat→Prop),fo G' w' B (.tup [x,y]) (.tuple #[a,b]):=Nz (vs:=[a,b]) (.cons h (.cons k .nil))
theorem E4 {x y z:V} {a b c:Value} (h:Same x a) (k:Same y b) (l:Same z c): ∀(G':aJ) (w':World) (B:Nat→Prop),fo G' w' B (.tup [x,y,z]) (.tuple #[a,b,c]):=Nz (vs:=[a,b,c]) (.cons h (.cons k (.cons l .nil)))
end Nt.Ev
namespace Go.Proofs.YtcmockbdkppglaaGreatDoor
open Go Nt Nt.Ev Nt.Num
noncomputable def nE:Env:=⟨Tryz.prog,fun _=>none⟩
theorem MX:qy nE:=⟨by kernel_rfl,by kernel_rfl⟩
def Yg:List (Nat×aN):=[]
def jy (n:Int):ah:=sQ n.toNat
def Ay (l:ah):Bool:=l.all isDigit&& !l.isEmpty
def Gf (n:Int):aN:=fun a=>match a with|[.int .u64 m]=>some (au (aD 0 m) (aU m n),.str (jy m))|_=>none
def nSR (n:Int):List (Nat×aN):=[(87,Gf n)]
noncomputable def qi:=fun F b n a d c K=>(eB nE Yg F 1 78 [1,0,1,0] b K n (iN 22 [(0,V.str a),(2,V.bool d),(3,V.int .i64 c)] []):Option V)
set_option maxRecDepth 100000 in
theorem JN (F s) (K:V→Option V):
  dn nE (cu nE Yg F 1) F 78 [V.str s] K=
 qi F [] F s false 0 K:=by kernel_rfl
set_option maxRecDepth 100000 in
theorem Ae (F n x0 x2 x3 K):
  qi F [] (n+1) x0 x2 x3 K=
 let B:=aU x3 (aF x0);let C:=K (V.bool false);let A:=au (aD 0 x3) B;sel B (sel A (sel (aU (sat x0 x3) 48) C (sel A (sel (aU 57 (sat x0 x3)) C (qi F [] n x0 x2 (aV .i64 x3 1) K)) none)) none) (K (V.bool (aT (seq x0 [])))):=by kernel_rfl
set_option maxRecDepth 100000 in
theorem JO (F nn m) (K:V→Option V):
  dn nE (cu nE (nSR nn) F 1) F 87 [V.int .u64 m] K=
 let A:=gX .u64 m 10;let B:=aV .u64 m 1;let C:=qG m 10;sel (aU m 10) (sel (au (au (aD 0 B) (aD B (aF [48,49,50,51,52,53,54,55,56,57]))) (au (aD 0 m) (aD m B))) (K (V.str (bW [48,49,50,51,52,53,54,55,56,57] m B))) none) (sel (au (aD 0 A) (aU A nn)) (sel (au (aD 0 C) (aU C nn)) (sel (bC (jy A) (jy C)) (K (V.str (bg (jy A) (jy C)))) none) none) none):=by kernel_rfl
set_option maxRecDepth 100000 in
theorem Pw (F nn m) (K:V→Option V):
  dn nE (cu nE (nSR nn) F 1) F 66 [V.int .i64 m] K=
 let A:=aV .u64 (gu .u64 (bu .i64 0 (aV .i64 m 1))) 1;let B:=gu .u64 m;sel (aU m 0) (sel (au (aD 0 A) (aU A nn)) (sel (bC [45] (jy A)) (K (V.str (bg [45] (jy A)))) none) none) (sel (au (aD 0 B) (aU B nn)) (K (V.str (jy B))) none):=by kernel_rfl
noncomputable def lz:=fun F c n a d b e K=>(eB nE Yg F 1 61 [1,1,1,1,1,0,0] c K n (iN 35 [(0,V.int .i64 a),(2,V.str []),(3,V.sl 5 [Kd.int .u8] (some 3) d),(4,V.int .u64 b),(5,V.int .u64 e)] []):Option V)
noncomputable def mU:=fun F c n a d b e K=>(eB nE Yg F 1 61 [1,1,1,1,1,1,0,0] c K n (iN 35 [(0,V.int .i64 a),(2,V.str []),(3,V.sl 5 [Kd.int .u8] (some 3) d),(4,V.int .u64 b),(5,V.int .u64 e)] []):Option V)
set_option maxRecDepth 100000 in
theorem Px (F m) (K:V→Option V):
  dn nE (cu nE Yg F 1) F 61 [V.int .i64 m] K=
 let A:=xJ 0 (V.int .u8 0);let B:=gu .u64 m;let C:=[V.int .u8 45];sel (aU m 0) (sel (dU A C) (sel (aU m 0) (lz F [] F m (bS A C) (bu .u64 0 B) 1 K) (lz F [] F m (bS A C) B 1 K)) none) (sel (aU m 0) (lz F [] F m A (bu .u64 0 B) 1 K) (lz F [] F m A B 1 K)):=by kernel_rfl
set_option maxRecDepth 100000 in
theorem DX (F n x0 x3 x4 x5 K):
  lz F [] (n+1) x0 x3 x4 x5 K=
 sel (aT (ieq x5 0)) (sel (aD 10 (gX .u64 x4 x5)) (lz F [] n x0 x3 x4 (fM .u64 x5 10) K) (mU F [] F x0 x3 x4 x5 K)) none:=by kernel_rfl
set_option maxRecDepth 100000 in
theorem tX (F n x0 x3 x4 x5 K):
  mU F [] (n+1) x0 x3 x4 x5 K=
 let A:=[V.int .u8 (gu .u8 (aV .u64 48 (qG (gX .u64 x4 x5) 10)))];sel (aU 0 x5) (sel (aT (ieq x5 0)) (sel (dU x3 A) (mU F [] n x0 (bS x3 A) x4 (gX .u64 x5 10) K) none) none) (K (V.str (fD x3))):=by kernel_rfl
theorem rC (c:UInt8):isDigit c=true↔48≤c.toNat∧c.toNat≤57:=by unfold isDigit;simp
theorem GY (s:ah) (g:s.length≤9223372036854775806) (F:Nat) (K:V→Option V): ∀(n k:Nat),k≤s.length→s.length-k<n→qi F [] n s false (k:Int) K=K (.bool ((s.drop k).all isDigit&& !s.isEmpty)):=by
 intro n;induction n with
 |zero=>intro k _ h;omega
 |succ n e=>
  intro k j i
  (rw[Ae];(conv=>zeta))
  simp only[jv,aQ,ak,ay,av,lX];by_cases b:k<s.length
  ·rw[if_pos (by omega),if_pos (by omega)]
   have d:s.drop k=s.getD k 0::s.drop (k+1):=by
    rw[Zz b,sV,gP b];rfl
   rw[d,U3];generalize s.getD k 0=c;have o:=c.toNat_lt;by_cases m:c.toNat<48
   ·rw[if_pos (by omega)]
    have:isDigit c=false:=by rw[acL,ne_eq,rC];omega
    rw[this];rfl
   ·rw[if_neg (by omega),if_pos (by omega)]
    by_cases f:57<c.toNat
    ·rw[if_pos (by omega)]
     have:isDigit c=false:=by rw[acL,ne_eq,rC];omega
     rw[this];rfl
    ·rw[if_neg (by omega),aZ (by omega)]
     have:isDigit c=true:=by rw[rC];omega
     rw[this,Fy];exact e (k+1) (by omega) (by omega)
  ·rw[if_neg (by omega)]
   have:s.drop k=[]:=QI (by omega);rw[this,List.all_nil,Fy]
   cases s with
   |nil=>rfl
   |cons a l=>rfl
theorem L8 (s:ah) (a:s.length≤9223372036854775806):aj nE 78 [.str s] (.bool (Ay s)):=by
 refine ax MX (S:=Yg) bT.nil (s.length+1) 1 ?_;rw[JN];have:=GY s a (s.length+1) some (s.length+1) 0 (by omega) (by omega);rw[Ko] at this;exact this
theorem L9: ∀(b:Nat) (m:Int),0≤m→m<b→m≤18446744073709551615→aj nE 87 [.int .u64 m] (.str (jy m)):=by
 intro b;induction b with
 |zero=>intro m c u;omega
 |succ b s=>
  intro m c u i;have t:bT nE (nSR (min b m)):=by
   refine bT.cons (fun args r h=>?_) bT.nil;unfold Gf at h;split at h
   ·rename_i k
    simp only[aI,bU] at h;obtain⟨g,rfl⟩:=h;rw[ay,ak,aQ] at g;exact s k g.1 (by omega) (by omega)
   ·cases h
  refine ax MX t 0 1 ?_
  (rw[JO];(conv=>zeta))
  simp only[jv,aQ,ak,ay,jO];by_cases f:m<10
  ·rw[if_pos f,Gd (by omega),if_pos (by have:aF [48,49,50,51,52,53,54,55,56,57]=10:=rfl;omega)]
   obtain⟨k,rfl⟩: ∃k:Nat,m=k:=⟨m.toNat,by omega⟩
   have a:jy (k:Int)=[digit k]:=by unfold jy;rw[Dq,qh k (by omega)]
   rw[a];have: ∀k:Fin 10,bW [48,49,50,51,52,53,54,55,56,57] ((k:Nat):Int) ((k:Nat)+1:Int)=[digit k]:=by decide
   exact congrArg (fun l=>some (V.str l)) (this ⟨k,by omega⟩)
  ·have o:gX .u64 m 10=m/10:=Ar c (by omega) i
   have j:qG m 10=m%10:=wz c;rw[if_neg f,o,j,if_pos (by omega),if_pos (by omega)];have a:jy m=jy (m/10)++jy (m%10):=by
    obtain⟨k,rfl⟩: ∃k:Nat,m=k:=⟨m.toNat,by omega⟩
    unfold jy;have p:((k:Int)/10).toNat=k/10:=by omega
    have v:((k:Int)%10).toNat=k%10:=by omega
    rw[p,v,Dq,yH k (by omega),qh (k%10) (by omega)]
   have e:(m/10).toNat<10 ^ 20:=by omega
   have d:(m%10).toNat<10 ^ 20:=by omega
   have q:(jy (m/10)).length≤20:=(pq 20 _ e (by decide)).1;have n:(jy (m%10)).length≤20:=(pq 20 _ d (by decide)).1;rw[if_pos (by omega),a];rfl
theorem Tf (m:Int) (h:Fits m):aj nE 66 [.int .i64 m] (.str (text m)):=by
 obtain⟨g,f⟩:=h;have d:bT nE (nSR 18446744073709551616):=by
  refine bT.cons (fun args r h=>?_) bT.nil;unfold Gf at h;split at h
  ·rename_i k
   simp only[aI,bU] at h;obtain⟨c,rfl⟩:=h;rw[ay,ak,aQ] at c;exact L9 (k.toNat+1) k c.1 (by omega) (by omega)
  ·cases h
 refine ax MX d 0 1 ?_
 (rw[Pw];(conv=>zeta))
 simp only[jv,aQ,ak,ay,jO];by_cases a:m<0
 ·rw[if_pos a,aZ (by omega),bZ (by omega),Aq (by omega),Gd (by omega),if_pos (by omega)]
  have b:jy (0-(m+1)+1)=sQ m.natAbs:=by unfold jy;congr 1;omega
  have e:m.natAbs<10 ^ 20:=by omega
  have hl:(sQ m.natAbs).length≤20:=(pq 20 _ e (by decide)).1;rw[b,if_pos (by simp;omega)];unfold text bg;rw[if_pos a]
 ·rw[if_neg a,Aq (by omega),if_pos (by omega)]
  unfold text;rw[if_neg a];have b:jy m=sQ m.natAbs:=by unfold jy;congr 1;omega
  rw[b];rfl
theorem Tg (m:Int) (d:af) (F:Nat) (K:V→Option V) (u:Nat) (o:u≤9223372036854775808): ∀(n k:Nat),(k=0∨10 ^ k≤u)→20<n+k→
  ∃j,(j=0∨10 ^ j≤u)∧u/10 ^ j<10∧lz F [] n m d (u:Int) ((10 ^ k:Nat):Int) K=mU F [] F m d (u:Int) ((10 ^ j:Nat):Int) K:=by
 intro n;induction n with
 |zero=>
  intro k a g;exfalso;have c:10 ^ 21≤10 ^ k:=UZ (by decide) (by omega);rcases a with rfl|a<;>omega
 |succ n l=>
  intro k a g;have f:0<10 ^ k:=acP (by decide);have e:10 ^ k≤9223372036854775808:=by
   rcases a with rfl|a
   ·decide
   ·omega
  rw[DX];simp only[jv,o9,lW,ak];rw[if_pos (by omega)];have i:gX .u64 (u:Int) ((10 ^ k:Nat):Int)=((u/10 ^ k:Nat):Int):=by
   rw[Ar (by omega) (by omega) (by omega)];rfl
  rw[i];by_cases b:10≤u/10 ^ k
  ·rw[if_pos (by omega)]
   have c:10 ^ (k+1)≤u:=by
    rw[Nat.le_div_iff_mul_le f] at b;rw[U5];omega
   have h:fM .u64 ((10 ^ k:Nat):Int) 10=((10 ^ (k+1):Nat):Int):=by
    rw[VU (by rw[U5] at c;omega),U5];omega
   rw[h];exact l (k+1) (.inr c) (by omega)
  ·rw[if_neg (by omega)]
   exact⟨k,a,by omega,rfl⟩
theorem Ti (l:ah) (c:UInt8):bS (aH l) [V.int .u8 (c.toNat:Int)]=aH (l++[c]):=by unfold bS aH;simp
theorem Ma (l:ah):fD (aH l)=l:=by
 unfold fD aH;rw[UL];conv=>rhs;rw[←acZ l]
 refine U0 fun c _=>?_
 show UInt8.ofNat ((c.toNat:Int)).toNat=c;simp
theorem Mb (m:Int) (F:Nat) (K:V→Option V) (u k:Nat) (r:u≤9223372036854775808) (o:u/10 ^ k<10) (hl:k=0∨10 ^ k≤u) (a:ah) (f:a.length≤1):
  ∀(j n:Nat),j≤k→j+1<n→mU F [] n m (aH (a++Num.ahead u k (j+1))) (u:Int) ((10 ^ j:Nat):Int) K=K (.str (a++sQ u)):=by
 have i:k≤20:=by
  rcases acT 20 k with h|h
  ·exfalso
   have x:10 ^ 21≤10 ^ k:=UZ (by decide) (by omega);rcases hl with rfl|hl<;>omega
  ·exact h
 have step: ∀(j n:Nat),j≤k→mU F [] (n+1) m (aH (a++Num.ahead u k (j+1))) (u:Int) ((10 ^ j:Nat):Int) K=mU F [] n m (aH (a++Num.ahead u k j)) (u:Int) ((10 ^ j/10:Nat):Int) K:=by
  intro j n b;have y:0<10 ^ j:=acP (by decide);have g:10 ^ j≤9223372036854775808:=by
   rcases hl with rfl|hl
   ·obtain rfl:j=0:=by omega
    decide
   ·exact Dy (Dy (UZ (by decide) b) hl) r
  (rw[tX];(conv=>zeta))
  simp only[jv,o9,lW,aQ,dm];have e:(aH (a++Num.ahead u k (j+1))).length≤100:=by
   unfold aH;rw[xC,qw];have:(Num.ahead u k (j+1)).length≤20:=by
    unfold Num.ahead;split
    ·refine(pq 20 _ ?_ (by decide)).1
     have:=Nat.div_le_self u (10 ^ (j+1));omega
    ·simp
   omega
  rw[if_pos (by omega),if_pos (by omega),if_pos (by simp;omega)];have p:gX .u64 (u:Int) ((10 ^ j:Nat):Int)=((u/10 ^ j:Nat):Int):=by
   rw[Ar (by omega) (by omega) (by omega)];rfl
  have q:qG ((u/10 ^ j:Nat):Int) 10=((u/10 ^ j%10:Nat):Int):=by rw[wz (Int.natCast_nonneg _)];rfl
  have l:=JK (u/10 ^ j%10) (acU _ (by decide));have w:gu .u8 (aV .u64 48 ((u/10 ^ j%10:Nat):Int))=((digit (u/10 ^ j%10)).toNat:Int):=by
   have z:=acU (u/10 ^ j) (show 0<10 by decide);rw[Gd (by omega),Zg (by omega),l];omega
  have d:gX .u64 ((10 ^ j:Nat):Int) 10=((10 ^ j/10:Nat):Int):=by
   rw[Ar (by omega) (by omega) (by omega)];rfl
  rw[p,q,w,d,Ti,Kj,←nC u k j o hl b]
 intro j;induction j with
 |zero=>
  intro n b s;obtain⟨n,rfl⟩: ∃c,n=c+1:=⟨n-1,by omega⟩
  rw[step 0 n b,Pt];obtain⟨n,rfl⟩: ∃c,n=c+1:=⟨n-1,by omega⟩
  (rw[tX];(conv=>zeta))
  simp only[jv,aQ];rw[if_neg (by decide),Ma]
 |succ j v=>
  intro n b s;obtain⟨n,rfl⟩: ∃c,n=c+1:=⟨n-1,by omega⟩
  have t:10 ^ (j+1)/10=10 ^ j:=by rw[U5];omega
  rw[step (j+1) n b,t];exact v n (by omega) (by omega)
theorem IR (m:Int) (h:Fits m):aj nE 61 [.int .i64 m] (.str (text m)):=by
 obtain⟨p,q⟩:=h;refine ax MX (S:=Yg) bT.nil 30 1 ?_
 (rw[Px];(conv=>zeta))
 simp only[jv,aQ,dm];have both: ∀(a:ah) (u:Nat),a.length≤1→u≤9223372036854775808→lz 30 [] 30 m (aH a) (u:Int) 1 some=some (.str (a++sQ u)):=by
  intro a u l i;obtain⟨j,c,f,o⟩:=Tg m (aH a) 30 some u i 30 0 (.inl rfl) (by omega);have k:j≤20:=by
   rcases acT 20 j with h|h
   ·exfalso
    have p:10 ^ 21≤10 ^ j:=UZ (by decide) (by omega);rcases c with rfl|hl<;>omega
   ·exact h
  have g:=Mb m 30 some u j i f c a l j 30 (iI _) (by omega);have d:Num.ahead u j (j+1)=[]:=by unfold Num.ahead;rw[if_neg (by omega)]
  rw[d,On] at g;rw[←g,←o];rfl
 have n:xJ 0 (V.int .u8 0)=aH []:=rfl;have e:bS (aH []) [V.int .u8 45]=aH [45]:=rfl;rw[n,e];unfold text;by_cases b:m<0
 ·rw[if_pos b,if_pos (by decide),if_pos b,if_pos b]
  have d:bu .u64 0 (gu .u64 m)=((m.natAbs:Nat):Int):=by
   unfold bu gu;rw[IntKind.wrap_u64,IntKind.wrap_u64];omega
  rw[d];exact both [45] m.natAbs (by simp) (by omega)
 ·rw[if_neg b,if_neg b,if_neg b]
  have d:gu .u64 m=((m.natAbs:Nat):Int):=by rw[Aq (by omega)];omega
  rw[d];exact both [] m.natAbs (by simp) (by omega)
end Go.Proofs.YtcmockbdkppglaaGreatDoor
namespace Nt
open Go Go.RowKit Go.ChangeShapes Go.WideShapes Go.ChangeAt
open Go.ChangeMaps (open_string shut_string)
section
variable {H:Type} {enc:TypeId×Value→H} {P:Program}
theorem tY (hl:laidOutB P=true) {W W':World} (j:Below W.heap.size W W'):
  ∀(a:List TypeId) (vs:List Value) (f:List (DataW H)) (g:List MemPlace),(a.all fun t=>P.readableRec t&&decide (t<P.types.size))=true→
  DataW.TrodAll enc P W 0 (fun _=>true) true a vs f g→DataW.TrodAll enc P W' 0 (fun b=>decide (b<W.heap.size)) true a vs f g
 |[],[],[],_,_,h=>h
 |[],_::_,_,_,_,h=>by simp[DataW.TrodAll] at h
 |[],[],_::_,_,_,h=>by simp[DataW.TrodAll] at h
 |_::_,[],_,_,_,h=>by simp[DataW.TrodAll] at h
 |_::_,_::_,[],_,_,h=>by simp[DataW.TrodAll] at h
 |t::a,v::vs,d::f,g,c,h=>by
  simp only[U3,bL,Fw] at c;obtain⟨p,q,i,l,e⟩:=h;refine⟨p,q,?_,tY hl j a vs f q c.2 l,e⟩;have n: ∀x∈p,x.block<W.heap.size:=by obtain⟨m,k⟩:=i;exact DataW.trod_lt m _ _ _ k
  exact Below.trod hl c.1.1 c.1.2 i j n
end
section
variable {H:Type} {enc:TypeId×Value→H} {P:Program}
end
end Nt
namespace Nt.Ev.YtcmockbdkppglaaGreatDoor
open Go Nt.Num Go.Proofs.YtcmockbdkppglaaGreatDoor
noncomputable def oE:Env:=⟨Go.Proofs.Tryz.prog,fun _=>none⟩
noncomputable def oS:List (Nat×aN):=[]
open Go.RowKit Nt
theorem MY:qy oE:=⟨by kernel_rfl,by kernel_rfl⟩
theorem oS_ok:bT oE oS:=bT.nil
theorem sF' {α:Type} (a b:α):sel false a b=b:=rfl
theorem DY {E:Env} {f:Nat} {args:af} {e:Nat} {sh:List Kd} {o:Option Nat} {xs ys:af} (h:aj E f args (.tup (.sl e sh o xs::ys))):aj E f args (.tup (.sl e sh none xs::ys)):=by
 cases o with
 |none=>exact h
 |some L=>
 intro G w vs g i m;refine(h G w vs g i m).mono ?_;rintro r w' ⟨v,G',rfl,p,a,rfl,c,x⟩;refine⟨_,G',rfl,p,a,rfl,?_,?_⟩
 ·match a,c with
  |[],c=>exact absurd c.1 (by simp)
  |u::us,c=>
   refine .cons ?_ c.tail;have j:=c.head;show aK G' _ _;refine jZ ?_;rcases j.2 with⟨n,hx⟩|⟨b,cap,k,l,q,_,_,d,_,_,g,hl,hE⟩
   ·exact .inl ⟨n,hx⟩
   ·exact .inr ⟨b,cap,l,q,d,g,hl,hE⟩
 ·have t:(V.sl e sh (some L) xs::ys).countP mD=ys.countP mD+1:=by
   rw[Qz];rfl
  have s:(V.sl e sh none xs::ys).countP mD=ys.countP mD:=by
   rw[Qz];rfl
  omega
theorem GZ {E:Env} {f:Nat} {args:af} {e:Nat} {sh:List Kd} {ys:af} (h:aj E f args (.tup (.nilsl::ys))):aj E f args (.tup (.sl e sh none []::ys)):=by
 intro G w vs i g c;refine(h G w vs i g c).mono ?_;rintro m w' ⟨v,G',rfl,j,a,rfl,b,l⟩;refine⟨_,G',rfl,j,a,rfl,?_,l⟩;match a,b with
 |[],b=>exact absurd b.1 (by simp)
 |u::us,b=>
  refine .cons ?_ b.tail;have k:=b.head;have d:u=.slice none 0 0:=k;subst d;show aK G' _ _;unfold aK;exact⟨none,0,rfl,iI _,.inl rfl⟩
theorem Dk {E:Env} {f:Nat} {args:af} {e:Nat} {sh:List Kd} {o:Option Nat} {xs:af} (h:aj E f args (.sl e sh o xs)):aj E f args (.sl e sh none xs):=by
 cases o with
 |none=>exact h
 |some L=>
 intro G w vs c d j;refine(h G w vs c d j).mono ?_;rintro p w' ⟨v,G',rfl,m,g⟩;refine⟨_,G',rfl,m,?_⟩;show aK G' _ _;refine jZ ?_;rcases g.2 with⟨k,hx⟩|⟨b,cap,i,l,n,_,_,a,_,_,c,hl,hE⟩
 ·exact .inl ⟨k,hx⟩
 ·exact .inr ⟨b,cap,l,n,a,c,hl,hE⟩
end Nt.Ev.YtcmockbdkppglaaGreatDoor
