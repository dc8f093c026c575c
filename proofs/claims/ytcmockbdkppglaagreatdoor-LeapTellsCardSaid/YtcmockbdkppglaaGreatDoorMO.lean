/-
  Fields of a line: the plain law. Fields of a line, one at a time: the plain law.
-/
import Derived.Test.YtcmockbdkppglaaGreatDoorMD
import Derived.Test.YtcmockbdkppglaaGreatDoorMS
import Derived.Test.YtcmockbdkppglaaGreatDoorMP
set_option linter.all false
set_option maxRecDepth 100000
namespace Nt.Fld
open Go Nt.Ev
def vv (out:List (ah)):List (ah)×Int:=if 16<out.length then([],6) else(out,0)
def qA (a:Bool) (out:List (ah)) (f:ah):List (ah):=sel a (out++[f]) out
def oP:ah→List (ah)→ah→Bool→Bool→List (ah)×Int
 |[],out,f,a,b=>sel b ([],8) (vv (qA a out f))
 |c::t,out,f,a,b=>sel b
  (sel (c==34) (oP t out f a false) (oP t out (f++[c]) a true))
  (sel (c==35) (vv (qA a out f)) (sel (c==9) (oP t (qA a out f) [] false false) (sel (c==32) (oP t (qA a out f) [] false false)
   (sel (c==34) (oP t out f true true) (oP t out (f++[c]) true false)))))
def Ks (s:ah):List (ah)×Int:=oP s [] [] false false
def Ea (c:UInt8):Bool:=c==9||c==32||c==35
theorem E8 (a:ah) (out:List (ah)) (b:Bool): ∀(x f:ah),x.contains 34=false→oP (x++a) out f b true=oP a out (f++x) b true
 |[],f,_=>by simp
 |c::x,f,h=>by
  rw[QJ,Fv] at h;have d:(c==34)=false:=by
   rw[qD] at h⊢;exact fun e=>h.1 e.symm
  show sel true (sel (c==34) _ (oP (x++a) out (f++[c]) b true)) _=_;rw[d];show oP (x++a) out (f++[c]) b true=_;rw[E8 a out b x (f++[c]) h.2];simp
def upTo (t:ah):ah:=t.takeWhile fun c=>c != 34
def behind (t:ah):ah:=t.drop ((upTo t).length+1)
def tq:Nat→ah→ah→Bool×ah×ah
 |0,s,f=>(false,f,s)
 |n+1,[],f=>(false,f,[])
 |n+1,c::t,f=>sel (Ea c) (false,f,c::t) (sel (c==34) (sel (t.contains 34) (tq n (behind t) (f++upTo t)) (true,f,t)) (tq n t (f++[c])))
def xH (s:ah):ah:=s.dropWhile fun b=>([32,9]:ah).contains b
def nd (s:ah):Bool×ah×ah:=tq ((xH s).length+1) (xH s) []
def xI (s:ah):Bool:=match xH s with|[]=>false|c::_=>!(c==35)
def Fz (s:ah):Bool:=xI s&&(nd s).1
def FC (s:ah):ah:=sel (xI s) (nd s).2.1 []
def sM (s:ah):ah:=sel (xI s) (nd s).2.2 (xH s)
theorem u7: ∀t:ah,t.contains 34=true→t=upTo t++34::behind t∧(upTo t).contains 34=false
 |[],h=>by cases h
 |c::t,h=>by
  by_cases a:c=34
  ·subst a
   exact⟨rfl,rfl⟩
  ·have g:t.contains 34=true:=by
    rw[QJ,Fx] at h;rcases h with h|h
    ·rw[ig] at h;exact absurd h.symm a
    ·exact h
   obtain⟨f,j⟩:=u7 t g;have i:(c != 34)=true:=by rw[Yb];exact a
   have d:upTo (c::t)=c::upTo t:=by unfold upTo;rw[ZC,if_pos i]
   have b:behind (c::t)=behind t:=by unfold behind;rw[d];rfl
   refine⟨by rw[d,b];simp only[Om];rw[←f],?_⟩;rw[d,QJ,j,Bool.or_false,qD];exact fun e=>a e.symm
theorem nD (t:ah) (h:t.contains 34=true):(behind t).length<t.length∧(upTo t).length+(behind t).length+1=t.length:=by
 have:=congrArg List.length (u7 t h).1;simp at this;omega
theorem NL: ∀(t:ah) (out:List (ah)) (f:ah) (a:Bool),t.contains 34=false→oP t out f a true=([],8)
 |[],_,_,_,_=>rfl
 |c::t,out,f,a,h=>by
  rw[QJ,Fv] at h;have b:(c==34)=false:=by
   rw[qD] at h⊢;exact fun e=>h.1 e.symm
  show sel true (sel (c==34) _ (oP t out (f++[c]) a true)) _=_;rw[b];exact NL t out (f++[c]) a h.2
theorem Rw: ∀(n:Nat) (s f:ah) (out:List (ah)),s.length<n→oP s out f true false=sel (tq n s f).1 ([],8) (oP (tq n s f).2.2 (out++[(tq n s f).2.1]) [] false false)
 |0,s,f,out,h=>by omega
 |n+1,[],f,out,h=>rfl
 |n+1,c::t,f,out,h=>by
  have h:t.length<n:=by simpa using h
  unfold tq
  cases a:Ea c with
  |true=>
   show _=oP (c::t) (out++[f]) [] false false;unfold Ea at a;have l:(c=9∨c=32)∨c=35:=by simpa using a
   rcases l with(rfl|rfl)|rfl<;>rfl
  |false=>
   show _=sel (sel (c==34) (sel (t.contains 34) (tq n (behind t) (f++upTo t)) (true,f,t)) (tq n t (f++[c]))).1 ([],8) _;unfold Ea at a;rw[Fv,Fv] at a;obtain⟨⟨i,e⟩,b⟩:=a;have g:oP (c::t) out f true false=sel (c==34) (oP t out f true true) (oP t out (f++[c]) true false):=by
    show sel false _ (sel (c==35) _ (sel (c==9) _ (sel (c==32) _ _)))=_;rw[i,e,b];rfl
   rw[g]
   cases o:c==34 with
   |false=>exact Rw n t (f++[c]) out h
   |true=>
    cases d:t.contains 34 with
    |false=>exact NL t out f true d
    |true=>
     obtain⟨k,m⟩:=u7 t d;have j:oP t out f true true=oP (behind t) out (f++upTo t) true false:=by
      have:=E8 (34::behind t) out true (upTo t) f m;rw[←k] at this;rw[this];rfl
     show oP t out f true true=sel (tq n (behind t) (f++upTo t)).1 ([],8) _;rw[j];exact Rw n (behind t) (f++upTo t) out (by have:=(nD t d).1;omega)
theorem BN: ∀(n:Nat) (s f:ah),s.length<n→(tq n s f).2.2.length≤s.length∧(tq n s f).2.1.length≤f.length+s.length
 |0,s,f,h=>by omega
 |n+1,[],f,h=>⟨iI _,iI _⟩
 |n+1,c::t,f,h=>by
  have h:t.length<n:=by simpa using h
  unfold tq
  cases g:Ea c with
  |true=>exact⟨iI _,by simp[sel]⟩
  |false=>
   cases e:c==34 with
   |false=>
    have:=BN n t (f++[c]) h;show(tq n t (f++[c])).2.2.length≤_∧(tq n t (f++[c])).2.1.length≤_;simp only[qw,fQ,nN] at this⊢;omega
   |true=>
    cases a:t.contains 34 with
    |false=>
     show t.length≤(c::t).length∧f.length≤f.length+(c::t).length;simp
    |true=>
     obtain⟨b,d⟩:=nD t a;have:=BN n (behind t) (f++upTo t) (by omega);show(tq n (behind t) (f++upTo t)).2.2.length≤_∧(tq n (behind t) (f++upTo t)).2.1.length≤_;simp only[qw,fQ] at this⊢;omega
theorem Gj: ∀s:ah,(xH s).length≤s.length:=fun s=>(List.dropWhile_sublist _).length_le
theorem NM: ∀(s:ah) (out:List (ah)),oP s out [] false false=oP (xH s) out [] false false
 |[],out=>rfl
 |c::t,out=>by
  unfold xH;rw[ab7]
  cases a:([32,9]:ah).contains c with
  |false=>rw[if_neg (by decide)]
  |true=>
   rw[if_pos rfl];have b:c=32∨c=9:=by simpa using a
   have:oP (c::t) out [] false false=oP t out [] false false:=by rcases b with rfl|rfl<;>rfl
   rw[this];exact NM t out
theorem IZ {s t:ah} {c:UInt8} (h:xH s=c::t):(c==32)=false∧(c==9)=false:=by
 have e: ∀(l:ah),xH l=c::t→([32,9]:ah).contains c=false:=by
  intro l;induction l with
  |nil=>intro h;cases h
  |cons a l d=>
   intro h;unfold xH at h;rw[ab7] at h
   cases b:([32,9]:ah).contains a with
   |true=>rw[b,if_pos rfl] at h;exact d h
   |false=>
    rw[b,if_neg (by decide)] at h;simp only[U2] at h;rw[←h.1];exact b
 have:=e s h;simpa using this
theorem of_next (s:ah) (out:List (ah)):oP s out [] false false=sel (xI s) (sel (Fz s) ([],8) (oP (sM s) (out++[FC s]) [] false false)) (vv out):=by
 rw[NM];have f:=Gj s;unfold Fz sM FC nd xI
 cases h:xH s with
 |nil=>rfl
 |cons c t=>
  rw[h] at f;simp only[h]
  cases a:c==35 with
  |true=>
   rw[ig] at a;subst a;rfl
  |false=>
   obtain⟨b,e⟩:=IZ h;have d:oP (c::t) out [] false false=oP (c::t) out [] true false:=by
    show sel false _ (sel (c==35) _ (sel (c==9) _ (sel (c==32) _ (sel (c==34) _ _))))=sel false _ (sel (c==35) _ (sel (c==9) _ (sel (c==32) _ (sel (c==34) _ _))));rw[e,b,a];rfl
   rw[d];exact Rw ((c::t).length+1) (c::t) [] out (by omega)
theorem K9 (s:ah):(sM s).length≤s.length∧(FC s).length≤s.length∧(xI s=true→Fz s=false→(sM s).length<s.length):=by
 have b:=Gj s;have i:=BN ((xH s).length+1) (xH s) [] (by omega);refine⟨?_,?_,?_⟩
 ·unfold sM nd
  cases xI s
  ·exact b
  ·show(tq ((xH s).length+1) (xH s) []).2.2.length≤_;omega
 ·unfold FC nd
  cases xI s
  ·exact D9 _
  ·show(tq ((xH s).length+1) (xH s) []).2.1.length≤_
   have:=i.2;simp only[nN,MG] at this;omega
 ·intro a m
  unfold sM nd;rw[a];show(tq ((xH s).length+1) (xH s) []).2.2.length<_;unfold xI at a
  cases h:xH s with
  |nil=>rw[h] at a;cases a
  |cons c t=>
   rw[h] at a b;have d:(c==35)=false:=by simpa using a
   obtain⟨e,g⟩:=IZ h;have b:t.length<s.length:=by simp at b;omega
   have j:Ea c=false:=by unfold Ea;rw[g,e,d];rfl
   show(sel (Ea c) (false,[],c::t) (sel (c==34) (sel (t.contains 34) (tq (t.length+1) (behind t) ([]++upTo t)) (true,[],t)) (tq (t.length+1) t ([]++[c])))).2.2.length<_;rw[j]
   cases l:c==34 with
   |false=>show(tq (t.length+1) t ([]++[c])).2.2.length<_;have:=(BN (t.length+1) t ([]++[c]) (by omega)).1;omega
   |true=>
    cases f:t.contains 34 with
    |false=>show t.length<_;exact b
    |true=>
     show(tq (t.length+1) (behind t) ([]++upTo t)).2.2.length<_;have k:=(nD t f).1;have:=(BN (t.length+1) (behind t) ([]++upTo t) (by omega)).1;omega
end Nt.Fld
namespace Nt.Ev.YtcmockbdkppglaaGreatDoor
open Go Nt.Num Go.Proofs.YtcmockbdkppglaaGreatDoor
def kU (l:ah):Bool:=l.all fun c=>decide (c.toNat<128)
noncomputable def hE:Env:=⟨Go.Proofs.Tryz.prog,fun _=>none⟩
def vD (s:ah) (c:Int):Int:=Go.Lib.indexByte s c.toNat.toUInt8
noncomputable def Sc:aN:=fun a=>match a with|[.str s,.int .i32 r]=>some (au (aD 0 r) (aU r 128),.int .i64 (vD s r))|_=>none
noncomputable def hS0:List (Nat×aN):=(107,Sc)::[]
noncomputable def jD:=fun F d n a h f b i e g c K=>(eB hE hS0 F 3 52 [1,1,1,0,1,0] d K n (iN 77 [(0,V.str a),(2,V.sl 9 [Kd.str] (some 2) h),(3,V.int .i64 f),(4,V.sl 9 [Kd.str] (some 4) b),(5,V.str i),(6,V.bool e),(7,V.bool g),(8,V.int .i64 c)] []):Option V)
theorem Qh (F s) (K:V→Option V):
 dn hE (cu hE hS0 F 3) F 52 [V.str s] K=
 jD F [] F s [] 0 [] [] false false 0 K:=by kernel_rfl
theorem oJ (F n a f e b d h g c K):
 jD F [] (n+1) a f e b d h g c K=
 let B:=aV .i64 c 1;let I:=sat a c;let L:=bS b [V.str d];let N:=aU c (aF a);let Q:=[Kd.str];let R:=ieq c (aF a);let C:=au (aD 0 c) N;let E:=au (au (aD 0 B) (aD B (aF a))) (au (aD 0 c) (aD c B));let G:=jD F [] n a f e L [] false g B K;let H:=V.sl 9 Q (some 0) [];let J:=jD F [] n a f e b [] false g B K;let M:=bW a c B;let P:=ieq I 35;let O:=K (V.tup [H,V.int .i64 6]);let D:=sel (aU 16 (aM b)) O (K (V.tup [V.sl 9 Q (some 0) b,V.int .i64 0]));let A:=sel h (sel (dU b [V.str d]) (sel N (sel C (sel P (sel (aU 16 (aM L)) O (K (V.tup [V.sl 9 Q (some 0) L,V.int .i64 0]))) G) none) G) none) (sel N (sel C (sel P D J) none) J);sel (aD c (aF a)) (sel g (sel R (K (V.tup [H,V.int .i64 8])) (sel C (sel (ieq I 34) (jD F [] n a f e b d h false B K) (sel E (sel (bC d M) (jD F [] n a f e b (bg d M) h g B K) none) none)) none)) (sel R A (sel C (sel P A (sel C (sel (ieq I 9) A (sel (ieq I 32) A (sel C (sel (ieq I 34) (jD F [] n a f e b d true true B K) (sel E (sel (bC d M) (jD F [] n a f e b (bg d M) true g B K) none) none)) none))) none)) none))) D:=by kernel_rfl
open Go.RowKit Nt Nt.Fld
theorem MZ:qy hE:=⟨by kernel_rfl,by kernel_rfl⟩
theorem Rx {s:ah} (h:aD (aF s) 4000000=true):s.length≤4000000:=by rw[ak,av] at h;omega
theorem XV (l:ah):(⟨l.toArray⟩:ByteArray).size=l.length:=by simp[ByteArray.size]
theorem Qi (s:ah) (r:Int) (a:au (aD 0 r) (aU r 128)=true):aj hE 107 [.str s,.int .i32 r] (.int .i64 (vD s r)):=by
 rw[ay,ak,aQ] at a;refine eO fun G w vs f d c=>?_
 obtain⟨x,y,rfl,hx,b⟩:=pX c;unfold aK at hx b;subst hx;subst b;refine(Go.Proofs.Tryz.strings_IndexRune_ascii ⟨s.toArray⟩ r w a.1 a.2).mono ?_;rintro e w' ⟨rfl,rfl⟩;exact⟨_,rfl,Below.refl _ _,Aw _ _⟩
theorem Zm:bT hE hS0:=by
 unfold hS0;refine bT.cons (fun args r h=>?_) bT.nil;all_goals (revert h;intro h;first|unfold Sc at h)
 all_goals (split at h;rotate_left; · cases h)
 all_goals (simp only[aI,bU] at h;obtain⟨a,rfl⟩:=h)
 ·exact Qi _ _ a
theorem Wp (b c:UInt8) (l:ah):Lib.indexByte (b::l) c=if b==c then 0 else if Lib.indexByte l c== -1 then -1 else Lib.indexByte l c+1:=rfl
theorem Vd (c:UInt8) (n:Nat) (d:UInt8) (h:d.toNat=n):ieq ((c.toNat:Nat):Int) (n:Int)=(c==d):=by
 rw[D8,lW,ig,←UInt8.toNat_inj,h];omega
def dx (l:List (ah)):af:=l.map V.str
theorem yJ (l:List (ah)) (x:ah):bS (dx l) [V.str x]=dx (l++[x]):=by unfold bS dx;simp
def ofV (p:List (ah)×Int):V:=.tup [.sl 9 [.str] (some 0) (dx p.1),.int .i64 p.2]
theorem Sd (out:List (ah)):sel (aU 16 (aM (dx out))) (some (V.tup [V.sl 9 [Kd.str] (some 0) [],V.int .i64 6])) (some (V.tup [V.sl 9 [Kd.str] (some 0) (dx out),V.int .i64 0]))=some (ofV (vv out)):=by
 have e:aM (dx out)=(out.length:Int):=by unfold dx;rw[aO,xC]
 unfold vv;rw[e];by_cases h:16<out.length
 ·rw[ai (aY (by omega)),if_pos h];rfl
 ·rw[aB (aW (by omega)),if_neg h];rfl
theorem selS {α:Type} (x y:α):sel true x y=x∧sel false x y=y:=⟨rfl,rfl⟩
theorem Wq (F:Nat) (s:ah) (A:af) (z:Int) (hl:s.length≤4000000): ∀(j i n:Nat) (out:List (ah)) (f:ah) (a b:Bool),i+j=s.length→j+1<n→out.length≤i→f.length≤i→
  jD F [] n s A z (dx out) f a b (i:Int) some=some (ofV (oP (s.drop i) out f a b)):=by
 intro j;induction j with
 |zero=>
  intro i n out f a b K L H G;obtain⟨n,rfl⟩: ∃m,n=m+1:=⟨n-1,by omega⟩
  obtain⟨n,rfl⟩: ∃m,n=m+1:=⟨n-1,by omega⟩
  have k:aD (i:Int) (aF s)=true:=cO (by rw[av];omega);have x:ieq (i:Int) (aF s)=true:=dN (by rw[av];omega);have o:aU (i:Int) (aF s)=false:=aW (by rw[av];omega);have y:dU (dx out) [V.str f]=true:=by unfold dU dx;rw[vM];simp;omega
  have u:aV .i64 (i:Int) 1=((i+1:Nat):Int):=by rw[aZ (by omega)];omega
  have J:aD ((i+1:Nat):Int) (aF s)=false:=tL (by rw[av];omega);have c: ∀(l:af) (g:ah) (p q:Bool),jD F [] (n+1) s A z l g p q ((i+1:Nat):Int) some=sel (aU 16 (aM l)) (some (V.tup [V.sl 9 [Kd.str] (some 0) [],V.int .i64 6])) (some (V.tup [V.sl 9 [Kd.str] (some 0) l,V.int .i64 0])):=fun l g p q=>by
   (rw[oJ];(conv=>zeta);rw[aB J])
  (rw[oJ];(conv=>zeta);rw[ai k,x,o,y,u,yJ,QI (by omega)])
  show _=some (ofV (sel b ([],8) (vv (qA a out f))))
  cases b<;>cases a<;>simp only[selS,c,Sd]<;>rfl
 |succ j h=>
  intro i n out f a b K L H G;obtain⟨n,rfl⟩: ∃m,n=m+1:=⟨n-1,by omega⟩
  have d:i<s.length:=by omega
  have e:sat s (i:Int)=((s[i].toNat:Nat):Int):=by
   rw[lX,sV,gP d];rfl
  have k:aD (i:Int) (aF s)=true:=cO (by rw[av];omega);have x:ieq (i:Int) (aF s)=false:=bD (by rw[av];omega);have o:aU (i:Int) (aF s)=true:=aY (by rw[av];omega);have y:dU (dx out) [V.str f]=true:=by unfold dU dx;rw[vM];simp;omega
  have u:aV .i64 (i:Int) 1=((i+1:Nat):Int):=by rw[aZ (by omega)];omega
  have C:au (aD 0 (i:Int)) true=true:=by rw[cO (by omega)];rfl
  have B:au (au (aD 0 ((i+1:Nat):Int)) (aD ((i+1:Nat):Int) (aF s))) (au (aD 0 (i:Int)) (aD (i:Int) ((i+1:Nat):Int)))=true:=by
   rw[cO (show(0:Int)≤((i+1:Nat):Int) by omega),cO (show((i+1:Nat):Int)≤aF s by rw[av];omega),cO (show(0:Int)≤(i:Int) by omega),cO (show(i:Int)≤((i+1:Nat):Int) by omega)];rfl
  have E:bW s (i:Int) ((i+1:Nat):Int)=[s[i]]:=by
   unfold bW;rw[Dq,Dq,Zz d,show i+1-i=1 by omega];rfl
  have t:bC f [s[i]]=true:=by rw[jO];simp;omega
  have r:ieq ((s[i].toNat:Nat):Int) 34=(s[i]==34):=Vd _ 34 34 rfl;have D:ieq ((s[i].toNat:Nat):Int) 9=(s[i]==9):=Vd _ 9 9 rfl;have w:ieq ((s[i].toNat:Nat):Int) 32=(s[i]==32):=Vd _ 32 32 rfl;have v:ieq ((s[i].toNat:Nat):Int) 35=(s[i]==35):=Vd _ 35 35 rfl;have M:=fun p q=>h (i+1) n out f p q (by omega) (by omega) (by omega) (by omega)
  have i2:=fun p q=>h (i+1) n out (f++[s[i]]) p q (by omega) (by omega) (by omega) (by simp;omega)
  have i3:=fun p q=>h (i+1) n (out++[f]) [] p q (by omega) (by omega) (by simp;omega) (by simp)
  have I:=fun p q=>h (i+1) n out [] p q (by omega) (by omega) (by omega) (by simp)
  (rw[oJ];(conv=>zeta);rw[ai k,x,o,y,u,C,B,E,t,e,r,D,w,v,yJ,Zz d])
  show _=some (ofV (sel b (sel (s[i]==34) (oP (s.drop (i+1)) out f a false) (oP (s.drop (i+1)) out (f++[s[i]]) a true))
   (sel (s[i]==35) (vv (qA a out f)) (sel (s[i]==9) (oP (s.drop (i+1)) (qA a out f) [] false false) (sel (s[i]==32) (oP (s.drop (i+1)) (qA a out f) [] false false)
    (sel (s[i]==34) (oP (s.drop (i+1)) out f true true) (oP (s.drop (i+1)) out (f++[s[i]]) true false)))))))
  unfold bg
  cases b<;>cases a<;>(simp only[M,i2,i3,I,Sd];cases s[i]==34<;>cases s[i]==35<;>cases s[i]==9<;>cases s[i]==32<;>rfl)
theorem T4 (s:ah) (hl:s.length≤4000000):aj hE 52 [.str s] (ofV (Ks s)):=by
 refine ax MZ Zm (s.length+2) 3 ?_;rw[Qh];exact Wq _ s [] 0 hl s.length 0 (s.length+2) [] [] false false (by omega) (by omega) (by simp) (by simp)
def tlT (s c:ah):ah:=s.dropWhile fun b=>c.contains b
def ZU (s:ah) (r:Int):Int:=if r<128 then vD s r else -1
noncomputable def hByS:aN:=fun a=>match a with|[.str s,.int .u8 c]=>some (true,.int .i64 (vD s c))|_=>none
noncomputable def hTlS:aN:=fun a=>match a with|[.str s,.str c]=>some (au (aD (aF c) 1000) (kU c),.str (tlT s c))|_=>none
noncomputable def hRnS:aN:=fun a=>match a with|[.str s,.int .i32 r]=>some (au (aD 0 r) (au (kU s) (aD (aF s) 1000)),.int .i64 (ZU s r))|_=>none
noncomputable def hS2:List (Nat×aN):=(68,hByS)::(91,hTlS)::(107,hRnS)::[]
theorem Ws (s:ah) (c:Int) (g:true=true):aj hE 68 [.str s,.int .u8 c] (.int .i64 (vD s c)):=by
 refine eO fun G w vs f d b=>?_
 obtain⟨x,y,rfl,hx,a⟩:=pX b;unfold aK at hx a;subst hx;subst a;refine(Go.Proofs.Tryz.strings_IndexByte ⟨s.toArray⟩ c w).mono ?_;rintro e w' ⟨rfl,rfl⟩;exact⟨_,rfl,Below.refl _ _,Aw _ _⟩
theorem Wt (s c:ah) (i:au (aD (aF c) 1000) (kU c)=true):aj hE 91 [.str s,.str c] (.str (tlT s c)):=by
 obtain⟨h,g⟩:=aS i;rw[ak,av] at h;refine eO fun G w vs l k f=>?_
 obtain⟨x,y,rfl,hx,d⟩:=pX f;unfold aK at hx d;subst hx;subst d;refine(Go.Proofs.Any.strings_TrimLeft_laid Go.Proofs.Tryz.VW (by kernel_rfl) ⟨s.toArray⟩ ⟨c.toArray⟩ w (by rw[XV];omega) (fun j b a=>?_)).mono ?_
 ·have h3:(c.all fun c=>decide (c.toNat<128))=true:=g
  exact D7 (List.all_eq_true.1 h3 b (Dp a))
 ·rintro e w' ⟨rfl,a⟩
  exact⟨_,rfl,a,Ny _⟩
theorem Wu (s:ah) (r:Int) (k:au (aD 0 r) (au (kU s) (aD (aF s) 1000))=true):aj hE 107 [.str s,.int .i32 r] (.int .i64 (ZU s r)):=by
 obtain⟨i,a⟩:=aS k;obtain⟨a,h⟩:=aS a;rw[ak] at i h;rw[av] at h;refine eO fun G w vs m l j=>?_
 obtain⟨x,y,rfl,hx,g⟩:=pX j;unfold aK at hx g;subst hx;subst g;unfold ZU;by_cases d:r<128
 ·rw[if_pos d]
  refine(Go.Proofs.Tryz.strings_IndexRune_ascii ⟨s.toArray⟩ r w i d).mono ?_;rintro e w' ⟨rfl,rfl⟩;exact⟨_,rfl,Below.refl _ _,Aw _ _⟩
 ·rw[if_neg d]
  refine(Nt.AnyS.Ag Go.Proofs.Tryz.NB ⟨s.toArray⟩ r w (by omega) (fun b f=>?_) (by rw[XV];omega)).mono ?_
  ·have h3:(s.all fun c=>decide (c.toNat<128))=true:=a
   exact D7 (List.all_eq_true.1 h3 b f)
  ·rintro e w' ⟨rfl,f⟩
   exact⟨_,rfl,f,Aw _ _⟩
theorem Zn:bT hE hS2:=by
 unfold hS2;refine bT.cons (fun args r h=>?_) (bT.cons (fun args r h=>?_) (bT.cons (fun args r h=>?_) bT.nil));all_goals (revert h;intro h;first|unfold hByS at h|unfold hTlS at h|unfold hRnS at h)
 all_goals (split at h;rotate_left; · cases h)
 all_goals (simp only[aI,bU] at h;obtain⟨a,rfl⟩:=h)
 ·exact Ws _ _ rfl
 ·exact Wt _ _ a
 ·exact Wu _ _ a
noncomputable def OC:V→Bool| .nilp=>true| .box k off=>k==HL&&off==0|_=>false
noncomputable def Ry:V→Bool| .nilsl=>true| .sl e sh (some L) xs=>e==5&&Kd.Ba [.int .u8] sh&&L==1000001002|_=>false
noncomputable def bufS:V→ah| .sl _ _ _ xs=>fD xs|_=>[]
noncomputable def bufN:V→V| .sl e sh _ xs=> .sl e sh none xs|v=>v
noncomputable def hCpS:aN:=fun a=>match a with|[.bxa 0 [x,b]]=>some (OC x,.out false (.tup []) [[.box HL 0,b]])|_=>none
noncomputable def hStS:aN:=fun a=>match a with|[.bxa 0 [x,b]]=>some (au (OC x) (Ry b),.out false (.str (bufS b)) [[x,bufN b]])|_=>none
noncomputable def Yn:List (Nat×aN):=(GX+37,hCpS)::(GX+23,hStS)::hS2
noncomputable def wH:=fun F b n c a K=>(F7 hE Yn F 3 73 [V.bxa 0 []] [1,1,1,1,0,0] b K n (iN 71 [(0,V.box 1000000000 0),(2,V.str []),(3,V.bool c),(4,V.box 4 0)] [(4,[V.nilp,V.nilsl]),(1000000000,[V.str a])]):Option V)
noncomputable def jE:=fun F c n d b a K=>(F7 hE Yn F 3 73 [V.bxa 0 []] [1,1,1,1,0,0] c K n (iN 71 [(0,V.box 1000000000 0),(2,V.str []),(3,V.bool d),(4,V.box 4 0)] [(4,[V.box 4 0,V.sl 5 [Kd.int .u8] (some 50001) b]),(1000000000,[V.str a])]):Option V)
theorem Qj (F s) (K:V→Option V):
 dn hE (cu hE Yn F 3) F 73 [V.bxa 0 [V.str s]] K=
 let B:=tlT s [32,9];let A:=K (V.out false (V.tup [V.str [],V.bool false]) [[V.str B]]);sel (au (aD (aF [32,9]) 1000) (kU [32,9])) (sel (seq B []) A (sel (au (aD 0 0) (aU 0 (aF B))) (sel (ieq (sat B 0) 35) A (wH F [] F false B K)) none)) none:=by kernel_rfl
theorem tZ (F n b a K):
 wH F [] (n+1) b a K=
 let B:=K (V.out false (V.tup [V.str [],V.bool true]) [[V.str a]]);let D:=sat a 0;let G:=aF a;let A:=bW a 1 G;let C:=au (aD 0 0) (aU 0 G);let E:=vD A 34;let H:=aV .i64 E 1;let I:=aH (bW A 0 E);sel (aT (seq a [])) (sel C (sel (aT (ieq D 35)) (sel C (sel (au (aD 0 (gu .i32 D)) (au (kU [32,9]) (aD (aF [32,9]) 1000))) (sel (aT (aD 0 (ZU [32,9] (gu .i32 D)))) (sel C (sel (au (aD 0 1) (aD 1 G)) (sel (ieq D 34) (sel (aU E 0) (K (V.out true (V.iface 112 (V.agg [V.int .i64 8])) [[V.str A]])) (sel (au (aD 0 E) (aD E (aF A))) (sel (au (aD 0 H) (aD H (aF A))) (sel (qz I) (jE F [] n b I (bW A H (aF A)) K) none) none) none)) (jE F [] n b [V.int .u8 D] A K)) none) none) B) none) none) B) none) B:=by kernel_rfl
theorem uf (F n c b a K):
 jE F [] (n+1) c b a K=
 let B:=K (V.out false (V.tup [V.str (fD b),V.bool true]) [[V.str a]]);let C:=sat a 0;let G:=aF a;let A:=bW a 1 G;let D:=au (aD 0 0) (aU 0 G);let E:=vD A 34;let H:=aV .i64 E 1;let I:=aH (bW A 0 E);sel (aT (seq a [])) (sel D (sel (aT (ieq C 35)) (sel D (sel (au (aD 0 (gu .i32 C)) (au (kU [32,9]) (aD (aF [32,9]) 1000))) (sel (aT (aD 0 (ZU [32,9] (gu .i32 C)))) (sel D (sel (au (aD 0 1) (aD 1 G)) (sel (ieq C 34) (sel (aU E 0) (K (V.out true (V.iface 112 (V.agg [V.int .i64 8])) [[V.str A]])) (sel (au (aD 0 E) (aD E (aF A))) (sel (au (aD 0 H) (aD H (aF A))) (sel (dU b I) (jE F [] n c (bS b I) (bW A H (aF A)) K) none) none) none)) (sel (dU b [V.int .u8 C]) (jE F [] n c (bS b [V.int .u8 C]) A K) none)) none) none) B) none) none) B) none) B:=by kernel_rfl
theorem I1 {x:V} (h:OC x=true):x=.nilp∨x=.box HL 0:=by
 unfold OC at h;split at h
 ·exact .inl rfl
 ·rename_i k off
  rw[bL,ig,ig] at h;rw[h.1,h.2];exact .inr rfl
 ·cases h
theorem Wv (x b:V) (a:OC x=true):rG hE 37 [.bxa 0 [x,b]] (.out false (.tup []) [[.box HL 0,b]]):=
 rG.out (NN rfl x b [] (I1 a))
theorem Ww (x b:V) (d:au (OC x) (Ry b)=true):rG hE 23 [.bxa 0 [x,b]] (.out false (.str (bufS b)) [[x,bufN b]]):=by
 obtain⟨c,a⟩:=aS d;refine rG.out ?_;unfold Ry at a;split at a
 ·exact ug rfl x []
 ·rename_i e sh L xs
  rw[bL,bL,ig,ig] at a;obtain⟨⟨rfl,h3⟩,rfl⟩:=a;have h3:=Kd.fT _ _ h3;subst h3;exact E9 rfl x [] (by rcases I1 c with rfl|rfl<;>rfl) rfl xs
 ·cases a
theorem La:bT hE Yn:=by
 unfold Yn;refine bT.Bn (fun args r h=>?_) (bT.Bn (fun args r h=>?_) Zn);all_goals (revert h;intro h;first|unfold hCpS at h|unfold hStS at h)
 all_goals (split at h;rotate_left; · cases h)
 all_goals (simp only[aI,bU] at h;obtain⟨a,rfl⟩:=h)
 ·exact Wv _ _ a
 ·exact Ww _ _ a
theorem Zo (l:ah) (c:UInt8):bS (aH l) [V.int .u8 (c.toNat:Int)]=aH (l++[c]):=by unfold bS aH;simp
theorem Se (l:ah):fD (aH l)=l:=by
 unfold fD aH;rw[UL];exact(U0 fun c _=>by show UInt8.ofNat ((c.toNat:Int)).toNat=c;simp).trans (acZ l)
theorem Gl: ∀(t:ah),Lib.indexByte t 34=if t.contains 34=true then((upTo t).length:Int) else -1
 |[]=>rfl
 |b::l=>by
  rw[Wp,Gl l]
  cases a:b==34 with
  |true=>
   rw[ig] at a;subst a;rfl
  |false=>
   have d:(b::l).contains 34=l.contains 34:=by
    rw[QJ];have:((34:UInt8)==b)=false:=by rw[qD] at a⊢;exact fun e=>a e.symm
    rw[this,ZJ]
   have c:upTo (b::l)=b::upTo l:=by unfold upTo;rw[ZC,if_pos (by simpa using a)]
   rw[d,c,if_neg (by decide)]
   cases f:l.contains 34 with
   |true=>
    rw[if_pos rfl,if_pos rfl];have: ¬((((upTo l).length:Int)== -1)=true):=by rw[ig];omega
    rw[if_neg this];simp
   |false=>rfl
theorem Fa (t:ah):t.take (upTo t).length=upTo t:=by
 unfold upTo;have: ∀l:ah,l.take (l.takeWhile fun c=>c != 34).length=l.takeWhile fun c=>c != 34:=by
  intro l;induction l with
  |nil=>rfl
  |cons a l b=>
   rw[ZC];split
   ·rw[fQ,acw,b]
   ·rfl
 exact this t
theorem I4 (c:UInt8):aD 0 (ZU [32,9] (gu .i32 ((c.toNat:Nat):Int)))=(c==9||c==32):=by
 obtain⟨⟨m⟩⟩:=c;revert m;decide+kernel
theorem NP (c:UInt8):aD 0 (gu .i32 ((c.toNat:Nat):Int))=true:=by
 obtain⟨⟨m⟩⟩:=c;revert m;decide+kernel
def vF (p:Bool×ah×ah):V:=sel p.1 (V.out true (V.iface 112 (V.agg [V.int .i64 8])) [[V.str p.2.2]]) (V.out false (V.tup [V.str p.2.1,V.bool true]) [[V.str p.2.2]])
theorem tfN {α:Type} (x y:α):sel true x y=x∧sel false x y=y:=⟨rfl,rfl⟩
theorem AB (F:Nat): ∀(n:Nat) (s f:ah),s.length<n→s.length+f.length≤9000000→jE F [] n false (aH f) s some=some (vF (tq n s f))
 |0,s,f,h,_=>by omega
 |n+1,[],f,h,hl=>by
  (rw[uf];(conv=>zeta);rw[Se]);rfl
 |n+1,c::t,f,h,hl=>by
  have h:t.length<n:=by simpa using h
  have u:t.length+f.length+1≤9000000:=by simp at hl;omega
  have k:aT (seq (c::t) [])=true:=rfl;have y:au (aD 0 0) (aU 0 (aF (c::t)))=true:=by rw[ay,ak,aQ,av];simp
  have v:sat (c::t) 0=((c.toNat:Nat):Int):=rfl;have B:au (kU [32,9]) (aD (aF [32,9]) 1000)=true:=rfl;have w:au (aD 0 1) (aD 1 (aF (c::t)))=true:=by rw[ay,ak,ak,av];simp;omega
  have x:bW (c::t) 1 (aF (c::t))=t:=by
   unfold bW;rw[av];have:((((c::t).length:Nat):Int).toNat-(1:Int).toNat)=t.length:=by simp
   rw[this];exact Hw (iI _)
  have e:ieq ((c.toNat:Nat):Int) 34=(c==34):=Vd _ 34 34 rfl;have g:ieq ((c.toNat:Nat):Int) 35=(c==35):=Vd _ 35 35 rfl;have z:au (aD 0 (gu .i32 ((c.toNat:Nat):Int))) true=true:=by rw[NP];rfl
  have l:dU (aH f) [V.int .u8 ((c.toNat:Nat):Int)]=true:=by rw[dm];unfold aH;simp;omega
  (rw[uf];(conv=>zeta))
  simp only[k,y,v,B,w,x,e,g,z,l,I4,Se,Zo,tfN];unfold tq
  cases a:c==35 with
  |true=>
   have b:Ea c=true:=by unfold Ea;rw[a];simp
   rw[b];rfl
  |false=>
   cases j:(c==9||c==32) with
   |true=>
    have b:Ea c=true:=by unfold Ea;rw[j,a];rfl
    rw[b];rfl
   |false=>
    have b:Ea c=false:=by unfold Ea;rw[j,a];rfl
    rw[b]
    cases G:c==34 with
    |false=>
     show jE F [] n false (aH (f++[c])) t some=_;rw[AB F n t (f++[c]) h (by simp;omega)];rfl
    |true=>
     have d:vD t 34=if t.contains 34=true then((upTo t).length:Int) else -1:=Gl t
     cases i:t.contains 34 with
     |false=>
      rw[i,if_neg (by decide)] at d;rw[d];rfl
     |true=>
      rw[i,if_pos rfl] at d;obtain⟨E,H⟩:=nD t i;have o:aU ((upTo t).length:Int) 0=false:=aW (by omega);have C:au (aD 0 ((upTo t).length:Int)) (aD ((upTo t).length:Int) (aF t))=true:=by rw[ay,ak,ak,av];omega
      have p:aV .i64 ((upTo t).length:Int) 1=(((upTo t).length+1:Nat):Int):=by rw[aZ (by omega)];omega
      have r:au (aD 0 (((upTo t).length+1:Nat):Int)) (aD (((upTo t).length+1:Nat):Int) (aF t))=true:=by rw[ay,ak,ak,av];omega
      have m:bW t 0 ((upTo t).length:Int)=upTo t:=by
       unfold bW;simp only[Dq,Int.toNat_zero,Ko,U4];exact Fa t
      have q:bW t (((upTo t).length+1:Nat):Int) (aF t)=behind t:=by
       unfold bW behind;rw[av,Dq,Dq];exact Hw (by simp)
      have D:dU (aH f) (aH (upTo t))=true:=by rw[dm];unfold aH;simp;omega
      have A:bS (aH f) (aH (upTo t))=aH (f++upTo t):=by unfold bS aH;simp
      simp only[d,o,C,p,r,m,q,D,A];show jE F [] n false (aH (f++upTo t)) (behind t) some=_;rw[AB F n (behind t) (f++upTo t) (by omega) (by simp;omega)];rfl
theorem T6 (F n:Nat) (s:ah) (h:s.length<n+1) (hl:s.length≤9000000):wH F [] (n+1) false s some=some (vF (tq (n+1) s [])):=by
 cases s with
 |nil=>(rw[tZ];(conv=>zeta));rfl
 |cons c t=>
  have h:t.length<n:=by simpa using h
  have q:t.length+1≤9000000:=by simpa using hl
  have j:aT (seq (c::t) [])=true:=rfl;have w:au (aD 0 0) (aU 0 (aF (c::t)))=true:=by rw[ay,ak,aQ,av];simp
  have r:sat (c::t) 0=((c.toNat:Nat):Int):=rfl;have y:au (kU [32,9]) (aD (aF [32,9]) 1000)=true:=rfl;have u:au (aD 0 1) (aD 1 (aF (c::t)))=true:=by rw[ay,ak,ak,av];simp;omega
  have v:bW (c::t) 1 (aF (c::t))=t:=by
   unfold bW;rw[av];have:((((c::t).length:Nat):Int).toNat-(1:Int).toNat)=t.length:=by simp
   rw[this];exact Hw (iI _)
  have e:ieq ((c.toNat:Nat):Int) 34=(c==34):=Vd _ 34 34 rfl;have f:ieq ((c.toNat:Nat):Int) 35=(c==35):=Vd _ 35 35 rfl;have x:au (aD 0 (gu .i32 ((c.toNat:Nat):Int))) true=true:=by rw[NP];rfl
  (rw[tZ];(conv=>zeta))
  simp only[j,w,r,y,u,v,e,f,x,I4,tfN];unfold tq
  cases a:c==35 with
  |true=>
   have b:Ea c=true:=by unfold Ea;rw[a];simp
   rw[b];rfl
  |false=>
   cases i:(c==9||c==32) with
   |true=>
    have b:Ea c=true:=by unfold Ea;rw[i,a];rfl
    rw[b];rfl
   |false=>
    have b:Ea c=false:=by unfold Ea;rw[i,a];rfl
    rw[b]
    cases C:c==34 with
    |false=>
     show jE F [] n false (aH [c]) t some=_;rw[AB F n t [c] h (by simp;omega)];rfl
    |true=>
     have d:vD t 34=if t.contains 34=true then((upTo t).length:Int) else -1:=Gl t
     cases g:t.contains 34 with
     |false=>
      rw[g,if_neg (by decide)] at d;rw[d];rfl
     |true=>
      rw[g,if_pos rfl] at d;obtain⟨B,D⟩:=nD t g;have l:aU ((upTo t).length:Int) 0=false:=aW (by omega);have z:au (aD 0 ((upTo t).length:Int)) (aD ((upTo t).length:Int) (aF t))=true:=by rw[ay,ak,ak,av];omega
      have m:aV .i64 ((upTo t).length:Int) 1=(((upTo t).length+1:Nat):Int):=by rw[aZ (by omega)];omega
      have p:au (aD 0 (((upTo t).length+1:Nat):Int)) (aD (((upTo t).length+1:Nat):Int) (aF t))=true:=by rw[ay,ak,ak,av];omega
      have k:bW t 0 ((upTo t).length:Int)=upTo t:=by
       unfold bW;simp only[Dq,Int.toNat_zero,Ko,U4];exact Fa t
      have o:bW t (((upTo t).length+1:Nat):Int) (aF t)=behind t:=by
       unfold bW behind;rw[av,Dq,Dq];exact Hw (by simp)
      have A:qz (aH (upTo t))=true:=by unfold qz aH;rw[vM];simp;omega
      simp only[d,l,z,m,p,k,o,A];show jE F [] n false (aH (upTo t)) (behind t) some=_;rw[AB F n (behind t) (upTo t) (by omega) (by omega)];rfl
theorem Wx (s:ah) (k:aD (aF s) 4000000=true):rG hE 73 [.bxa 0 [.str s]] (.sK (Fz s) (.out true (.iface 112 (.agg [.int .i64 8])) [[.str (sM s)]]) (.out false (.tup [.str (FC s),.bool (xI s)]) [[.str (sM s)]])):=by
 have hl:=Rx k;have g:=Gj s;have hx:dn hE (cu hE Yn ((xH s).length+1) 3) ((xH s).length+1) 73 [V.bxa 0 [V.str s]] some=some (sel (xI s) (vF (nd s)) (V.out false (V.tup [V.str [],V.bool false]) [[V.str (xH s)]])):=by
  (rw[Qj];(conv=>zeta))
  have i:au (aD (aF [32,9]) 1000) (kU [32,9])=true:=rfl;have e:tlT s [32,9]=xH s:=rfl;rw[i,e];unfold xI nd
  cases h:xH s with
  |nil=>rfl
  |cons c t=>
   rw[h] at g;have d:au (aD 0 0) (aU 0 (aF (c::t)))=true:=by rw[ay,ak,aQ,av];simp
   have f:ieq (sat (c::t) 0) 35=(c==35):=Vd _ 35 35 rfl;have j:wH ((c::t).length+1) [] ((c::t).length+1) false (c::t) some=some (vF (tq ((c::t).length+1) (c::t) [])):=T6 _ _ (c::t) (by omega) (by omega);rw[d,f,j];show sel (c==35) _ (some (vF (tq ((c::t).length+1) (c::t) [])))=some (sel (!(c==35)) (vF (tq ((c::t).length+1) (c::t) [])) _);generalize vF (tq ((c::t).length+1) (c::t) [])=z
   cases c==35<;>rfl
 refine rG.sK (fun a=>rG.out (nA MZ La ((xH s).length+1) 3 ?_)) (fun a=>rG.out (nA MZ La ((xH s).length+1) 3 ?_))
 ·rw[hx]
  unfold Fz at a;rw[bL] at a;unfold sM vF;rw[a.1,a.2];rfl
 ·rw[hx]
  unfold Fz at a;unfold sM FC vF
  cases b:xI s with
  |false=>rfl
  |true=>
   rw[b] at a;have a:(nd s).1=false:=a;rw[a];rfl
def Yu (x:V):ah:=dV (aL x 0)
noncomputable def hNxS:aN:=fun a=>match a with|[.bxa 0 [.str s]]=>some (aD (aF s) 4000000,.sK (Fz s) (.out true (.iface 112 (.agg [.int .i64 8])) [[.str (sM s)]]) (.out false (.tup [.str (FC s),.bool (xI s)]) [[.str (sM s)]]))|_=>none
noncomputable def hS4:List (Nat×aN):=(GX+73,hNxS)::Yn
noncomputable def Lb:=fun F d n c f e b a K=>(Al hE hS4 F 3 48 72 [V.box 1000005000 0,V.box 1000005001 0] [] [1,1,1,0,1,0] d K n (iN 29 [(0,V.str c),(2,V.box 1000005000 0),(3,V.box 1000005001 0),(4,V.box 4 0),(5,V.str f),(6,V.bool e)] [(4,[V.str b]),(1000005001,[V.int .i64 a]),(1000005000,[V.nilsl])]):Option V)
noncomputable def uG:=fun F e n d g f c b a K=>(Al hE hS4 F 3 48 72 [V.box 1000005000 0,V.box 1000005001 0] [] [1,1,1,0,1,0] e K n (iN 29 [(0,V.str d),(2,V.box 1000005000 0),(3,V.box 1000005001 0),(4,V.box 4 0),(5,V.str g),(6,V.bool f)] [(4,[V.str c]),(1000005001,[V.int .i64 b]),(1000005000,[V.sl 9 [Kd.str] (some 50010000) a])]):Option V)
theorem Wy (F s) (K:V→Option V):
 dn hE (cu hE hS4 F 3) F 48 [V.str s] K=
 sel (aD (aF s) 4000000)
 (sel (Fz s)
 (K (V.tup [V.nilsl,V.int .i64 8]))
 (Lb F [] F s (FC s) (xI s) (sM s) 0 K))
 none:=
 by kernel_rfl
theorem Ka (F n c e d b a K):
 Lb F [] (n+1) c e d b a K=
 sel d
 (sel (aD (aF b) 4000000)
 (sel (Fz b)
 (K (V.tup [V.nilsl,V.int .i64 8]))
 (uG F [] n c (FC b) (xI b) (sM b) a [V.str e] K))
 none)
 (K (V.tup [V.nilsl,V.int .i64 0])):=
 by kernel_rfl
theorem Kb (F n e d f c b a K):
 uG F [] (n+1) e d f c b a K=
 sel f
 (sel (dU a [V.str d])
 (sel (aD (aF c) 4000000)
 (sel (Fz c)
 (K (V.tup [V.nilsl,V.int .i64 8]))
 (uG F [] n e (FC c) (xI c) (sM c) b (bS a [V.str d]) K))
 none)
 none)
 (sel (aU 16 (aM a))
 (K (V.tup [V.nilsl,V.int .i64 6]))
 (K (V.tup [V.sl 9 [Kd.str] none a,V.int .i64 0]))):=
 by kernel_rfl
theorem Zp:bT hE hS4:=by
 unfold hS4;refine bT.Bn (fun args r h=>?_) La;all_goals (revert h;intro h;first|unfold hNxS at h)
 all_goals (split at h;rotate_left; · cases h)
 all_goals (simp only[aI,bU] at h;obtain⟨a,rfl⟩:=h)
 ·exact Wx _ a
def nilV (l:af):V:=match l with|[]=> .nilsl|l=> .sl 9 [.str] none l
def OD (p:List (ah)×Int):V:=.tup [nilV (dx p.1),.int .i64 p.2]
theorem Wz (out:List (ah)) (h:out≠[]):sel (aU 16 (aM (dx out))) (some (V.tup [V.nilsl,V.int .i64 6])) (some (V.tup [V.sl 9 [Kd.str] none (dx out),V.int .i64 0]))=some (OD (vv out)):=by
 have e:aM (dx out)=(out.length:Int):=by unfold dx;rw[aO,xC]
 unfold vv;rw[e];by_cases b:16<out.length
 ·rw[aY (by omega),if_pos b];rfl
 ·rw[aW (by omega),if_neg b]
  cases out with
  |nil=>exact absurd rfl h
  |cons a l=>rfl
theorem NQ (F:Nat) (b:ah) (w:Int): ∀(n:Nat) (s f:ah) (m:Bool) (out:List (ah)),s.length≤4000000→out≠[]→(m=true→s.length+1<n)→0<n→(m=true→out.length+s.length≤9000000)→
  uG F [] n b f m s w (dx out) some=some (OD (sel m (oP s (out++[f]) [] false false) (vv out)))
 |0,s,f,m,out,_,_,_,h,_=>by omega
 |n+1,s,f,m,out,hl,i,d,_,c=>by
  rw[Kb]
  cases m with
  |false=>exact Wz out i
  |true=>
   have d:=d rfl;have c:=c rfl;have g:dU (dx out) [V.str f]=true:=by rw[dm];unfold dx;simp;omega
   have j:aD (aF s) 4000000=true:=cO (by rw[av];omega);obtain⟨l,o,e⟩:=K9 s;rw[g,j,yJ];show sel (Fz s) (some (V.tup [V.nilsl,V.int .i64 8])) (uG F [] n b (FC s) (xI s) (sM s) w (dx (out++[f])) some)=some (OD (oP s (out++[f]) [] false false));rw[of_next]
   cases hB:Fz s with
   |true=>
    have a:xI s=true:=by unfold Fz at hB;rw[bL] at hB;exact hB.1
    rw[a];rfl
   |false=>
    have k:=NQ F b w n (sM s) (FC s) (xI s) (out++[f]) (by omega) (by simp) (fun a=>by have:=e a hB;omega) (by omega) (fun a=>by have:=e a hB;simp only[qw,fQ,nN];omega);show uG F [] n b (FC s) (xI s) (sM s) w (dx (out++[f])) some=_;rw[k];rfl
theorem Zq (s:ah) (hl:s.length≤4000000):aj hE 48 [.str s] (OD (Ks s)):=by
 refine ax MZ Zp (s.length+5) 3 ?_;rw[Wy];have f:aD (aF s) 4000000=true:=cO (by rw[av];omega);obtain⟨j,k,d⟩:=K9 s;obtain⟨m1,i,e⟩:=K9 (sM s);have g:aD (aF (sM s)) 4000000=true:=cO (by rw[av];omega);rw[f];unfold Ks;rw[of_next];show sel (Fz s) (some (V.tup [V.nilsl,V.int .i64 8])) (Lb (s.length+5) [] (s.length+4+1) s (FC s) (xI s) (sM s) 0 some)=_
 cases hB:Fz s with
 |true=>
  have b:xI s=true:=by unfold Fz at hB;rw[bL] at hB;exact hB.1
  rw[b];rfl
 |false=>
  rw[Ka,g]
  cases b:xI s with
  |false=>rfl
  |true=>
   have d:=d b hB;show sel (Fz (sM s)) (some (V.tup [V.nilsl,V.int .i64 8])) (uG (s.length+5) [] (s.length+4) s (FC (sM s)) (xI (sM s)) (sM (sM s)) 0 (dx [FC s]) some)=some (OD (oP (sM s) [FC s] [] false false));rw[of_next]
   cases a:Fz (sM s) with
   |true=>
    have c:xI (sM s)=true:=by unfold Fz at a;rw[bL] at a;exact a.1
    rw[c];rfl
   |false=>
    rw[NQ (s.length+5) s 0 (s.length+4) (sM (sM s)) (FC (sM s)) (xI (sM s)) [FC s] (by omega) (by simp) (fun h=>by have:=e h a;omega) (by omega) (fun _=>by
     show 1+_≤_;omega)]
    rfl
def qE (s:ah):af:=dx (Ks s).1
def Kt (s:ah):Int:=(Ks s).2
noncomputable def hOfS:aN:=fun a=>match a with|[.str s]=>some (aD (aF s) 4000000,.tup [.sl 9 [.str] none (qE s),.int .i64 (Kt s)])|_=>none
noncomputable def Kr:List (Nat×aN):=(48,hOfS)::(52,hOfS)::hS0
noncomputable def hL:List (Nat×aN):=Kr
theorem WA (s:ah) (a:aD (aF s) 4000000=true):aj hE 48 [.str s] (.tup [.sl 9 [.str] none (qE s),.int .i64 (Kt s)]):=by
 have h:=Zq s (Rx a);unfold OD at h;unfold qE Kt
 cases e:dx (Ks s).1 with
 |nil=>rw[e] at h;exact GZ h
 |cons x l=>rw[e] at h;exact h
theorem oK (s:ah) (a:aD (aF s) 4000000=true):aj hE 52 [.str s] (.tup [.sl 9 [.str] none (qE s),.int .i64 (Kt s)]):=
 DY (o:=some 0) (T4 s (Rx a))
end Nt.Ev.YtcmockbdkppglaaGreatDoor
