/-
  ReadRgt: equations of functions, as the evaluator prints them.
-/
import Derived.Test.YtjcencojgajgdaaGreatDoorMXO
import Derived.Test.YtjcencojgajgdaaGreatDoorMXA
set_option linter.all false
set_option maxRecDepth 100000
namespace Nt.Ev.YtjcencojgajgdaaGreatDoor.Rr
open Go Nt.Num Go.Proofs.YtjcencojgajgdaaGreatDoor
variable [kH]
open Nt.Ev.YtjcencojgajgdaaGreatDoor
open Nt.Civil
open Nt.Fld
open Nt.Ev.YtjcencojgajgdaaGreatDoor.Lk
open Nt.Lin
open Nt
def rgtR (x:V):Bool:=Qj (aF (ai x 0)) (asInt (ai x 1)) (asInt (ai x 2)) (asInt (ai x 3)) (asInt (ai x 4)) (asInt (ai x 5)) (asInt (ai x 6)) (asInt (ai x 7)) (asInt (ai x 8)) (asInt (ai x 9)) (aF (ai x 10))
def KG (x:V):Bool:=G8 (asInt (ai x 0)) (asInt (ai x 1)) (asInt (ai x 2)) (aF (ai x 3)) (aF (ai x 4)) (asBool (ai x 5)) (asInt (ai x 6)) (asInt (ai x 7)) (asInt (ai x 8)) (asInt (ai x 9)) (asInt (ai x 10)) (asInt (ai x 11)) (asInt (ai x 12))
noncomputable def rgtL (x:V):Bool:=rgB (aF (ai x 0)) (aF (ai x 1))
abbrev AO (x:V):Bool:=asBool (ai x 5)
theorem afp {xs:ah} (h:Qz xs=0):rgtR (Qn xs)=true:=by
 cases hB:G6 xs with
 |false=>exact absurd h (by unfold Qz;rw[hB];exact rdE_ne xs hB)
 |true=>obtain⟨r0,c,e,b,f,k,g,i,j,d,a,rE⟩:=rd_inj xs (rd_yes xs hB);show Qj (Uq xs) (Ur xs) (Us xs) (Ut xs) (Uu xs) (Uv xs) (Uw xs) (Ux xs) (Uy xs) (Uz xs) (zh xs)=true;rw[r0,c,e,b,f,k,g,i,j,d,a];exact(ru_right xs hB).1
theorem M7 {xs:ah} (a:gL xs=true) (h:kT xs=0):KG (qz xs)=true:=(er_right xs a h).1
theorem afq {xs:ah} (h:Ub xs=0):rgtL (UD xs)=true:=by
 show rgB (lrT xs) (lrN xs)=true;unfold rgB lrT lrN;rw[if_pos h,if_pos h];unfold Ub at h;rw[uK,uK];simp only[uK] at h;by_cases b:ay xs<2
 ·rw[if_pos b] at h;cases h
 rw[if_neg b] at h;by_cases c:2<ay xs
 ·rw[if_pos c] at h;cases h
 rw[if_neg c] at h;by_cases a:Ks (dK (aF (ai (aG xs 0) 0))) (dK (aF (ai (aG xs 1) 0)))=0
 case neg=>rw[if_pos a] at h;exact absurd h a
 rw[if_neg (fun e=>e a)] at h;rw[Ji] at a;by_cases d:aF (ai (aG xs 0) 0)=aF (ai (aG xs 1) 0)
 ·rw[if_pos d] at h;cases h
 exact uG ⟨a.1,a.2,d⟩
def nOf (x:V):Int:=asInt (ai x 0)
def Inc (a:ah) (k:Int):Prop:=∀i,i<a.length→(1≤nOf (aG a (i:Int))∧nOf (aG a (i:Int))≤k)∧(0<i→nOf (aG a ((i-1:Nat):Int))<nOf (aG a (i:Int)))
theorem inc_nil (k:Int):Inc [] k:=fun i h=>by cases h
theorem Inc.mono {b:ah} {k m:Int} (h:Inc b k) (c:k≤m):Inc b m:=fun i a=>⟨⟨(h i a).1.1,by have:=(h i a).1.2;omega⟩,(h i a).2⟩
theorem lJ {a b:ah} {i:Nat} (h:i<a.length):aG (a++b) (i:Int)=aG a (i:Int):=by rw[fo,fo,l7,l7,abA h]
theorem j6 (a:ah) (x:V):aG (a++[x]) (a.length:Int)=x:=by rw[fo,l7,aa6 (by omega),WZ];rfl
theorem Inc.snoc {a:ah} {k m v:Int} (h:Inc a k) (g:0≤k) (f:k<v) (c:v≤m):Inc (a++[.int .i64 v]) m:=by
 intro i d;rw[iW,Ec] at d;by_cases e:i<a.length
 ·rw[lJ e]
  refine⟨⟨(h i e).1.1,by have:=(h i e).1.2;omega⟩,fun b=>?_⟩;rw[lJ (by omega)];exact(h i e).2 b
 obtain rfl:i=a.length:=by omega
 rw[j6];refine⟨⟨by show 1≤v;omega,c⟩,fun b=>?_⟩;rw[lJ (by omega)];have:=(h (a.length-1) (by omega)).1.2;show _<v;omega
def ZP (op:Bool) (k:Int) (n:af) (a b:ah):Prop:=
 dK n=0∧a≠[]∧b.length=a.length∧(∀e∈a,KG e=true)∧(∀j,j<a.length→AO (aG a (j:Int))=(decide (j+1<a.length)||op))∧Inc b k
abbrev zV (n:af) (a:ah):V:=.agg [.str n,.sl 51 kE none a]
abbrev wV (a:ah):V:=.sl 3 kI none a
theorem ZP.mono {op:Bool} {k m:Int} {n:af} {a b:ah} (h:ZP op k n a b) (c:k≤m):ZP op m n a b:=
 ⟨h.1,h.2.1,h.2.2.1,h.2.2.2.1,h.2.2.2.2.1,h.2.2.2.2.2.mono c⟩
theorem ZP.one {op:Bool} {k:Int} {n:af} {e:V} (f:dK n=0) (c:KG e=true) (b:AO e=op) (g:1≤k):ZP op k n [e] [.int .i64 k]:=by
 refine⟨f,by simp,rfl,?_,?_,?_⟩
 ·intro x a;rw[Ni] at a;rw[a];exact c
 ·intro j d
  obtain rfl:j=0:=by simpa using d
  show AO e=_;rw[b];rfl
 exact(inc_nil 0).snoc (by omega) (by omega) (by omega)
theorem ZP.more {op:Bool} {k m:Int} {n:af} {b c:ah} {e:V} (h:ZP true k n b c) (g:0≤k) (l:k<m) (p:KG e=true) (f:AO e=op):ZP op m n (b++[e]) (c++[.int .i64 m]):=by
 obtain⟨s,u,i,r,t,o⟩:=h;refine⟨s,by simp,by simp[i],?_,?_,o.snoc g l (by omega)⟩
 ·intro x a
  rcases List.mem_append.1 a with a|a
  ·exact r x a
  rw[Ni] at a;rw[a];exact p
 intro j q;rw[iW,Ec] at q⊢;by_cases d:j<b.length
 ·rw[lJ d,t j d,Bool.or_true,uG (by omega)];rfl
 obtain rfl:j=b.length:=by omega
 rw[j6,f,uP (by omega)];rfl
structure RGood (t:qh) (k:Int):Prop where
 r: ∀x∈t.rs,rgtR x=true
 l: ∀x∈t.ks,rgtL x=true
 wr:Inc t.wr k
 wl:Inc t.wl k
 z:(t.zs=[]∧t.we=[])∨ ∃(zs we:ah) (n:af),t.zs=zs++[zV n t.yz]∧t.we=we++[wV t.ye]∧zs.length=we.length∧ZP (decide (0<t.op)) k n t.yz t.ye∧
  ∀i,i<zs.length→ ∃n es ls,aG zs (i:Int)=zV n es∧aG we (i:Int)=wV ls∧ZP false k n es ls
theorem allS_ofL {s:af} (h:Al s=0):gL (dm s)=true:=by
 refine YV ?_;unfold Al at h;rw[aJ] at h;by_cases e:s.length≤511
 ·exact e
 rw[av (bu (by omega))] at h;cases h
theorem Y5 {xs:ah} (h:gL xs=true):gL (tl1 xs)=true:=Jj h _ _
theorem xM {zs:ah} {x y:V}:oC (zs++[x]) (ay (zs++[x])-1) y=zs++[y]:=by unfold oC;rw[aC,iW,Ec,show((zs.length+1:Nat):Int)-1=(zs.length:Int) from by omega,K7];simp
theorem RGood.step {t:qh} {k:Int} (h:RGood t k) (D:0≤k) (G:0<t.op→t.zs≠[]) {s:af} (N:t.err s=0):RGood (t.step (k+1) s) (k+1):=by
 obtain⟨B,A,g,f,p⟩:=h;obtain⟨J,H,M⟩:=err_0 N;have I:gL (dm s)=true:=allS_ofL H;have C:gL (tl1 (dm s))=true:=Y5 I;have F:gL (tl1 (tl1 (dm s)))=true:=Y5 C;have keep: ∀{op:Int},op=t.op→((t.zs=[]∧t.we=[])∨ ∃(zs we:ah) (n:af),t.zs=zs++[zV n t.yz]∧t.we=we++[wV t.ye]∧zs.length=we.length∧ZP (decide (0<op)) (k+1) n t.yz t.ye∧
   ∀i,i<zs.length→ ∃n q m,aG zs (i:Int)=zV n q∧aG we (i:Int)=wV m∧ZP false (k+1) n q m):=by
  rintro op rfl;rcases p with p|⟨zs,we,n,l,o,v,w,z⟩
  ·exact .inl p
  refine .inr ⟨zs,we,n,l,o,v,w.mono (by omega),fun i u=>?_⟩;obtain⟨n,q,m,a,b,c⟩:=z i u;exact⟨n,q,m,a,b,c.mono (by omega)⟩
 rcases J with j|⟨j,y,r⟩|⟨y,j,r⟩|⟨y,j,r⟩|⟨y,j,r⟩
 ·rw[jf j]
  exact⟨B,A,g.mono (by omega),f.mono (by omega),keep rfl⟩
 ·rw[jf j]
  have L:=(nN r).1;rcases p with⟨p,_⟩|⟨zs,we,n,l,o,v,w,z⟩
  ·exact absurd p (G y)
  refine⟨B,A,g.mono (by omega),f.mono (by omega),.inr ⟨zs,we,n,?_,?_,v,?_,fun i u=>?_⟩⟩
  ·show oF t.zs t.yz (dm s)=zs++[zV n (aX t.yz [qz (dm s)])]
   unfold oF;rw[l,xM];have:aG (zs++[zV n t.yz]) (ay (zs++[zV n t.yz])-1)=zV n t.yz:=by rw[aC,iW,Ec,show((zs.length+1:Nat):Int)-1=(zs.length:Int) from by omega,j6]
   rw[this];rfl
  ·show rD t.we t.ye (k+1)=we++[wV (aX t.ye [.int .i64 (k+1)])]
   unfold rD;rw[o,xM]
  ·show ZP (decide (0<jN (dm s) (k+1))) (k+1) n (aX t.yz [qz (dm s)]) (aX t.ye [.int .i64 (k+1)])
   rw[uG y] at w;refine w.more D (by omega) (M7 I L) ?_;show FF (dm s)=_;unfold jN
   cases FF (dm s) with
   |true=>rw[if_pos rfl,uG (by omega)]
   |false=>rw[if_neg (by decide)];rfl
  obtain⟨n,q,m,a,b,c⟩:=z i u;exact⟨n,q,m,a,b,c.mono (by omega)⟩
 ·rw[jf j]
  refine⟨?_,A,g.snoc D (by omega) (by omega),f.mono (by omega),keep rfl⟩;intro x d;rcases List.mem_append.1 (show x∈t.rs++[Qn (tl1 (dm s))] from d) with d|d
  ·exact B x d
  rw[Ni] at d;rw[d];exact afp (nN r).1
 ·rw[jf j]
  obtain⟨P,O,K,Q⟩:=znEr_0 r;have E:decide (0<t.op)=false:=uP y;refine⟨B,A,g.mono (by omega),f.mono (by omega),.inr ⟨t.zs,t.we,aF (ai (aG (tl1 (dm s)) 0) 0),rfl,rfl,?_,?_,?_⟩⟩
  ·rcases p with⟨a,b⟩|⟨zs,we,n,l,o,v,_⟩
   ·rw[a,b]
   rw[l,o,iW,iW,v];rfl
  ·show ZP (decide (0<jN (tl1 (tl1 (dm s))) (k+1))) (k+1) _ [qz (tl1 (tl1 (dm s)))] [.int .i64 (k+1)]
   refine ZP.one O (M7 F K) ?_ (by omega);show FF (tl1 (tl1 (dm s)))=_;unfold jN
   cases FF (tl1 (tl1 (dm s))) with
   |true=>rw[if_pos rfl,uG (by omega)]
   |false=>rw[if_neg (by decide)];rfl
  intro i u;rcases p with⟨a,b⟩|⟨zs,we,n,l,o,v,w,z⟩
  ·rw[a] at u;cases u
  rw[E] at w;rw[l,iW,Ec] at u;by_cases e:i<zs.length
  ·obtain⟨n,q,m,a,b,c⟩:=z i e
   refine⟨n,q,m,?_,?_,c.mono (by omega)⟩
   ·show aG t.zs _=_;rw[l,lJ e];exact a
   show aG t.we _=_;rw[o,lJ (by omega)];exact b
  obtain rfl:i=zs.length:=by omega
  refine⟨n,t.yz,t.ye,?_,?_,w.mono (by omega)⟩
  ·show aG t.zs _=_;rw[l,j6]
  show aG t.we _=_;rw[o,v,j6]
 rw[jf j];refine⟨B,?_,g.mono (by omega),f.snoc D (by omega) (by omega),keep rfl⟩;intro x d;rcases List.mem_append.1 (show x∈t.ks++[UD (tl1 (dm s))] from d) with d|d
 ·exact A x d
 rw[Ni] at d;rw[d];exact afq (nN r).1
theorem gt {α:Type} (a b:α):sel true a b=a:=rfl
theorem gf {α:Type} (a b:α):sel false a b=b:=rfl
theorem gn:aL true=false:=rfl
theorem gb (a:Bool):beq a a=true:=by cases a<;>rfl
theorem gB (a:Bool):ak true a=a:=rfl
theorem i0:((0:Nat):Int)=0:=rfl
theorem XL {xs:ah} {i:Nat} (h:i<xs.length):ak (ax 0 (i:Int)) (aR (i:Int) (ay xs))=true:=by rw[aM,aA,bq,aC];omega
theorem lX {i:Nat} (h:i<1000000):bg .i64 (i:Int) 1=((i+1:Nat):Int):=by rw[cr (by omega)];omega
section
variable (F:Nat) (s:af) (L rs zs ks wr we wl:ah) (l e:Int) (K:V→Option V)
end
end Nt.Ev.YtjcencojgajgdaaGreatDoor.Rr
