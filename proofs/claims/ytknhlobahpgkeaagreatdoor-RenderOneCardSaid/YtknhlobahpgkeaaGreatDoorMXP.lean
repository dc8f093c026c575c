/-
  ReadRgt: equations of functions, as the evaluator prints them.
-/
import Derived.Test.YtknhlobahpgkeaaGreatDoorMXO
import Derived.Test.YtknhlobahpgkeaaGreatDoorMXA
set_option linter.all false
set_option maxRecDepth 100000
namespace Nt.Ev.YtknhlobahpgkeaaGreatDoor.Rr
open Go Nt.Num Go.Proofs.YtknhlobahpgkeaaGreatDoor
variable [kM]
open Nt.Ev.YtknhlobahpgkeaaGreatDoor
open Nt.Civil
open Nt.Fld
open Nt.Ev.YtknhlobahpgkeaaGreatDoor.Lk
open Nt.Lin
open Nt
def TU (x:V):Bool:=Pm (aH (ai x 0)) (asInt (ai x 1)) (asInt (ai x 2)) (asInt (ai x 3)) (asInt (ai x 4)) (asInt (ai x 5)) (asInt (ai x 6)) (asInt (ai x 7)) (asInt (ai x 8)) (asInt (ai x 9)) (aH (ai x 10))
def AJ (x:V):Bool:=Gj (asInt (ai x 0)) (asInt (ai x 1)) (asInt (ai x 2)) (aH (ai x 3)) (aH (ai x 4)) (asBool (ai x 5)) (asInt (ai x 6)) (asInt (ai x 7)) (asInt (ai x 8)) (asInt (ai x 9)) (asInt (ai x 10)) (asInt (ai x 11)) (asInt (ai x 12))
noncomputable def rgtL (x:V):Bool:=rgB (aH (ai x 0)) (aH (ai x 1))
abbrev vB (x:V):Bool:=asBool (ai x 5)
theorem aem {xs:ah} (h:Mx xs=0):TU (MG xs)=true:=by
 cases hB:EZ xs with
 |false=>exact absurd h (by unfold Mx;rw[hB];exact rdE_ne xs hB)
 |true=>obtain⟨r0,c,e,b,f,k,g,i,j,d,a,rE⟩:=rd_inj xs (rd_yes xs hB);show Pm (Tx xs) (Ty xs) (Tz xs) (TB xs) (TC xs) (TD xs) (TE xs) (TF xs) (TG xs) (TH xs) (zf xs)=true;rw[r0,c,e,b,f,k,g,i,j,d,a];exact(ru_right xs hB).1
theorem Mm {xs:ah} (a:gN xs=true) (h:kK xs=0):AJ (qh xs)=true:=(er_right xs a h).1
theorem aen {xs:ah} (h:Pq xs=0):rgtL (Te xs)=true:=by
 show rgB (lrT xs) (lrN xs)=true;unfold rgB lrT lrN;rw[if_pos h,if_pos h];unfold Pq at h;rw[uJ,uJ];simp only[uJ] at h;by_cases b:ay xs<2
 ·rw[if_pos b] at h;cases h
 rw[if_neg b] at h;by_cases c:2<ay xs
 ·rw[if_pos c] at h;cases h
 rw[if_neg c] at h;by_cases a:JW (dG (aH (ai (aG xs 0) 0))) (dG (aH (ai (aG xs 1) 0)))=0
 case neg=>rw[if_pos a] at h;exact absurd h a
 rw[if_neg (fun e=>e a)] at h;rw[IB] at a;by_cases d:aH (ai (aG xs 0) 0)=aH (ai (aG xs 1) 0)
 ·rw[if_pos d] at h;cases h
 exact u6 ⟨a.1,a.2,d⟩
def nOf (x:V):Int:=asInt (ai x 0)
def Inc (a:ah) (k:Int):Prop:=∀i,i<a.length→(1≤nOf (aG a (i:Int))∧nOf (aG a (i:Int))≤k)∧(0<i→nOf (aG a ((i-1:Nat):Int))<nOf (aG a (i:Int)))
theorem Oq (k:Int):Inc [] k:=fun i h=>by cases h
theorem Inc.mono {b:ah} {k m:Int} (h:Inc b k) (c:k≤m):Inc b m:=fun i a=>⟨⟨(h i a).1.1,by have:=(h i a).1.2;omega⟩,(h i a).2⟩
theorem jd {a b:ah} {i:Nat} (h:i<a.length):aG (a++b) (i:Int)=aG a (i:Int):=by rw[eX,eX,mg,mg,abn h]
theorem gu (a:ah) (x:V):aG (a++[x]) (a.length:Int)=x:=by rw[eX,mg,abk (by omega),Yz];rfl
theorem Inc.snoc {a:ah} {k m v:Int} (h:Inc a k) (g:0≤k) (f:k<v) (c:v≤m):Inc (a++[.int .i64 v]) m:=by
 intro i d;rw[iH,vg] at d;by_cases e:i<a.length
 ·rw[jd e]
  refine⟨⟨(h i e).1.1,by have:=(h i e).1.2;omega⟩,fun b=>?_⟩;rw[jd (by omega)];exact(h i e).2 b
 obtain rfl:i=a.length:=by omega
 rw[gu];refine⟨⟨by show 1≤v;omega,c⟩,fun b=>?_⟩;rw[jd (by omega)];have:=(h (a.length-1) (by omega)).1.2;show _<v;omega
def ZP (op:Bool) (k:Int) (n:af) (a b:ah):Prop:=
 dG n=0∧a≠[]∧b.length=a.length∧(∀e∈a,AJ e=true)∧(∀j,j<a.length→vB (aG a (j:Int))=(decide (j+1<a.length)||op))∧Inc b k
abbrev zV (n:af) (a:ah):V:=.agg [.str n,.sl 48 kE none a]
abbrev wV (a:ah):V:=.sl 3 kI none a
theorem ZP.mono {op:Bool} {k m:Int} {n:af} {a b:ah} (h:ZP op k n a b) (c:k≤m):ZP op m n a b:=
 ⟨h.1,h.2.1,h.2.2.1,h.2.2.2.1,h.2.2.2.2.1,h.2.2.2.2.2.mono c⟩
theorem ZP.one {op:Bool} {k:Int} {n:af} {e:V} (f:dG n=0) (c:AJ e=true) (b:vB e=op) (g:1≤k):ZP op k n [e] [.int .i64 k]:=by
 refine⟨f,by simp,rfl,?_,?_,?_⟩
 ·intro x a;rw[S7] at a;rw[a];exact c
 ·intro j d
  obtain rfl:j=0:=by simpa using d
  show vB e=_;rw[b];rfl
 exact(Oq 0).snoc (by omega) (by omega) (by omega)
theorem ZP.more {op:Bool} {k m:Int} {n:af} {b c:ah} {e:V} (h:ZP true k n b c) (g:0≤k) (l:k<m) (p:AJ e=true) (f:vB e=op):ZP op m n (b++[e]) (c++[.int .i64 m]):=by
 obtain⟨s,u,i,r,t,o⟩:=h;refine⟨s,by simp,by simp[i],?_,?_,o.snoc g l (by omega)⟩
 ·intro x a
  rcases List.mem_append.1 a with a|a
  ·exact r x a
  rw[S7] at a;rw[a];exact p
 intro j q;rw[iH,vg] at q⊢;by_cases d:j<b.length
 ·rw[jd d,t j d,Bool.or_true,u6 (by omega)];rfl
 obtain rfl:j=b.length:=by omega
 rw[gu,f,uZ (by omega)];rfl
structure yo (t:mD) (k:Int):Prop where
 r: ∀x∈t.rs,TU x=true
 l: ∀x∈t.ks,rgtL x=true
 wr:Inc t.wr k
 wl:Inc t.wl k
 z:(t.zs=[]∧t.we=[])∨ ∃(zs we:ah) (n:af),t.zs=zs++[zV n t.yz]∧t.we=we++[wV t.ye]∧zs.length=we.length∧ZP (decide (0<t.op)) k n t.yz t.ye∧
  ∀i,i<zs.length→ ∃n es ls,aG zs (i:Int)=zV n es∧aG we (i:Int)=wV ls∧ZP false k n es ls
theorem Ro:yo r0 0:=⟨fun x a=>(nomatch a),fun x a=>(nomatch a),Oq 0,Oq 0,.inl ⟨rfl,rfl⟩⟩
theorem allS_ofL {s:af} (h:Ai s=0):gN (bY s)=true:=by
 refine XV ?_;unfold Ai at h;rw[aI] at h;by_cases e:s.length≤511
 ·exact e
 rw[ax (bH (by omega))] at h;cases h
theorem X4 {xs:ah} (h:gN xs=true):gN (tl1 xs)=true:=IC h _ _
theorem sS {zs:ah} {x y:V}:oz (zs++[x]) (ay (zs++[x])-1) y=zs++[y]:=by unfold oz;rw[aD,iH,vg,show((zs.length+1:Nat):Int)-1=(zs.length:Int) from by omega,Kr];simp
theorem yo.step {t:mD} {k:Int} (h:yo t k) (D:0≤k) (G:0<t.op→t.zs≠[]) {s:af} (N:t.err s=0):yo (t.step (k+1) s) (k+1):=by
 obtain⟨B,A,g,f,p⟩:=h;obtain⟨J,H,M⟩:=WC N;have I:gN (bY s)=true:=allS_ofL H;have C:gN (tl1 (bY s))=true:=X4 I;have F:gN (tl1 (tl1 (bY s)))=true:=X4 C;have keep: ∀{op:Int},op=t.op→((t.zs=[]∧t.we=[])∨ ∃(zs we:ah) (n:af),t.zs=zs++[zV n t.yz]∧t.we=we++[wV t.ye]∧zs.length=we.length∧ZP (decide (0<op)) (k+1) n t.yz t.ye∧
   ∀i,i<zs.length→ ∃n q m,aG zs (i:Int)=zV n q∧aG we (i:Int)=wV m∧ZP false (k+1) n q m):=by
  rintro op rfl;rcases p with p|⟨zs,we,n,l,o,v,w,z⟩
  ·exact .inl p
  refine .inr ⟨zs,we,n,l,o,v,w.mono (by omega),fun i u=>?_⟩;obtain⟨n,q,m,a,b,c⟩:=z i u;exact⟨n,q,m,a,b,c.mono (by omega)⟩
 rcases J with j|⟨j,y,r⟩|⟨y,j,r⟩|⟨y,j,r⟩|⟨y,j,r⟩
 ·rw[gq j]
  exact⟨B,A,g.mono (by omega),f.mono (by omega),keep rfl⟩
 ·rw[gq j]
  have L:=(jO r).1;rcases p with⟨p,_⟩|⟨zs,we,n,l,o,v,w,z⟩
  ·exact absurd p (G y)
  refine⟨B,A,g.mono (by omega),f.mono (by omega),.inr ⟨zs,we,n,?_,?_,v,?_,fun i u=>?_⟩⟩
  ·show mG t.zs t.yz (bY s)=zs++[zV n (aX t.yz [qh (bY s)])]
   unfold mG;rw[l,sS];have:aG (zs++[zV n t.yz]) (ay (zs++[zV n t.yz])-1)=zV n t.yz:=by rw[aD,iH,vg,show((zs.length+1:Nat):Int)-1=(zs.length:Int) from by omega,gu]
   rw[this];rfl
  ·show rM t.we t.ye (k+1)=we++[wV (aX t.ye [.int .i64 (k+1)])]
   unfold rM;rw[o,sS]
  ·show ZP (decide (0<jB (bY s) (k+1))) (k+1) n (aX t.yz [qh (bY s)]) (aX t.ye [.int .i64 (k+1)])
   rw[u6 y] at w;refine w.more D (by omega) (Mm I L) ?_;show E6 (bY s)=_;unfold jB
   cases E6 (bY s) with
   |true=>rw[if_pos rfl,u6 (by omega)]
   |false=>rw[if_neg (by decide)];rfl
  obtain⟨n,q,m,a,b,c⟩:=z i u;exact⟨n,q,m,a,b,c.mono (by omega)⟩
 ·rw[gq j]
  refine⟨?_,A,g.snoc D (by omega) (by omega),f.mono (by omega),keep rfl⟩;intro x d;rcases List.mem_append.1 (show x∈t.rs++[MG (tl1 (bY s))] from d) with d|d
  ·exact B x d
  rw[S7] at d;rw[d];exact aem (jO r).1
 ·rw[gq j]
  obtain⟨P,O,K,Q⟩:=Uw r;have E:decide (0<t.op)=false:=uZ y;refine⟨B,A,g.mono (by omega),f.mono (by omega),.inr ⟨t.zs,t.we,aH (ai (aG (tl1 (bY s)) 0) 0),rfl,rfl,?_,?_,?_⟩⟩
  ·rcases p with⟨a,b⟩|⟨zs,we,n,l,o,v,_⟩
   ·rw[a,b]
   rw[l,o,iH,iH,v];rfl
  ·show ZP (decide (0<jB (tl1 (tl1 (bY s))) (k+1))) (k+1) _ [qh (tl1 (tl1 (bY s)))] [.int .i64 (k+1)]
   refine ZP.one O (Mm F K) ?_ (by omega);show E6 (tl1 (tl1 (bY s)))=_;unfold jB
   cases E6 (tl1 (tl1 (bY s))) with
   |true=>rw[if_pos rfl,u6 (by omega)]
   |false=>rw[if_neg (by decide)];rfl
  intro i u;rcases p with⟨a,b⟩|⟨zs,we,n,l,o,v,w,z⟩
  ·rw[a] at u;cases u
  rw[E] at w;rw[l,iH,vg] at u;by_cases e:i<zs.length
  ·obtain⟨n,q,m,a,b,c⟩:=z i e
   refine⟨n,q,m,?_,?_,c.mono (by omega)⟩
   ·show aG t.zs _=_;rw[l,jd e];exact a
   show aG t.we _=_;rw[o,jd (by omega)];exact b
  obtain rfl:i=zs.length:=by omega
  refine⟨n,t.yz,t.ye,?_,?_,w.mono (by omega)⟩
  ·show aG t.zs _=_;rw[l,gu]
  show aG t.we _=_;rw[o,v,gu]
 rw[gq j];refine⟨B,?_,g.mono (by omega),f.snoc D (by omega) (by omega),keep rfl⟩;intro x d;rcases List.mem_append.1 (show x∈t.ks++[Te (tl1 (bY s))] from d) with d|d
 ·exact A x d
 rw[S7] at d;rw[d];exact aen (jO r).1
theorem Good.nz {t:mD} (h:Good t):0<t.op→t.zs≠[]:=fun a e=>by
 have:=h.op a;rw[e] at this
 cases this
theorem Jw: ∀(xs:ah) (k:Int) (t:mD),0≤k→Good t→yo t k→(iI xs k t).2.2=0→yo (iI xs k t).1 (iI xs k t).2.1
 |[],k,t,_,_,h,_=>h
 |x::xs,k,t,c,b,h,a=>by
  by_cases e:t.err (Gl x)=0
  ·rw[iF e] at a⊢
   exact Jw xs (k+1) _ (by omega) (b.step e) (h.step c b.nz e) a
  rw[kg e] at a;exact absurd a e
theorem gf {α:Type} (a b:α):sel false a b=b:=rfl
theorem gn:aL true=false:=rfl
theorem gb (a:Bool):beq a a=true:=by cases a<;>rfl
theorem gB (a:Bool):ak true a=a:=rfl
theorem i0:((0:Nat):Int)=0:=rfl
section
variable (F:Nat) (s:af) (L rs zs ks wr we wl:ah) (l e:Int) (K:V→Option V)
end
theorem rR_good (s:af) (A:s.length≤8000) (h:Gm s=0):
  (oV s).2.2=0∧ ¬0<(oV s).1.op∧Good (oV s).1∧Few (oV s).1∧yo (oV s).1 (ay (iN s)):=by
 unfold Gm at h;rw[if_neg (by omega)] at h;have h:MO (oV s)=0:=h;unfold MO at h;have k:(oV s).2.2=0:=by
  by_cases e:(oV s).2.2=0
  ·exact e
  rw[if_pos e] at h;exact absurd h e
 have p: ¬0<(oV s).1.op:=by intro e;rw[if_neg (fun h=>h k),if_pos e] at h;cases h
 have l:=Jw (iN s) 0 r0 (by omega) xk Ro k;obtain⟨a,b,c,d,f⟩:=Rm (iN s) 0 r0 (by decide) (by decide);have e:iI (iN s) 0 r0=oV s:=rfl;rw[e] at d l;refine⟨k,p,Ml _ _ _ xk,Rk _ _ _ xk r0_few,?_⟩;obtain⟨g1,u,z,m,j⟩:=l;have g:(oV s).2.1≤ay (iN s):=by rw[aD];omega
 refine⟨g1,u,z.mono g,m.mono g,?_⟩;rcases j with j|⟨zs,we,n,v,y,w,x,o⟩
 ·exact .inl j
 refine .inr ⟨zs,we,n,v,y,w,x.mono g,fun i r=>?_⟩;obtain⟨n,q,t,a,b,c⟩:=o i r;exact⟨n,q,t,a,b,c.mono g⟩
theorem rR_zones {t:mD} {k:Int} (h:yo t k) (o: ¬0<t.op): ∀i,i<t.zs.length→ ∃n d f,aG t.zs (i:Int)=zV n d∧aG t.we (i:Int)=wV f∧ZP false k n d f:=by
 intro i g;rcases h.z with⟨a,b⟩|⟨zs,we,n,j,m,q,l,p⟩
 ·rw[a] at g;cases g
 rw[uZ o] at l;rw[j,iH,vg] at g;by_cases e:i<zs.length
 ·obtain⟨n,d,f,a,b,c⟩:=p i e
  exact⟨n,d,f,by rw[j,jd e];exact a,by rw[m,jd (by omega)];exact b,c⟩
 obtain rfl:i=zs.length:=by omega
 exact⟨n,t.yz,t.ye,by rw[j,gu],by rw[m,q,gu],l⟩
end Nt.Ev.YtknhlobahpgkeaaGreatDoor.Rr
