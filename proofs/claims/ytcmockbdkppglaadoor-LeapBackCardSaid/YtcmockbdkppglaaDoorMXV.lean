/-
  Leaps: there and back, the numbers. No program in sight. Leaps: there and back, the text.
-/
import Derived.Test.YtcmockbdkppglaaDoorMXU
set_option linter.all false
set_option maxRecDepth 100000
namespace Nt.Leap
variable {A T:Nat→Int} {n:Nat}
theorem Wn (h:fA A T n) {t:Int} {i:Nat} (c:i<n) (f:A i=t+1):G A T n (t+1)=G A T n t+1+T i:=by
 have d:Split A n t i:=by
  refine⟨by omega,fun j b=>?_,fun j a h3=>?_⟩
  ·have:=gap h i j b c;omega
  ·by_cases e:j=i
   ·subst e;omega
   ·have:=gap h j i (by omega) h3;omega
 have a:Split A n (t+1) (i+1):=by
  refine⟨by omega,fun j b=>?_,fun j a h3=>?_⟩
  ·by_cases e:j=i
   ·subst e;omega
   ·have:=gap h i j (by omega) c;omega
  ·have:=gap h j i (by omega) h3;omega
 rw[vD d,vD a];show t+1+(cI T i+T i)=_;omega
theorem Wo (h:fA A T n) {t:Int} (d: ∀i,i<n→A i≠t+1):G A T n (t+1)=G A T n t+1:=by
 obtain⟨p,a⟩:=uz h t;have b:Split A n (t+1) p:=by
  refine⟨a.1,fun j c=>?_,fun j b h3=>?_⟩
  ·have:=a.2.1 j c;omega
  ·have:=a.2.2 j b h3
   have:=d j h3;omega
 rw[vD a,vD b];omega
def Out (A T:Nat→Int) (n:Nat) (t:Int):Prop:=∃i,i<n∧T i= -1∧A i=t+1
theorem Zq (h:fA A T n) (t:Int):G A T n t≤G A T n (t+1)∧G A T n (t+1)≤G A T n t+2:=by
 refine⟨vM h (by omega),?_⟩;by_cases e: ∃i,i<n∧A i=t+1
 ·obtain⟨i,a,b⟩:=e
  have:=Wn h a b;obtain⟨_,_,h3,_⟩:=h i a;omega
 ·have:=Wo h (t:=t) fun i a b=>e ⟨i,a,b⟩
  omega
theorem UF (h:fA A T n) {t:Int} (b:Out A T n t):G A T n (t+1)=G A T n t∧Last A T n (G A T n t) (t+1):=by
 obtain⟨i,a,k,d⟩:=b;have g:=Wn h a d;have m:G A T n (t+1+1)=G A T n (t+1)+1:=by
  refine Wo h fun j c l=>?_
  have:=gap h j i;have:=gap h i j;rcases Nat.lt_trichotomy i j with e|e|e
  ·have:=gap h j i e c;omega
  ·subst e;omega
  ·have:=gap h i j e a;omega
 obtain⟨_,f,_,_⟩:=h i a;exact⟨by omega,by omega,by omega,.inr (by omega)⟩
theorem Xb (h:fA A T n) {t:Int} (f:t≤971890963199) (d: ¬Out A T n t):(G A T n (t+1)=G A T n t+1∨G A T n (t+1)=G A T n t+2)∧Last A T n (G A T n t) t:=by
 have c:G A T n (t+1)=G A T n t+1∨G A T n (t+1)=G A T n t+2:=by
  by_cases e: ∃i,i<n∧A i=t+1
  ·obtain⟨i,a,b⟩:=e
   have:=Wn h a b;obtain⟨_,_,h3,_⟩:=h i a;rcases h3 with h3|h3
   ·omega
   ·exact absurd ⟨i,a,h3,b⟩ d
  ·exact .inl (Wo h fun i a b=>e ⟨i,a,b⟩)
 exact⟨c,f,Sf _,.inr (by omega)⟩
theorem UG (h:fA A T n) {m d:Int} (a:G A T n (-1096193779200)≤m) (hl:Last A T n m d): -1096193779200≤d:=by
 by_cases e: -1096193779200≤d
 ·exact e
 ·obtain⟨c,b,h3⟩:=hl
  rcases h3 with h3|h3
  ·omega
  ·have:=vM h (show d+1≤ -1096193779200 by omega)
   omega
theorem NY (h:fA A T n) {m d:Int} (a:m≤G A T n 971890963199+1) (hl:Last A T n m d):G A T n d=m∨G A T n d=m-1:=by
 obtain⟨c,b,h3⟩:=hl;rcases h3 with rfl|h3
 ·omega
 ·have:=Zq h d
  omega
end Nt.Leap
namespace Nt.Ev.YtcmockbdkppglaaDoor.Lp
open Go Go.RowKit Nt Nt.Num Nt.Civil Nt.Fld Nt.Lin Go.Proofs.YtcmockbdkppglaaDoor Nt.Ev Nt.Ev.YtcmockbdkppglaaDoor
def R4 (c:UInt8):Bool:=isDigit c||(c==45||(c==84||c==58))
theorem zf {c:UInt8} (h:R4 c=true):43≤c.toNat∧c.toNat≤84:=by
 unfold R4 isDigit at h;rw[yH,yH,yH,bB,Ka,Ka,fT,fT,fT] at h;rcases h with h|rfl|rfl|rfl
 ·omega
 ·decide
 ·decide
 ·decide
theorem jH {c:UInt8} (h:isDigit c=true):R4 c=true:=by unfold R4;rw[h];rfl
theorem L5 {l:ah} (h:l.all isDigit=true):l.all R4=true:=by
 rw[jJ] at h⊢;exact fun x hx=>jH (h x hx)
theorem Xc (y:Int) (h: -40000≤y∧y≤40000):(mZ y).all R4=true∧(mZ y).length≤40:=by
 unfold mZ;split
 ·obtain⟨k,a⟩:=acR (show 0≤ -y by omega)
  have w:=mR k 4 6 (by omega) (by omega) (by omega);rw[a];refine⟨?_,?_⟩
  ·rw[Me]
   exact(bB _ _).mpr ⟨rfl,L5 w.1⟩
  ·have:=w.2.2.2.1
   rw[iy];exact zl (Nat.succ_le_succ this) (by omega)
 ·obtain⟨k,a⟩:=acR (show 0≤y by omega)
  have w:=mR k 4 6 (by omega) (by omega) (by omega);rw[a];exact⟨L5 w.1,zl w.2.2.2.1 (by omega)⟩
theorem Xd (y m d h i s:Int) (hB:Cb y m d h i s=true):(kC y m d h i s).all R4=true∧kC y m d h i s≠[]∧(kC y m d h i s).length≤60:=by
 obtain⟨G,K⟩:=qw.1 hB;obtain⟨I,P,a⟩:=iL.1 G;have p:=jZ a;have H:1≤d∧d≤31:=⟨a.1,by have:=qp y m p.1 p.2;have:=a.2;omega⟩
 obtain⟨m1,r,B,e,f,O⟩:=ng m (by omega);obtain⟨v,q,E,l,g,L⟩:=ng d (by omega);obtain⟨z,A,x,n,c,M⟩:=ng h (by omega);obtain⟨F,i2,w,j,b,N⟩:=ng i (by omega);obtain⟨D,u,C,k,o,vs⟩:=ng s (by omega);have t:kC y m d h i s=mZ y++[45,m1,r,45,v,q,84,z,A,58,F,i2,58,D,u]:=by
  unfold kC mZ;rw[if_pos hB,B,E,x,w,C];simp
 obtain⟨g1,J⟩:=Xc y (by omega);rw[t];refine⟨?_,by simp,?_⟩
 ·rw[acW,g1]
  simp only[Me,List.all_nil,jH e,jH f,jH l,jH g,jH n,jH c,jH j,jH b,jH k,jH o];rfl
 ·rw[nY]
  simp only[iy,o5];omega
theorem GQ {t:Int} (h: -1096193779200≤t∧t≤971890963199):Cb (kV 0 t) (kV 1 t) (kV 2 t) (kV 3 t) (kV 4 t) (kV 5 t)=true∧Ky (kV 0 t) (kV 1 t) (kV 2 t) (kV 3 t) (kV 4 t) (kV 5 t)=t:=by
 have a:fo (t/86400)=true:=by unfold fo;rw[Iy,Gn,Gp];omega
 have c:Nt.Ev.YtcmockbdkppglaaDoor.Fp t=([dY (t/86400),dM (t/86400),dD (t/86400),t%86400/3600,t%86400/60%60,t%86400%60],0):=by
  unfold Nt.Ev.YtcmockbdkppglaaDoor.Fp;rw[if_pos a]
 obtain⟨_,_,_,_,_,_,_,_,e,b⟩:=oK (t/86400);obtain⟨d,f⟩:=(Bh _).1 a;unfold kV;rw[c];refine⟨qw.2 ⟨iL.2 ⟨d,f,e⟩,?_⟩,?_⟩
 ·simp only[XN,ZC];omega
 ·unfold Ky
  simp only[XN,ZC];rw[b];omega
theorem PZ {t:Int} (h: -1096193779200≤t∧t≤971890963199):(vz t).all R4=true∧vz t≠[]∧(vz t).length≤60:=Xd _ _ _ _ _ _ (GQ h).1
theorem Xe {a:ah} (h:a.all R4=true):a.contains 34=false∧a.any yK=false∧a.contains 10=false:=by
 rw[jJ] at h;refine⟨?_,?_,?_⟩
 ·cases e:a.contains 34 with
  |false=>rfl
  |true=>have:=zf (h _ (List.contains_iff_mem.1 e));revert this;decide
 ·rw[Oj]
  intro x hx;have:=zf (h x hx);unfold yK;intro e;rw[yH,yH,fT,fT,fT] at e;rcases e with(rfl|rfl)|rfl<;>(revert this;decide)
 ·cases e:a.contains 10 with
  |false=>rfl
  |true=>have:=zf (h _ (List.contains_iff_mem.1 e));revert this;decide
noncomputable def ve (t s:Int):ah:=vz t++[32]++Ot s
theorem wI (s:Int):Ot s=[43]∨Ot s=[45]:=by unfold Ot;split<;>simp
theorem Xf {a b:ah} (f:a.all R4=true) (g:a≠[]) (h:b=[43]∨b=[45]):Nt.Fld.Fp (a++[32]++b)=([a,b],0):=by
 obtain⟨g1,d,_⟩:=Xe f;have e:(false|| !a.isEmpty)=true:=by cases a with
  |nil=>exact absurd rfl g
  |cons c t=>rfl
 unfold Nt.Fld.Fp;rw[Iz,Gs _ _ a [] false g1 d,e];show nu (32::b) [] ([]++a) true false=_;rw[Ra 32 b [] _ true rfl,IA];rcases h with rfl|rfl<;>rfl
theorem Zr {t:Int} (h: -1096193779200≤t∧t≤971890963199):R3 (vz t)=0∧VI (mV 0 (vz t)) (mV 1 (vz t)) (mV 2 (vz t)) (mV 3 (vz t)) (mV 4 (vz t)) (mV 5 (vz t))=t:=by
 obtain⟨hB,b⟩:=GQ h;have a:=TV _ _ _ _ _ _ hB;have a:Sr (vz t)=_:=a;unfold R3 mV;rw[a];refine⟨rfl,?_⟩;simp only[XN,ZC];unfold VI Cq;rw[if_pos hB];exact b
theorem L6 {t:Int} (h: -1096193779200≤t∧t≤971890963199) (s:Int):Kh (ve t s)=0∧(ve t s).contains 10=false:=by
 obtain⟨f,g,h3⟩:=PZ h;have i:=y7 s;have b: ∀c∈ve t s,32≤c.toNat∧c.toNat≤126:=by
  intro c a;unfold ve at a;rw[R9,R9] at a;rcases a with(a|a)|a
  ·have:=zf (List.all_eq_true.1 f c a);omega
  ·rw[N7] at a;subst a;decide
  ·rcases wI s with e|e<;>(rw[e,N7] at a;subst a;decide)
 refine⟨?_,?_⟩
 ·have hl:(ve t s).length≤511:=by
   unfold ve;simp only[nY,Mc];omega
  have d:BL (ve t s)=false:=by
   unfold BL;rw[Oj];intro c a;have:=b c a;rw[bC (show 32≤(c.toNat:Int) by omega),bC (show(c.toNat:Int)≤126 by omega)]
   cases ieq (c.toNat:Int) 9<;>decide
  unfold Kh;rw[bC (by rw[aA];omega),d];rfl
 ·cases e:(ve t s).contains 10 with
  |false=>rfl
  |true=>have:=b _ (List.contains_iff_mem.1 e);revert this;decide
theorem UH {t s:Int} (h: -1096193779200≤t∧t≤971890963199) (j:s=1∨s= -1) (T:af):mW (ve t s)=0∧Fb T (ve t s)=T++[.agg [.int .i64 t,.int .i64 s]]:=by
 obtain⟨n,g,h3⟩:=PZ h;have c:Nt.Fld.Fp (ve t s)=([vz t,Ot s],0):=Xf n g (wI s);have a:sO (ve t s)=[.str (vz t),.str (Ot s)]:=by unfold sO;rw[c];rfl
 have o:Og (ve t s)=0:=by unfold Og;rw[c]
 obtain⟨i,k⟩:=Zr h;have d:f0 (ve t s)=vz t:=by show eO (aN (bq (sO (ve t s)) 0) 0)=_;rw[a];rfl
 have f:f1 (ve t s)=Ot s:=by show eO (aN (bq (sO (ve t s)) 1) 0)=_;rw[a];rfl
 have b:aQ (sO (ve t s))=2:=by rw[a];rfl
 have hE:mW (ve t s)=0:=by
  unfold mW;rw[(L6 h s).1,o,b,d,i,f,if_neg (by decide),if_neg (by decide),if_neg (by decide),if_neg (by decide),if_neg (by decide),if_neg (by decide)];rcases wI s with e|e<;>rw[e]<;>decide
 have hB:Yi (ve t s)=true:=by
  unfold Yi;rw[hE,b];rfl
 refine⟨hE,?_⟩;unfold Fb;rw[if_pos hB];have l:lfA (ve t s)=t:=by unfold lfA;rw[d];exact k
 have m:UZ (ve t s)=s:=by
  unfold UZ;rw[f];rcases j with rfl|rfl<;>rfl
 rw[l,m];rfl
noncomputable def Mw (xs:af):Nat→Nat→List (ah)
 |_,0=>[]
 |i,k+1=>ve (lA xs i) (lT xs i)::Mw xs (i+1) k
noncomputable def Ou (xs:af):Nat→Nat→af
 |_,0=>[]
 |i,k+1=> .agg [.int .i64 (lA xs i),.int .i64 (lT xs i)]::Ou xs (i+1) k
theorem Jn (xs:af): ∀k i,(Ou xs i k).length=k
 |0,_=>rfl
 |k+1,i=>by unfold Ou;rw[iy,Jn xs k]
theorem P4 (xs:af): ∀k i j,j<k→lA (Ou xs i k) j=lA xs (i+j)∧lT (Ou xs i k) j=lT xs (i+j)
 |0,_,_,h=>absurd h (Sc _)
 |k+1,i,0,h=>⟨rfl,rfl⟩
 |k+1,i,j+1,h=>by
  have e:=P4 xs k (i+1) j (by omega);rw[show i+1+j=i+(j+1) by omega] at e;exact e
theorem L8 (xs:af) (h:Nt.Leap.fA (lA xs) (lT xs) xs.length): ∀k i,i+k≤xs.length→qI (Ki xs i k) []=Mw xs i k
 |0,i,_=>by unfold Ki Mw;rfl
 |k+1,i,b=>by
  have a:=h i (by omega);have e:Ki xs i (k+1)=ve (lA xs i) (lT xs i)++10::Ki xs (i+1) k:=by
   show RZ xs i++Ki xs (i+1) k=_;unfold RZ fw ve;simp only[Iz,Kb,IA]
  rw[e,sM _ _ _ (L6 ⟨a.1,a.2.1⟩ _).2,L8 xs h k (i+1) (by omega)];rfl
theorem GR (xs:af) (h:Nt.Leap.fA (lA xs) (lT xs) xs.length): ∀(k i:Nat) (a:Int) (t:af),i+k≤xs.length→jc (Nt.Ev.fP (Mw xs i k)) a t=(t++Ou xs i k,0,0)
 |0,i,a,t,_=>by
  show jc [] a t=_;unfold Ou;rw[Oa];rfl
 |k+1,i,a,t,e=>by
  have b:=h i (by omega);obtain⟨d,c⟩:=UH ⟨b.1,b.2.1⟩ b.2.2.1 t;show jc (V.str (ve (lA xs i) (lT xs i))::Nt.Ev.fP (Mw xs (i+1) k)) a t=_;rw[tT (show mW (eO (aN (V.str (ve (lA xs i) (lT xs i))) 0))=0 from d)];show jc _ (a+1) (Fb t (ve (lA xs i) (lT xs i)))=_;rw[c,GR xs h k (i+1) _ _ (by omega),Iz];rfl
theorem L9 (xs:af): ∀k i,(Ki xs i k).length≤k*500
 |0,i=>by unfold Ki;simp
 |k+1,i=>by
  have a:=L9 xs k (i+1);have b:=ED xs i;show(RZ xs i++Ki xs (i+1) k).length≤_;rw[nY,vo];omega
theorem NZ (xs:af) (hB:kU xs=true):(qM xs).length≤500000∧Kj (qM xs)=(Ou xs 0 xs.length,0,0)∧Kk (Ou xs 0 xs.length) xs=true:=by
 obtain⟨h,hl⟩:=iq.1 hB;have c:qM xs=Ki xs 0 xs.length:=by unfold qM;rw[if_pos hB]
 have k:=L9 xs xs.length 0;have n:xs.length*500≤1000*500:=J9 _ hl;have f:=P4 xs xs.length 0;have g:=Jn xs xs.length 0;have m:eu (qM xs)=Nt.Ev.fP (Mw xs 0 xs.length):=by
  unfold eu Fw;rw[c,L8 xs h xs.length 0 (by omega)]
 have d:kU (Ou xs 0 xs.length)=true:=by
  rw[iq,g];refine⟨fun i a=>?_,hl⟩;have e:=f i a;rw[Fh] at e;have b:=h i a;refine⟨by rw[e.1];exact b.1,by rw[e.1];exact b.2.1,by rw[e.2];exact b.2.2.1,?_⟩;by_cases l:i=0
  ·exact .inl l
  ·have j:=f (i-1) (by omega)
   rw[Fh] at j;rw[e.1,j.1];exact b.2.2.2
 refine⟨by rw[c];omega,?_,?_⟩
 ·rw[PV (by rw[c];omega),m,GR xs h xs.length 0 0 [] (by omega),IA]
  rw[if_neg (by simp),if_pos d]
 ·rw[ze,g]
  refine⟨rfl,fun i a=>?_⟩;have e:=f i a;rw[Fh] at e;exact e
noncomputable def SQ:List (Nat×aO):=(4,YW)::lp6
noncomputable def kY:=fun F h n g o k m j l i c b a f e d K=>(jP fu SQ F 3 3 [1,1,1,1,0,1,0,1,1,0,1,0] h K n (ny 174 [(0,V.sl 30 [Kd.int .i64,Kd.int .i64] none g),(1,V.int .i64 o),(2,V.int .i64 k),(6,V.bool m),(7,V.int .i64 j),(8,V.int .i64 l),(9,V.int .i64 i),(10,V.bool c),(11,V.int .i64 b),(12,V.bool a),(15,V.tup []),(16,V.tup []),(17,V.tup []),(18,V.tup []),(19,V.tup []),(20,V.tup []),(21,V.tup []),(22,V.tup []),(23,V.tup []),(24,V.tup []),(25,V.tup []),(26,V.tup []),(47,V.sl 30 [Kd.int .i64,Kd.int .i64] none f),(48,V.int .i64 e),(49,V.int .i64 d)] []):Option V)
theorem RL (F xs t n) (K:V→Option V):
 gF fu (fK fu SQ F 3) F 3 [V.sl 30 [Kd.int .i64,Kd.int .i64] none xs,V.int .i64 t,V.int .i64 n] K=
 let C:=av true (aH (aQ xs) 1000000);let E:=K (V.bool false);let G:=sP xs t;let H:=Cc xs n;let I:=K (V.bool true);let B:=sel (ieq (IG xs) 0) (sel (av (av true true) (aH (aQ (Oh (qM xs))) 1000000)) (sel (Kk (Oh (qM xs)) xs) (K (V.bool (av (ieq (U0 (qM xs)) 0) (ieq (U1 (qM xs)) 0)))) E) none) E;let A:=sel C (sel (aH (aK (qM xs)) 900000) (sel (aS (ieq (IG xs) 0)) (sel C (sel (aS (kU xs)) I B) none) B) none) (none);let D:=sel (BB xs n) (sel (aS (ieq (sP xs H) (bD .i64 n 1))) E A) A;sel (aZ 100 (aQ xs)) I (sel C (sel (ieq (wN xs t) 0) (sel C (kY F [] F xs t n false G (wN xs t) (Cc xs G) (BB xs G) (sV xs G) false xs (aQ xs) 0 K) none) (sel C (sel (ieq (sV xs n) 0) (sel C (sel (aS (ieq (wN xs H) 0)) E (sel (aS (BB xs n)) (sel (aS (ieq (sP xs H) n)) E D) D)) none) A) none)) none):=by kernel_rfl
end Nt.Ev.YtcmockbdkppglaaDoor.Lp
