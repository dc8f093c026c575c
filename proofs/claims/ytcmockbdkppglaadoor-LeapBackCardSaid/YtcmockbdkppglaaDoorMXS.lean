/-
  Leaps: how many seconds have gone by, and the second of a number.
-/
import Derived.Test.YtcmockbdkppglaaDoorMK
import Derived.Test.YtcmockbdkppglaaDoorMO
import Derived.Test.YtcmockbdkppglaaDoorMQ
set_option linter.all false
set_option maxRecDepth 100000
namespace Nt.Leap
def cI (T:Nat→Int):Nat→Int
 |0=>0
 |i+1=>cI T i+T i
def Fy (A T:Nat→Int) (t:Int):Nat→Nat→Int→Int
 |0,_,a=>a
 |k+1,i,a=>Fy A T t k (i+1) (if A i≤t then a+T i else a)
def Fz (A T:Nat→Int) (i:Nat):Prop:= -1096193779200≤A i∧A i≤971890963199∧(T i=1∨T i= -1)∧(i=0∨2419200≤A i-A (i-1))
def fA (A T:Nat→Int) (n:Nat):Prop:=∀i,i<n→Fz A T i
def pos (A:Nat→Int) (n:Nat) (t:Int):Nat→Nat
 |0=>0
 |k+1=>if A k≤t then k+1 else pos A n t k
variable {A T:Nat→Int} {n:Nat}
theorem gap (h:fA A T n): ∀j i,i<j→j<n→A i+2419200≤A j:=by
 intro j;induction j with
 |zero=>intro i d;omega
 |succ j c=>
  intro i d b;have a:=h (j+1) b;obtain⟨_,_,_,h3⟩:=a;have h3:2419200≤A (j+1)-A j:=by
   rcases h3 with h3|h3
   ·omega
   ·simpa using h3
  by_cases e:i=j
  ·subst e;omega
  ·have:=c i (by omega) (by omega);omega
def Split (A:Nat→Int) (n:Nat) (t:Int) (p:Nat):Prop:=p≤n∧(∀j,j<p→A j≤t)∧ ∀j,p≤j→j<n→t<A j
theorem uz (h:fA A T n) (t:Int): ∃p,Split A n t p:=by
 have c: ∀k,k≤n→ ∃p,p≤k∧(∀j,j<p→A j≤t)∧ ∀j,p≤j→j<k→t<A j:=by
  intro k;induction k with
  |zero=>exact fun _=>⟨0,iA _,fun j b=>absurd b (Sc _),fun j _ b=>absurd b (Sc _)⟩
  |succ k g=>
   intro l;by_cases e:A k≤t
   ·refine⟨k+1,iA _,fun j b=>?_,fun j f a=>by omega⟩
    by_cases d:j=k
    ·subst d;exact e
    ·have:=gap h k j (by omega) (by omega);omega
   ·obtain⟨p,f,a,h3⟩:=g (by omega)
    refine⟨p,by omega,a,fun j i m=>?_⟩;by_cases d:j=k
    ·subst d;omega
    ·exact h3 j i (by omega)
 obtain⟨p,f,a,h3⟩:=c n (iA _);exact⟨p,f,a,h3⟩
theorem GD (t:Int): ∀(k i:Nat) (a:Int),(∀j,i≤j→j<i+k→t<A j)→Fy A T t k i a=a
 |0,_,_,_=>rfl
 |k+1,i,a,h=>by
  unfold Fy;have:=h i (iA _) (by omega);rw[if_neg (by omega),GD t k (i+1) a fun j c b=>h j (by omega) (by omega)]
theorem Dt (t:Int) (p:Nat) (c: ∀j,p≤j→j<n→t<A j) (d:p≤n): ∀(k i:Nat) (a:Int),(∀j,i≤j→j<p→A j≤t)→i+k=n→i≤p→Fy A T t k i a=a+cI T p-cI T i
 |0,i,a,h,g,f=>by
  have:i=p:=by omega
  subst this;unfold Fy;omega
 |k+1,i,a,h,g,f=>by
  by_cases e:i=p
  ·subst e
   rw[GD t (k+1) i a fun j h3 b=>c j h3 (by omega)];omega
  ·unfold Fy
   rw[if_pos (h i (iA _) (by omega)),Dt t p c d k (i+1) _ (fun j h3 b=>h j (by omega) b) (by omega) (by omega)];show a+T i+cI T p-(cI T i+T i)=_;omega
theorem WV {t:Int} {p:Nat} (h:Split A n t p) (a:Int):Fy A T t n 0 a=a+cI T p:=by
 obtain⟨c,b,h3⟩:=h;rw[Dt t p h3 c n 0 a (fun j _ h=>b j h) (by omega) (by omega)];show a+cI T p-0=_;omega
def G (A T:Nat→Int) (n:Nat) (t:Int):Int:=Fy A T t n 0 t
theorem vD {t:Int} {p:Nat} (h:Split A n t p):G A T n t=t+cI T p:=WV h t
theorem vL (h:fA A T n): ∀p,p≤n→-(p:Int)≤cI T p∧cI T p≤p
 |0,_=>⟨by show _≤(0:Int);omega,by show(0:Int)≤_;omega⟩
 |p+1,a=>by
  have:=vL h p (by omega);obtain⟨_,_,h3,_⟩:=h p (by omega);show _≤cI T p+T p∧cI T p+T p≤_;omega
theorem WW (h:fA A T n): ∀q p,p≤q→q≤n→-((q:Int)-p)≤cI T q-cI T p∧cI T q-cI T p≤(q:Int)-p:=by
 intro q;induction q with
 |zero=>
    intro p c b;have:p=0:=by omega
    subst this;omega
 |succ q a=>
  intro p c b;by_cases e:p=q+1
  ·subst e;omega
  ·have:=a p (by omega) (by omega)
   obtain⟨_,_,h3,_⟩:=h q (by omega);show _≤cI T q+T q-cI T p∧cI T q+T q-cI T p≤_;omega
theorem dist (h:fA A T n): ∀q p,p<q→q<n→A p+((q:Int)-p)≤A q:=by
 intro q;induction q with
 |zero=>intro p c;omega
 |succ q a=>
  intro p c b;have:=gap h (q+1) q (by omega) b;by_cases e:p=q
  ·subst e;omega
  ·have:=a p (by omega) (by omega);omega
theorem vM (h:fA A T n) {s t:Int} (g:s≤t):G A T n s≤G A T n t:=by
 obtain⟨p,b⟩:=uz h s;obtain⟨q,c⟩:=uz h t;rw[vD b,vD c];obtain⟨o,f,d⟩:=b;obtain⟨j,m,k⟩:=c;have a:p≤q:=by
  by_cases e:p≤q
  ·exact e
  ·have:=f q (by omega)
   have:=k q (iA _) (by omega);omega
 have u:=WW h q p a j;by_cases e:p=q
 ·subst e;omega
 ·have r:=d p (iA _) (by omega)
  have i:=m (q-1) (by omega);by_cases l:p=q-1
  ·rw[←l] at i;omega
  ·have:=dist h (q-1) p (by omega) (by omega)
   omega
theorem pz (h:fA A T n) (t:Int):t-n≤G A T n t∧G A T n t≤t+n:=by
 obtain⟨p,a⟩:=uz h t;rw[vD a];have:=vL h p a.1;have:=a.1;omega
def Last (A T:Nat→Int) (n:Nat) (m t:Int):Prop:=t≤971890963199∧G A T n t≤m∧(t=971890963199∨m<G A T n (t+1))
theorem last_one (h:fA A T n) {m s t:Int} (e:Last A T n m s) (d:Last A T n m t):s=t:=by
 obtain⟨g,i,b⟩:=e;obtain⟨f,j,c⟩:=d;rcases Int.lt_trichotomy s t with a|a|a
 ·rcases b with rfl|b
  ·omega
  ·have:=vM h (show s+1≤t by omega);omega
 ·exact a
 ·rcases c with rfl|c
  ·omega
  ·have:=vM h (show t+1≤s by omega);omega
def least (x y:Int):Int:=if x≤y then x else y
theorem Uh (h:fA A T n) {m:Int} {i:Nat} (v:i≤n) (y:i=0∨A (i-1)+cI T i≤m) (w: ∀j,i≤j→j<n→m<A j+cI T (j+1)) (D:G A T n (-1096193779200)≤m):
  Last A T n m (least (if i<n then least (m-cI T i) (A i-1) else m-cI T i) 971890963199):=by
 generalize p:least (if i<n then least (m-cI T i) (A i-1) else m-cI T i) 971890963199=t;have o:t≤971890963199:=by rw[←p];unfold least;split<;>omega
 have k:i<n→t≤A i-1:=by
  intro d;rw[←p,if_pos d];unfold least;(repeat' split)<;>omega
 have F:t≤m-cI T i:=by
  rw[←p];unfold least;(repeat' split)<;>omega
 have f:t=971890963199∨(i<n∧t=A i-1)∨t=m-cI T i:=by
  rw[←p];unfold least;(repeat' split)<;>omega
 have s:i=0∨A (i-1)≤t:=by
  by_cases e:i=0
  ·exact .inl e
  ·right
   have a:=h (i-1) (by omega);obtain⟨_,E,_,_⟩:=a;have C:A (i-1)+cI T i≤m:=y.elim (fun x=>absurd x e) id;rcases f with l|⟨l,B⟩|l
   ·omega
   ·have:=gap h i (i-1) (by omega) l;omega
   ·omega
 have g:Split A n t i:=by
  refine⟨v,fun j q=>?_,fun j r h3=>?_⟩
  ·rcases s with e|e
   ·omega
   ·by_cases c:j=i-1
    ·subst c;exact e
    ·have:=gap h (i-1) j (by omega) (by omega);omega
  ·have d:i<n:=by omega
   have:=k d;by_cases c:j=i
   ·subst c;omega
   ·have:=gap h j i (by omega) h3;omega
 refine⟨o,by rw[vD g];omega,?_⟩;rcases f with e|⟨l,B⟩|e
 ·exact .inl e
 ·right
  have b:Split A n (t+1) (i+1):=by
   refine⟨by omega,fun j q=>?_,fun j r h3=>?_⟩
   ·by_cases c:j=i
    ·subst c;omega
    ·have:=g.2.1 j (by omega);omega
   ·have:=gap h j i (by omega) h3;omega
  rw[vD b];have:=w i (iA _) l;omega
 ·by_cases z:t=971890963199
  ·exact .inl z
  right
  by_cases u:i<n∧A i≤t+1
  ·have:=k u.1
   have b:Split A n (t+1) (i+1):=by
    refine⟨by omega,fun j q=>?_,fun j r h3=>?_⟩
    ·by_cases c:j=i
     ·subst c;omega
     ·have:=g.2.1 j (by omega);omega
    ·have:=gap h j i (by omega) h3;omega
   rw[vD b];have:=w i (iA _) u.1;omega
  ·have b:Split A n (t+1) i:=by
    refine⟨v,fun j q=>by have:=g.2.1 j q;omega,fun j r h3=>?_⟩;by_cases c:j=i
    ·subst c
     have: ¬A j≤t+1:=fun x=>u ⟨h3,x⟩
     omega
    ·have:=gap h j i (by omega) h3
     have:=g.2.2 i (iA _) (by omega);omega
   rw[vD b];omega
def KA (A T:Nat→Int) (n:Nat) (m:Int):Nat→Int→Int
 |0,t=>t
 |k+1,t=>if m<G A T n t then KA A T n m k (t-1) else t
theorem wG {m:Int} (h:fA A T n): ∀(k:Nat) (t:Int),t≤971890963199→t-(m-n)<k→(t=971890963199∨m<G A T n (t+1))→Last A T n m (KA A T n m k t)
 |0,t,b,h3,a=>by
  have:=pz h t;exact⟨b,by show G A T n t≤m;omega,a⟩
 |k+1,t,b,h3,a=>by
  unfold KA;split
  next e=>exact wG h k (t-1) (by omega) (by omega) (.inr (by rw[show t-1+1=t by omega];exact e))
  next e=>exact⟨b,by omega,a⟩
theorem Du (h:fA A T n) (t:Int): ∀k,k≤n→(∀j,k≤j→j<n→t<A j)→Split A n t (pos A n t k)
 |0,c,a=>⟨Ca _,fun j h=>absurd h (Sc _),fun j _ h3=>a j (Ca _) h3⟩
 |k+1,c,a=>by
  unfold pos;split
  next e=>
   refine⟨c,fun j d=>?_,a⟩;by_cases b:j=k
   ·subst b;exact e
   ·have:=gap h k j (by omega) (by omega);omega
  next e=>
   refine Du h t k (by omega) fun j d h3=>?_
   by_cases b:j=k
   ·subst b;omega
   ·exact a j (by omega) h3
end Nt.Leap
namespace Nt.Ev.YtcmockbdkppglaaDoor.Lp
open Go Nt Nt.Num
noncomputable def lA (xs:af) (i:Nat):Int:=asInt (aN (bq xs (i:Int)) 0)
noncomputable def lT (xs:af) (i:Nat):Int:=asInt (aN (bq xs (i:Int)) 1)
noncomputable def kU (xs:af):Bool:=@decide (Nt.Leap.fA (lA xs) (lT xs) xs.length∧xs.length≤1000) (Classical.propDecidable _)
theorem iq {xs:af}:kU xs=true↔Nt.Leap.fA (lA xs) (lT xs) xs.length∧xs.length≤1000:=by unfold kU;exact @Ka _ (Classical.propDecidable _)
noncomputable def iP (xs:af) (t:Int):Int:=Nt.Leap.G (lA xs) (lT xs) xs.length t
noncomputable def qc (xs:af):af:=(List.range (xs.length+1)).map fun i=> .int .i64 (Nt.Leap.cI (lT xs) i)
noncomputable def VH (xs a:af):Bool:=@decide (a=qc xs) (Classical.propDecidable _)
theorem LG {xs a:af}:VH xs a=true↔a=qc xs:=by unfold VH;exact @Ka _ (Classical.propDecidable _)
def UX (t:Int):Bool:=decide (-4000000000000≤t∧t≤4000000000000)
theorem LH {t:Int}:UX t=true↔-4000000000000≤t∧t≤4000000000000:=by unfold UX;simp
def Yg (t:Int):Bool:=decide (-5000000000000≤t∧t≤5000000000000)
theorem Ui {t:Int}:Yg t=true↔-5000000000000≤t∧t≤5000000000000:=by unfold Yg;simp
noncomputable def UY (xs:af) (t:Int):Int:=((Nt.Leap.pos (lA xs) xs.length (t-1) xs.length:Nat):Int)
noncomputable def lpQ (xs:af) (t:Int):Bool:=decide (UY xs t<(xs.length:Int)∧lA xs (UY xs t).toNat=t)
noncomputable def DJ (xs:af) (m:Int):Int:=@dite _ (∃t,Nt.Leap.Last (lA xs) (lT xs) xs.length m t) (Classical.propDecidable _) (fun h=>h.choose) (fun _=>0)
theorem zW {xs:af} {m t:Int} (h:Nt.Leap.fA (lA xs) (lT xs) xs.length) (a:Nt.Leap.Last (lA xs) (lT xs) xs.length m t):DJ xs m=t:=by
 have hx: ∃t,Nt.Leap.Last (lA xs) (lT xs) xs.length m t:=⟨t,a⟩
 unfold DJ;rw[dif_pos hx];exact Nt.Leap.last_one h hx.choose_spec a
open Go.Proofs.YtcmockbdkppglaaDoor
open Nt.Ev.YtcmockbdkppglaaDoor
open Nt.Civil
open Nt.Fld
open Nt.Lin
noncomputable def Zj:V:=.rptr [.oth] (.qD false (.agg [.agg [.int .i64 (-1),.str [45]],.agg [.int .i64 1,.str [43]]]) (.int .i64 0)) 0
noncomputable def fu:Env:=⟨Go.Proofs.Tryd.prog,fun g=>bif g==0 then some Zj else bif g==1 then some Py else none⟩
noncomputable def lC:V→Bool| .nilsl=>true| .sl e sh o xs=>e==30&&Kd.zn [.int .i64,.int .i64] sh|_=>false
noncomputable def bY:V→af| .sl _ _ _ xs=>xs|_=>[]
def kV (k:Nat) (t:Int):Int:=(Fp t).1.getD k 0
def Z7 (t:Int):Int:=(Fp t).2
noncomputable def Ss:List (Nat×aO):=[]
noncomputable def Vo:aO:=fun a=>match a with|[.sl 30 [.int .i64,.int .i64] o xs,.int .i64 t,.fn 23 []]=>some (av (kU xs) (Yg t),.tup [.int .i64 (UY xs t),.bool (lpQ xs t)])|_=>none
noncomputable def lp1:List (Nat×aO):=(22,Vo)::[]
noncomputable def zF:aO:=fun a=>match a with|[x]=>some (av (lC x) (aH (aQ (bY x)) 1000000),.bool (kU (bY x)))|_=>none
noncomputable def Vp:aO:=fun a=>match a with|[x]=>some (av (lC x) (kU (bY x)),.sl 2 [.int .i64] (some 0) (qc (bY x)))|_=>none
noncomputable def Vq:aO:=fun a=>match a with|[x,.sl 2 [.int .i64] o cs,.int .i64 t]=>some (av (av (lC x) (kU (bY x))) (av (VH (bY x) cs) (UX t)),.int .i64 (iP (bY x) t))|_=>none
noncomputable def lp2:List (Nat×aO):=(9,zF)::(13,Vp)::(12,Vq)::[]
noncomputable def Vr:aO:=fun a=>match a with|[.int .i64 t]=>some (av (aH (-9223372036854775808) t) (aH t 9223372036854775807),.tup [.agg [.int .i64 (kV 0 t),.int .i64 (kV 1 t),.int .i64 (kV 2 t),.int .i64 (kV 3 t),.int .i64 (kV 4 t),.int .i64 (kV 5 t)],.int .i64 (Z7 t)])|_=>none
noncomputable def Vs:aO:=fun a=>match a with|[.agg [.int .i64 y,.int .i64 m,.int .i64 d,.int .i64 h,.int .i64 i,.int .i64 s]]=>some (true,.str (kC y m d h i s))|_=>none
noncomputable def Yh:List (Nat×aO):=(14,Vr)::(16,Vs)::(GX+27,YM)::(GX+17,YN)::lp2
noncomputable def yU:=fun F c n a f d e b K=>(jP fu Ss F 2 9 [1,0,1,0] c K n (ny 48 [(0,V.sl 30 [Kd.int .i64,Kd.int .i64] none a),(2,V.bool f),(6,V.sl 30 [Kd.int .i64,Kd.int .i64] none d),(7,V.int .i64 e),(8,V.int .i64 b)] []):Option V)
theorem Ro (F xs) (K:V→Option V):
 gF fu (fK fu Ss F 2) F 9 [V.sl 30 [Kd.int .i64,Kd.int .i64] none xs] K=
 yU F [] F xs false xs (aQ xs) 0 K:=by kernel_rfl
theorem uU (F n b e c d a K):
 yU F [] (n+1) b e c d a K=
 let B:=asInt (aN (bq c a) 0);let C:=K (V.bool false);let D:=yU F [] n b e c d (aY .i64 a 1) K;let E:=bD .i64 a 1;let G:=asInt (aN (bq c a) 1);let A:=sel (aZ 0 a) (sel (av (aH 0 E) (aZ E (aQ b))) (sel (aZ (bD .i64 B (asInt (aN (bq b E) 0))) 2419200) C D) none) D;sel (aZ a d) (sel (av (aH 0 a) (aZ a (aQ c))) (sel (aH (-1096193779200) B) (sel (aH B 971890963199) (sel (ieq G 1) A (sel (aS (ieq G (-1))) C A)) C) C) none) (K (V.bool (aH (aQ b) 1000))):=by kernel_rfl
noncomputable def yV:=fun F e n d f a c b K=>(jP fu Ss F 2 13 [1,1,0,1,0] e K n (ny 30 [(0,V.old (V.sl 30 [Kd.int .i64,Kd.int .i64] none d)),(2,V.sl 2 [Kd.int .i64] (some 2) []),(3,V.sl 2 [Kd.int .i64] (some 3) f),(10,V.old (V.sl 30 [Kd.int .i64,Kd.int .i64] none a)),(11,V.int .i64 c),(12,V.int .i64 b)] []):Option V)
theorem Rp (F xs) (K:V→Option V):
 gF fu (fK fu Ss F 2) F 13 [V.old (V.sl 30 [Kd.int .i64,Kd.int .i64] none xs)] K=
 let A:=aY .i64 (aQ xs) 1;sel (av (aH 0 A) (av (aH A A) (aH A 16777216))) (yV F [] F xs (vB A (V.int .i64 0)) xs (aQ xs) 0 K) none:=by kernel_rfl
theorem uV (F n e d b c a K):
 yV F [] (n+1) e d b c a K=
 let A:=aY .i64 a 1;sel (aZ a c) (sel (av (aH 0 a) (aZ a (aQ b))) (sel (av (aH 0 a) (aZ a (aQ d))) (sel (av (aH 0 A) (aZ A (aQ d))) (yV F [] n e (yo d A (V.int .i64 (aY .i64 (asInt (aN (bq d a) 0)) (asInt (aN (bq b a) 1))))) b c A K) none) none) none) (K (V.sl 2 [Kd.int .i64] (some 3) d)):=by kernel_rfl
noncomputable def tQ:=fun F d n b e g c f a K=>(jP fu Ss F 3 22 [1,1,1,0,0] d K n (ny 49 [(0,V.sl 30 [Kd.int .i64,Kd.int .i64] none b),(1,V.int .i64 e),(2,V.fn 23 []),(6,V.int .i64 0),(7,V.bool g),(8,V.int .i64 c),(9,V.int .i64 f),(10,V.int .i64 a)] []):Option V)
theorem Rq (F xs t) (K:V→Option V):
 gF fu (fK fu Ss F 3) F 22 [V.sl 30 [Kd.int .i64,Kd.int .i64] none xs,V.int .i64 t,V.fn 23 []] K=
 tQ F [] F xs t false (aQ xs) 0 (aQ xs) K:=by kernel_rfl
theorem uW (F n d c f e a b K):
 tQ F [] (n+1) d c f e a b K=
 let A:=gP .i64 (Mi .u64 (gP .u64 (aY .i64 a b)) 1);let C:=asInt (aN (bq d a) 0);let E:=V.int .i64 a;let G:=aS (ieq c c);let B:=tQ F [] n d c f e a A K;let D:=asInt (aN (bq d A) 0);let H:=tQ F [] n d c f e (aY .i64 A 1) b K;let I:=K (V.tup [E,V.bool (ieq (-1) 0)]);let J:=K (V.tup [E,V.bool (ieq 0 0)]);let L:=K (V.tup [E,V.bool (ieq 1 0)]);sel (aZ a b) (sel (av (aH 0 A) (aZ A (aQ d))) (sel (aS (ieq D D)) (sel G B H) (sel G B (sel (aZ D c) H (sel (aZ c D) B B)))) none) (sel (aZ a e) (sel (av (aH 0 a) (aZ a (aQ d))) (sel (aS (ieq C C)) (sel G J I) (sel G L (sel (aZ C c) I (sel (aZ c C) L J)))) none) (K (V.tup [E,V.bool false]))):=by kernel_rfl
theorem Rs (F xs a t) (K:V→Option V):
 gF fu (fK fu lp1 F 2) F 12 [V.sl 30 [Kd.int .i64,Kd.int .i64] none xs,V.sl 2 [Kd.int .i64] none a,V.int .i64 t] K=
 let A:=UY xs (aY .i64 t 1);sel (av (kU xs) (Yg (aY .i64 t 1))) (sel (av (aH 0 A) (aZ A (aQ a))) (K (V.int .i64 (aY .i64 t (asInt (aN (bq a A) 0))))) none) none:=by kernel_rfl
theorem Rt (F xs t) (K:V→Option V):
 gF fu (fK fu lp2 F 2) F 5 [V.sl 30 [Kd.int .i64,Kd.int .i64] none xs,V.int .i64 t] K=
 let B:=V.int .i64 0;let C:=av true (kU xs);let A:=K (V.tup [B,V.int .i64 1]);sel (av true (aH (aQ xs) 1000000)) (sel (aS (kU xs)) (K (V.tup [B,V.int .i64 4])) (sel (aH (-1096193779200) t) (sel (aS (aH t 971890963199)) A (sel C (sel (av C (av (VH xs (qc xs)) (UX t))) (K (V.tup [V.int .i64 (iP xs t),B])) none) none)) A)) none:=by kernel_rfl
noncomputable def yX:=fun F c n a d f e b K=>(jP fu lp2 F 2 6 [1,1,1,1,1,0,0] c K n (ny 77 [(0,V.sl 30 [Kd.int .i64,Kd.int .i64] none a),(1,V.int .i64 d),(4,V.int .i64 0),(5,V.bool f),(6,V.int .i64 0),(7,V.sl 2 [Kd.int .i64] (some 7) e),(8,V.int .i64 b)] []):Option V)
theorem Ru (F xs n) (K:V→Option V):
 gF fu (fK fu lp2 F 2) F 6 [V.sl 30 [Kd.int .i64,Kd.int .i64] none xs,V.int .i64 n] K=
 let A:=K (V.tup [V.int .i64 0,V.bool false,V.int .i64 1]);let B:=av true (kU xs);let C:=VH xs (qc xs);sel (av true (aH (aQ xs) 1000000)) (sel (aS (kU xs)) (K (V.tup [V.int .i64 0,V.bool false,V.int .i64 4])) (sel B (sel (av B (av C (UX (-1096193779200)))) (sel (aZ n (iP xs (-1096193779200))) A (sel (av B (av C (UX 971890963199))) (sel (aZ (aY .i64 (iP xs 971890963199) 1) n) A (yX F [] F xs n false (qc xs) (aQ xs) K)) none)) none) none)) none:=by kernel_rfl
theorem uX (F n c b e d a K):
 yX F [] (n+1) c b e d a K=
 let B:=asInt (aN (bq d a) 0);let C:=av (aH 0 a) (aZ a (aQ d));let E:=bD .i64 a 1;let H:=aZ a (aQ c);let D:=sW (sW (bD .i64 b B) (bD .i64 (asInt (aN (bq c a) 0)) 1)) 971890963199;let G:=sW (bD .i64 b B) 971890963199;let A:=sel C (sel H (sel (av (aH 0 a) H) (sel C (K (V.tup [V.int .i64 D,V.bool (aZ (aY .i64 D B) b),V.int .i64 0])) none) none) (sel C (K (V.tup [V.int .i64 G,V.bool (aZ (aY .i64 G B) b),V.int .i64 0])) none)) (none);sel (aZ 0 a) (sel (av (aH 0 E) (aZ E (aQ c))) (sel C (sel (aZ b (aY .i64 (asInt (aN (bq c E) 0)) B)) (yX F [] n c b e d E K) A) none) none) A:=by kernel_rfl
noncomputable def EA:=fun F e n d a c b K=>(jP fu Yh F 2 7 [1,1,1,0,1,0] e K n (ny 36 [(0,V.sl 30 [Kd.int .i64,Kd.int .i64] none d),(2,V.str []),(3,V.int .i64 0),(4,V.box 4 0),(12,V.sl 30 [Kd.int .i64,Kd.int .i64] none a),(13,V.int .i64 c),(14,V.int .i64 b)] [(4,[V.nilp,V.nilsl])]):Option V)
noncomputable def mK:=fun F f n e b d c a K=>(jP fu Yh F 2 7 [1,1,1,0,1,0] f K n (ny 36 [(0,V.sl 30 [Kd.int .i64,Kd.int .i64] none e),(2,V.str []),(3,V.int .i64 0),(4,V.box 4 0),(12,V.sl 30 [Kd.int .i64,Kd.int .i64] none b),(13,V.int .i64 d),(14,V.int .i64 c)] [(4,[V.box 4 0,V.sl 5 [Kd.int .u8] (some 50001) a])]):Option V)
theorem Rv (F xs) (K:V→Option V):
 gF fu (fK fu Yh F 2) F 7 [V.sl 30 [Kd.int .i64,Kd.int .i64] none xs] K=
 sel (av true (aH (aQ xs) 1000000)) (sel (aS (kU xs)) (K (V.tup [V.str [],V.int .i64 4])) (EA F [] F xs xs (aQ xs) 0 K)) none:=by kernel_rfl
theorem uY (F n d b c a K):
 EA F [] (n+1) d b c a K=
 let C:=asInt (aN (bq b a) 0);let D:=[V.agg [V.int .i64 (-1),V.str [45]],V.agg [V.int .i64 1,V.str [43]]];let G:=asInt (aN (bq b a) 1);let A:=kC (kV 0 C) (kV 1 C) (kV 2 C) (kV 3 C) (kV 4 C) (kV 5 C);let B:=jL D G;let E:=fw (fw A [32]) B;let H:=aC (fw E [10]);sel (aZ a c) (sel (av (aH 0 a) (aZ a (aQ b))) (sel (av (aH (-9223372036854775808) C) (aH C 9223372036854775807)) (sel (jC A [32]) (sel (BH D G) (sel (jC (fw A [32]) B) (sel (jC E [10]) (sel (oV H) (mK F [] n d b c (aY .i64 a 1) H K) none) none) none) none) none) none) none) (K (V.tup [V.str [],V.int .i64 0])):=by kernel_rfl
theorem uZ (F n e c d a b K):
 mK F [] (n+1) e c d a b K=
 let C:=asInt (aN (bq c a) 0);let D:=[V.agg [V.int .i64 (-1),V.str [45]],V.agg [V.int .i64 1,V.str [43]]];let G:=asInt (aN (bq c a) 1);let A:=kC (kV 0 C) (kV 1 C) (kV 2 C) (kV 3 C) (kV 4 C) (kV 5 C);let B:=jL D G;let E:=fw (fw A [32]) B;let H:=aC (fw E [10]);sel (aZ a d) (sel (av (aH 0 a) (aZ a (aQ c))) (sel (av (aH (-9223372036854775808) C) (aH C 9223372036854775807)) (sel (jC A [32]) (sel (BH D G) (sel (jC (fw A [32]) B) (sel (jC E [10]) (sel (fO b H) (mK F [] n e c d (aY .i64 a 1) (bT b H) K) none) none) none) none) none) none) none) (K (V.tup [V.str (eF b),V.int .i64 0])):=by kernel_rfl
open Go.RowKit
theorem jG:oU fu:=⟨by kernel_rfl,by kernel_rfl⟩
theorem Eb:dP fu Ss:=dP.nil
theorem Z8 {f:Nat} {args:af} {r:V} (h:ak uE f args r):ak fu f args r:=ak.env (E:=uE) rfl (fun n v h=>by
 unfold uE at h;simp only at h
 cases e:n==1 with
 |false=>rw[e] at h;cases h
 |true=>
  have e:=beq_iff_eq.1 e;subst e;exact h) h
theorem GG {G:aI} {v:Value} {e:Nat} {sh:List Kd} (h:aJ G .nilsl v):aJ G (.sl e sh none []) v:=by
 unfold aJ at h⊢;subst h;exact⟨none,0,rfl,iA _,.inl rfl⟩
theorem Jj {G:aI} {x:V} {v:Value} (hx:lC x=true) (h:aJ G x v):aJ G (.sl 30 [.int .i64,.int .i64] none (bY x)) v:=by
 unfold lC at hx;split at hx
 ·exact GG h
 ·rename_i e sh o xs
  rw[bB,fT] at hx;obtain⟨rfl,a⟩:=hx;obtain rfl:=Kd.fD _ _ a;exact jU (o:=o) h
 ·cases hx
theorem Mv {f:Nat} {x:V} {b:af} {r:V} (hx:lC x=true) (h:ak fu f (.sl 30 [.int .i64,.int .i64] none (bY x)::b) r):ak fu f (x::b) r:=by
 intro G w vs d c a;obtain⟨v,t,rfl,e,a⟩:=a.cons_inv;exact h G w _ d c (.cons (Jj hx e) a)
theorem lab0 {E:Env} {f:Nat} {args:af} {e L L':Nat} {sh:List Kd} {xs:af} (h:ak E f args (.sl e sh (some L) xs)):ak E f args (.sl e sh (some L') xs):=fun G w vs a b c=>h G w vs a b c
theorem gt {α:Type} (a b:α):sel true a b=a:=rfl
theorem gf {α:Type} (a b:α):sel false a b=b:=rfl
theorem gn:aS true=false:=rfl
theorem gB (a:Bool):av true a=a:=rfl
theorem pE {xs:af} {i:Nat} (h:i<xs.length):av (aH 0 (i:Int)) (aZ (i:Int) (aQ xs))=true:=by rw[ay,ax,aU,aM];omega
theorem EB {xs:af} {i:Nat} (h:i=xs.length):aZ (i:Int) (aQ xs)=false:=bC (by rw[aM];omega)
theorem Ec {xs:af} {i:Nat} (h:i<xs.length) (a:xs.length≤1000000):aZ (i:Int) (aQ xs)=true∧av (aH 0 (i:Int)) (aZ (i:Int) (aQ xs))=true∧aY .i64 (i:Int) 1=((i+1:Nat):Int):=⟨bV (by rw[aM];omega),pE h,by rw[bQ (by omega)];omega⟩
noncomputable def okB (xs:af) (i:Nat):Bool:=@decide (Nt.Leap.Fz (lA xs) (lT xs) i) (Classical.propDecidable _)
theorem yY {xs:af} {i:Nat}:okB xs i=true↔Nt.Leap.Fz (lA xs) (lT xs) i:=by unfold okB;exact @Ka _ (Classical.propDecidable _)
theorem KB {xs:af} {i:Nat} (h: ¬Nt.Leap.Fz (lA xs) (lT xs) i):okB xs i=false:=by rw[Bool.eq_false_iff,ne_eq,yY];exact h
noncomputable def IQ (xs:af):Nat→Nat→Bool
 |_,0=>true
 |i,k+1=>okB xs i&&IQ xs (i+1) k
theorem GH {xs:af}: ∀(k i:Nat),IQ xs i k=true↔ ∀j,i≤j→j<i+k→Nt.Leap.Fz (lA xs) (lT xs) j
 |0,i=>⟨fun _ j b a=>by omega,fun _=>rfl⟩
 |k+1,i=>by
  show(okB xs i&&IQ xs (i+1) k)=true↔_;rw[bB,yY,GH k (i+1)];constructor
  ·rintro⟨b,a⟩ j h3 c
   by_cases e:j=i
   ·subst e;exact b
   ·exact a j (by omega) (by omega)
  ·intro h
   exact⟨h i (by omega) (by omega),fun j b a=>h j (by omega) (by omega)⟩
theorem WX (xs:af):(IQ xs 0 xs.length&&decide (xs.length≤1000))=kU xs:=by
 rw[Kc,iq,bB,GH,Iy];exact⟨fun h=>⟨fun i b=>h.1 i (Ca _) (by omega),h.2⟩,fun h=>⟨fun j _ a=>h.1 j (by omega),h.2⟩⟩
theorem tail_at {xs:af} {i:Nat} (h:i<xs.length) (hl:xs.length≤1000000) (b: -1096193779200≤lA xs i∧lA xs i≤971890963199) (d:lT xs i=1∨lT xs i= -1) (a:i=0∨(-1096193779200≤lA xs (i-1)∧lA xs (i-1)≤971890963199)) (R:Bool) (K:V→Option V):
  sel (aZ 0 (i:Int)) (sel (av (aH 0 (bD .i64 (i:Int) 1)) (aZ (bD .i64 (i:Int) 1) (aQ xs))) (sel (aZ (bD .i64 (lA xs i) (asInt (aN (bq xs (bD .i64 (i:Int) 1)) 0))) 2419200) (K (V.bool false)) (K (V.bool R))) none) (K (V.bool R))=K (V.bool (okB xs i&&R)):=by
 by_cases f:i=0
 ·subst f
  rw[show aZ 0 ((0:Nat):Int)=false from rfl,gf,yY.2 ⟨b.1,b.2,d,.inl rfl⟩];rfl
 ·have g:bD .i64 (i:Int) 1=((i-1:Nat):Int):=by rw[eU (by omega)];omega
  rcases a with a|a
  ·exact absurd a f
  rw[bV (by omega),gt,g,pE (xs:=xs) (i:=i-1) (by omega),gt,show asInt (aN (bq xs ((i-1:Nat):Int)) 0)=lA xs (i-1) from rfl,eU (by omega)];by_cases c:2419200≤lA xs i-lA xs (i-1)
  ·rw[bC c,gf,yY.2 ⟨b.1,b.2,d,.inr c⟩];rfl
  ·rw[bV (by omega),gt,KB (fun e=>by obtain⟨_,_,_,e|e⟩:=e<;>omega)];rfl
theorem LJ (F:Nat) (xs:af) (b:Bool) (hl:xs.length≤1000000) (K:V→Option V): ∀(k i n:Nat),i+k=xs.length→k<n→(i=0∨(-1096193779200≤lA xs (i-1)∧lA xs (i-1)≤971890963199))→
  yU F [] n xs b xs (aQ xs) (i:Int) K=K (.bool (IQ xs i k&&decide (xs.length≤1000)))
 |0,i,n,g,h,d=>by
  obtain⟨n,rfl⟩: ∃m,n=m+1:=⟨n-1,by omega⟩
  (rw[uU];(conv=>zeta);rw[EB (by omega),gf])
  have:aH (aQ xs) 1000=(IQ xs i 0&&decide (xs.length≤1000)):=by
   rw[Kc,ax,aM];show _↔(true&&decide (xs.length≤1000))=true;rw[On,Iy];omega
  rw[this]
 |k+1,i,n,g,h,d=>by
  obtain⟨n,rfl⟩: ∃m,n=m+1:=⟨n-1,by omega⟩
  obtain⟨j,i2,i3⟩:=Ec (xs:=xs) (i:=i) (by omega) (by omega)
  (rw[uU];(conv=>zeta);rw[i2,j,gt,gt,i3,show asInt (aN (bq xs (i:Int)) 0)=lA xs i from rfl,show asInt (aN (bq xs (i:Int)) 1)=lT xs i from rfl])
  show _=K (.bool ((okB xs i&&IQ xs (i+1) k)&&decide (xs.length≤1000)));rw[Bool.and_assoc];by_cases a: -1096193779200≤lA xs i
  ·by_cases c:lA xs i≤971890963199
   ·rw[fU a,fU c,gt,gt,LJ F xs b hl K k (i+1) n (by omega) (by omega) (.inr (by rw[Nat.add_sub_cancel];exact⟨a,c⟩))]
    by_cases h3:lT xs i=1
    ·rw[cZ h3,gt];exact tail_at (by omega) hl ⟨a,c⟩ (.inl h3) d _ K
    ·rw[bJ h3,gf]
     by_cases f:lT xs i= -1
     ·rw[cZ f,gn,gf];exact tail_at (by omega) hl ⟨a,c⟩ (.inr f) d _ K
     ·rw[bJ f,show aS false=true from rfl,gt,KB (fun e=>by obtain⟨_,_,e|e,_⟩:=e<;>contradiction)];rfl
   ·rw[fU a,FM (by omega),gt,gf,KB (fun e=>c e.2.1)];rfl
  ·rw[FM (by omega),gf,KB (fun e=>a e.1)];rfl
theorem Av (x:V) (b:av (lC x) (aH (aQ (bY x)) 1000000)=true):ak fu 9 [x] (.bool (kU (bY x))):=by
 obtain⟨a,c⟩:=aR b;rw[ax,aM] at c;refine Mv a (aG jG Eb ((bY x).length+1) 2 ?_);rw[Ro];have:=LJ ((bY x).length+1) (bY x) false (by omega) some (bY x).length 0 ((bY x).length+1) (by omega) (by omega) (.inl rfl);rw[WX] at this;exact this
def YQ (xs c:af) (i:Nat):Prop:=c.length=xs.length+1∧ ∀j,j≤i→c.getD j .any=.int .i64 (Nt.Leap.cI (lT xs) j)
theorem Rw {xs c:af} (h:YQ xs c xs.length):c=qc xs:=by
 refine List.ext_getElem (by unfold qc;simp[h.1]) fun j a b=>?_
 have:=h.2 j (by have:=h.1;omega);rw[sQ,gQ a] at this;simp only[oQ] at this;rw[this,show(qc xs)[j]=.int .i64 (Nt.Leap.cI (lT xs) j) by simp[qc]]
theorem LK (F:Nat) (xs:af) (h:Nt.Leap.fA (lA xs) (lT xs) xs.length) (hl:xs.length≤1000) (K:V→Option V): ∀(k i n:Nat) (c:af),i+k=xs.length→k<n→YQ xs c i→
  yV F [] n xs c xs (aQ xs) (i:Int) K=K (.sl 2 [.int .i64] (some 3) (qc xs))
 |0,i,n,c,d,f,a=>by
  obtain⟨n,rfl⟩: ∃m,n=m+1:=⟨n-1,by omega⟩
  obtain rfl:i=xs.length:=by omega
  (rw[uV];(conv=>zeta);rw[EB rfl,gf,Rw a])
 |k+1,i,n,c,d,f,a=>by
  obtain⟨n,rfl⟩: ∃m,n=m+1:=⟨n-1,by omega⟩
  obtain⟨g,i2,i3⟩:=Ec (xs:=xs) (i:=i) (by omega) (by omega);have b:=a.1;have l:bq c (i:Int)=.int .i64 (Nt.Leap.cI (lT xs) i):=by rw[uo];exact a.2 i (iA _)
  have p:=Nt.Leap.vL h i (by omega);have r:=(h i (by omega)).2.2.1
  (rw[uV];(conv=>zeta);rw[i2,g,gt,gt,pE (xs:=c) (i:=i) (by omega),gt,i3,pE (xs:=c) (i:=i+1) (by omega),gt,l])
  have o:aY .i64 (asInt (aN (V.int .i64 (Nt.Leap.cI (lT xs) i)) 0)) (asInt (aN (bq xs (i:Int)) 1))=Nt.Leap.cI (lT xs) (i+1):=by
   show aY .i64 (Nt.Leap.cI (lT xs) i) (lT xs i)=Nt.Leap.cI (lT xs) i+lT xs i;rw[bQ (by omega)]
  rw[o];refine LK F xs h hl K k (i+1) n _ (by omega) (by omega) ⟨by unfold yo;rw[Ol];exact b,fun j q=>?_⟩;unfold yo;rw[sQ,List.getElem?_set];by_cases e:i+1=j
  ·subst e
   rw[if_pos (by omega),if_pos (by show(((i+1:Nat):Int)).toNat<c.length;omega)];rfl
  ·rw[if_neg (by omega),←sQ]
   exact a.2 j (by omega)
theorem Rx (x:V) (d:av (lC x) (kU (bY x))=true):ak fu 13 [x] (.sl 2 [.int .i64] (some 0) (qc (bY x))):=by
 obtain⟨c,a⟩:=aR d;rw[iq] at a;obtain⟨a,h3⟩:=a;refine Mv c (lab0 (L:=3) ?_);refine yC (args:=[V.old (V.sl 30 [Kd.int .i64,Kd.int .i64] none (bY x))]) jG Eb ((bY x).length+1) 2 ?_
 (rw[Rp];(conv=>zeta))
 have b:aY .i64 (aQ (bY x)) 1=(((bY x).length+1:Nat):Int):=by rw[aM,bQ (by omega)];omega
 rw[b,show av (aH 0 (((bY x).length+1:Nat):Int)) (av (aH (((bY x).length+1:Nat):Int) (((bY x).length+1:Nat):Int)) (aH (((bY x).length+1:Nat):Int) 16777216))=true by rw[ay,ay,ax,ax,ax];omega,gt];refine LK _ _ a h3 some (bY x).length 0 _ _ (by omega) (by omega) ⟨by unfold vB;rw[XJ];omega,fun j e=>?_⟩;obtain rfl:j=0:=by omega
 unfold vB;rw[show((((bY x).length+1:Nat):Int)).toNat=(bY x).length+1 from by omega];rfl
theorem GI {xs:af} (h:Nt.Leap.fA (lA xs) (lT xs) xs.length) (t:Int):Nt.Leap.Split (lA xs) xs.length t (Nt.Leap.pos (lA xs) xs.length t xs.length):=
 Nt.Leap.Du h t xs.length (iA _) fun j a b=>by omega
theorem half (a b:Nat) (h:a+b≤4000000):gP .i64 (Mi .u64 (gP .u64 (aY .i64 (a:Int) (b:Int))) 1)=(((a+b)/2:Nat):Int):=by
 rw[bQ (by omega),K6 (by omega)];have e:Mi .u64 ((a:Int)+(b:Int)) 1=((a:Int)+(b:Int)).fdiv 2:=rfl;rw[e,Int.fdiv_eq_ediv_of_nonneg _ (by omega),Ph (by omega)];omega
theorem KD (a:Int):ieq a a=true:=cZ rfl
theorem Uj (F:Nat) (xs:af) (t:Int) (b:Bool) {p:Nat} (j:Nt.Leap.Split (lA xs) xs.length (t-1) p) (hl:xs.length≤1000000): ∀(d c f n:Nat),f-c≤d→d<n→c≤p→p≤f→f≤xs.length→
  tQ F [] n xs t b (aQ xs) (c:Int) (f:Int) some=some (.tup [.int .i64 (p:Int),.bool (decide ((p:Int)<(xs.length:Int)∧lA xs p=t))]):=by
 intro d;induction d with
 |zero=>
  intro c f n s v l g h3;obtain⟨n,rfl⟩: ∃m,n=m+1:=⟨n-1,by omega⟩
  obtain rfl:c=p:=by omega
  (rw[uW];(conv=>zeta);rw[bC (a:=(c:Int)) (b:=(f:Int)) (by omega),gf])
  by_cases h:c<xs.length
  ·rw[show aZ (c:Int) (aQ xs)=true from bV (by rw[aM];omega),gt,show av (aH 0 (c:Int)) true=true from by rw[ay,ax];exact⟨by omega,rfl⟩,gt,KD,gn,gf,KD,gn,gf,show asInt (aN (bq xs (c:Int)) 0)=lA xs c from rfl]
   have:=j.2.2 c (iA _) h;rw[bC (by omega),gf];by_cases e:lA xs c=t
   ·rw[bC (by omega),gf,DD (show((c:Int)<(xs.length:Int)∧lA xs c=t) from⟨by omega,e⟩)];rfl
   ·rw[bV (by omega),gt,yI (show¬((c:Int)<(xs.length:Int)∧lA xs c=t) from fun q=>e q.2)];rfl
  ·rw[show aZ (c:Int) (aQ xs)=false from bC (by rw[aM];omega),gf,yI (show¬((c:Int)<(xs.length:Int)∧lA xs c=t) from fun q=>h (by omega))]
 |succ d k=>
  intro c f n s v l g h3;by_cases u:c<f
  ·obtain⟨n,rfl⟩: ∃m,n=m+1:=⟨n-1,by omega⟩
   have r:(c+f)/2<xs.length:=by omega
   (rw[uW];(conv=>zeta);rw[bV (a:=(c:Int)) (b:=(f:Int)) (by omega),gt,half c f (by omega),pE (xs:=xs) (i:=(c+f)/2) r,gt,KD,gn,gf,KD,gn,gf,show asInt (aN (bq xs (((c+f)/2:Nat):Int)) 0)=lA xs ((c+f)/2) from rfl])
   by_cases w:lA xs ((c+f)/2)<t
   ·have o:(c+f)/2<p:=by
     refine Classical.byContradiction fun e=>?_
     have:=j.2.2 ((c+f)/2) (by omega) r;omega
    rw[bV w,gt,bQ (by omega),show((((c+f)/2:Nat):Int)+1)=(((c+f)/2+1:Nat):Int) by omega];exact k _ _ n (by omega) (by omega) (by omega) g h3
   ·have o:p≤(c+f)/2:=by
     refine Classical.byContradiction fun e=>?_
     have:=j.2.1 ((c+f)/2) (by omega);omega
    rw[bC (by omega),gf,oh,ite_self];exact k _ _ n (by omega) (by omega) l o (by omega)
  ·exact k c f n (by omega) (by omega) l g h3
theorem Ry (o:Option Nat) (xs:af) (t:Int) (i:av (kU xs) (Yg t)=true):ak fu 22 [.sl 30 [.int .i64,.int .i64] o xs,.int .i64 t,.fn 23 []] (.tup [.int .i64 (UY xs t),.bool (lpQ xs t)]):=by
 obtain⟨e,k⟩:=aR i;rw[iq] at e;have d:=GI e.1 (t-1);have b:ak fu 22 [.sl 30 [.int .i64,.int .i64] none xs,.int .i64 t,.fn 23 []] (.tup [.int .i64 (UY xs t),.bool (lpQ xs t)]):=by
  refine aG jG Eb (xs.length+2) 3 ?_;rw[Rq];have:=Uj (xs.length+2) xs t false d (by omega) xs.length 0 xs.length (xs.length+2) (by omega) (by omega) (by omega) d.1 (iA _);exact this
 intro G w vs g f c;obtain⟨a,j,rfl,h,c⟩:=c.cons_inv;exact b G w _ g f (.cons (jU (o:=o) h) c)
theorem WY:dP fu lp1:=by
 unfold lp1;refine dP.cons (fun args r h=>?_) dP.nil;all_goals (revert h;intro h;first|unfold Vo at h)
 all_goals (split at h;rotate_left; · cases h)
 all_goals (simp only[aF,bP] at h;obtain⟨a,rfl⟩:=h)
 ·exact Ry _ _ _ a
theorem yZ (xs:af) {p:Nat} (h:p≤xs.length):asInt (aN (bq (qc xs) (p:Int)) 0)=Nt.Leap.cI (lT xs) p:=by
 rw[uo];unfold qc;simp[sQ,show p<xs.length+1 by omega];rfl
theorem y5 (xs:af):(qc xs).length=xs.length+1:=by unfold qc;simp
theorem Rz (x:V) (o:Option Nat) (e:af) (t:Int) (u:av (av (lC x) (kU (bY x))) (av (VH (bY x) e) (UX t))=true):ak fu 12 [x,.sl 2 [.int .i64] o e,.int .i64 t] (.int .i64 (iP (bY x) t)):=by
 obtain⟨f,m⟩:=aR u;obtain⟨f,h3⟩:=aR f;obtain⟨j,s⟩:=aR m;rw[LG] at j;rw[LH] at s;have d:ak fu 12 [.sl 30 [.int .i64,.int .i64] none (bY x),.sl 2 [.int .i64] none e,.int .i64 t] (.int .i64 (iP (bY x) t)):=by
  generalize bY x=xs at*;subst j;obtain⟨k,hl⟩:=iq.1 h3;refine aG jG WY 5 2 ?_;have g:=GI k t
  (rw[Rs];(conv=>zeta);rw[bQ (by omega),h3,Ui.2 (by omega),show UY xs (t+1)=((Nt.Leap.pos (lA xs) xs.length t xs.length:Nat):Int) from by unfold UY;rw[show t+1-1=t by omega]])
  generalize Nt.Leap.pos (lA xs) xs.length t xs.length=p at*;have c:=g.1;have h:=Nt.Leap.vL k p c;rw[show av true true=true from rfl,gt,pE (xs:=qc xs) (i:=p) (by rw[y5];omega),gt,yZ xs c,bQ (by omega)];unfold iP;rw[Nt.Leap.vD g]
 refine Mv f fun G w vs q n c=>?_
 obtain⟨a,l,rfl,r,c⟩:=c.cons_inv;obtain⟨b,l,rfl,h,c⟩:=c.cons_inv;exact d G w _ q n (.cons r (.cons (jU (o:=o) h) c))
theorem Jk:dP fu lp2:=by
 unfold lp2;refine dP.cons (fun args r h=>?_) (dP.cons (fun args r h=>?_) (dP.cons (fun args r h=>?_) dP.nil));all_goals (revert h;intro h;first|unfold zF at h|unfold Vp at h|unfold Vq at h)
 all_goals (split at h;rotate_left; · cases h)
 all_goals (simp only[aF,bP] at h;obtain⟨a,rfl⟩:=h)
 ·exact Av _ a
 ·exact Rx _ a
 ·exact Rz _ _ _ _ a
noncomputable def wN (xs:af) (t:Int):Int:=if kU xs=true then if -1096193779200≤t∧t≤971890963199 then 0 else 1 else 4
noncomputable def sP (xs:af) (t:Int):Int:=if wN xs t=0 then iP xs t else 0
theorem GJ (xs:af):VH xs (qc xs)=true:=LG.2 rfl
theorem O0 {t:Int} (h: -4000000000000≤t∧t≤4000000000000):UX t=true:=LH.2 h
theorem Uk (xs:af) (t:Int) (hl:xs.length≤1000000):ak fu 5 [.sl 30 [.int .i64,.int .i64] none xs,.int .i64 t] (.tup [.int .i64 (sP xs t),.int .i64 (wN xs t)]):=by
 refine aG jG Jk 5 2 ?_
 (rw[Rt];(conv=>zeta);rw[GJ,show aH (aQ xs) 1000000=true from fU (by rw[aM];omega)])
 unfold sP wN
 cases hB:kU xs with
 |false=>rfl
 |true=>
  rw[gB,gB,gB,gt,gn,gf,if_pos rfl];by_cases b: -1096193779200≤t
  ·by_cases c:t≤971890963199
   ·rw[fU b,fU c,show(if -1096193779200≤t∧t≤971890963199 then(0:Int) else 1)=0 from if_pos ⟨b,c⟩,O0 (by omega)];rfl
   ·rw[fU b,FM (a:=t) (by omega),show(if -1096193779200≤t∧t≤971890963199 then(0:Int) else 1)=1 from if_neg (fun e=>c e.2)];rfl
  ·rw[FM (a:= -1096193779200) (by omega),show(if -1096193779200≤t∧t≤971890963199 then(0:Int) else 1)=1 from if_neg (fun e=>b e.1)];rfl
noncomputable def sV (xs:af) (n:Int):Int:=if kU xs=true then if n<iP xs (-1096193779200)∨iP xs 971890963199+1<n then 1 else 0 else 4
noncomputable def Cc (xs:af) (n:Int):Int:=if sV xs n=0 then DJ xs n else 0
noncomputable def BB (xs:af) (n:Int):Bool:=if sV xs n=0 then aZ (iP xs (DJ xs n)) n else false
theorem wH (a b:Int):sW a b=Nt.Leap.least a b:=by unfold sW Nt.Leap.least;omega
theorem PR (F:Nat) (xs:af) (n:Int) (h:Nt.Leap.fA (lA xs) (lT xs) xs.length) (hl:xs.length≤1000) (i:Nat) (k:i≤xs.length) (p:iP xs (-1096193779200)≤n) (r:n≤iP xs 971890963199+1)
  (b:i=0∨lA xs (i-1)+Nt.Leap.cI (lT xs) i≤n) (s: ∀j,i≤j→j<xs.length→n<lA xs j+Nt.Leap.cI (lT xs) (j+1)):
  sel (av (aH 0 (i:Int)) (aZ (i:Int) (aQ (qc xs)))) (sel (aZ (i:Int) (aQ xs)) (sel (av (aH 0 (i:Int)) (aZ (i:Int) (aQ xs))) (sel (av (aH 0 (i:Int)) (aZ (i:Int) (aQ (qc xs))))
   (some (V.tup [V.int .i64 (sW (sW (bD .i64 n (asInt (aN (bq (qc xs) (i:Int)) 0))) (bD .i64 (asInt (aN (bq xs (i:Int)) 0)) 1)) 971890963199),V.bool (aZ (aY .i64 (sW (sW (bD .i64 n (asInt (aN (bq (qc xs) (i:Int)) 0))) (bD .i64 (asInt (aN (bq xs (i:Int)) 0)) 1)) 971890963199) (asInt (aN (bq (qc xs) (i:Int)) 0))) n),V.int .i64 0])) none) none)
   (sel (av (aH 0 (i:Int)) (aZ (i:Int) (aQ (qc xs)))) (some (V.tup [V.int .i64 (sW (bD .i64 n (asInt (aN (bq (qc xs) (i:Int)) 0))) 971890963199),V.bool (aZ (aY .i64 (sW (bD .i64 n (asInt (aN (bq (qc xs) (i:Int)) 0))) 971890963199) (asInt (aN (bq (qc xs) (i:Int)) 0))) n),V.int .i64 0])) none)) none
  =some (.tup [.int .i64 (DJ xs n),.bool (aZ (iP xs (DJ xs n)) n),.int .i64 0]):=by
 have hL:=Nt.Leap.Uh h k b s p;have c:=zW h hL;have A:=Nt.Leap.vL h i k;have w:=Nt.Leap.pz h (-1096193779200);have u:=Nt.Leap.pz h 971890963199;change Nt.Leap.G (lA xs) (lT xs) xs.length (-1096193779200)≤n at p
 change n≤Nt.Leap.G (lA xs) (lT xs) xs.length 971890963199+1 at r
 have l:av (aH 0 (i:Int)) (aZ (i:Int) (aQ (qc xs)))=true:=pE (xs:=qc xs) (i:=i) (by rw[y5];omega);rw[l,gt,gt,gt,yZ xs k,eU (by omega),show asInt (aN (bq xs (i:Int)) 0)=lA xs i from rfl,wH,wH,wH];have d: ∀t,t=DJ xs n→(i=0∨lA xs (i-1)≤t)→(i<xs.length→t<lA xs i)→aY .i64 t (Nt.Leap.cI (lT xs) i)=iP xs t:=fun t m f q=>by
  have v:Nt.Leap.Split (lA xs) xs.length t i:=⟨k,fun j z=>by
   rcases f with f|f
   ·omega
   ·by_cases e:j=i-1
    ·rw[e];exact f
    ·have:=Nt.Leap.gap h (i-1) j (by omega) (by omega);omega,fun j x h3=>by
   by_cases e:j=i
   ·rw[e];exact q (by omega)
   ·have:=Nt.Leap.gap h j i (by omega) h3;have:=q (by omega);omega⟩
  have:=Nt.Leap.vD v (T:=lT xs);unfold iP;rw[this];have y:=Nt.Leap.pz h t;have:t≤971890963199:=by rw[m,c];exact hL.1
  have h3:n-2002≤t∨True:=.inr trivial;by_cases e: -5000000000000≤t
  ·exact bQ (by omega)
  ·exfalso
   have g:=hL.2.2;rw[←c,←m] at g;rcases g with g|g
   ·omega
   ·have:=Nt.Leap.pz h (t+1);omega
 by_cases a:i<xs.length
 ·have o:=h i a
  rw[if_pos a] at c;rw[pE a,show aZ (i:Int) (aQ xs)=true from bV (by rw[aM];omega),gt,gt,eU (by have:=o.1;have:=o.2.1;omega),←c];rw[d _ rfl (by
   rcases b with b|b
   ·exact .inl b
   ·rw[c]
    have:=Nt.Leap.gap h i (i-1);by_cases e:i=0
    ·exact .inl e
    ·have:=this (by omega) a
     have:=(h (i-1) (by omega)).2.1;refine .inr ?_;unfold Nt.Leap.least;(repeat' split)<;>omega) (fun _=>by rw[c];unfold Nt.Leap.least;(repeat' split)<;>omega)]
 ·rw[if_neg a] at c
  rw[show aZ (i:Int) (aQ xs)=false from bC (by rw[aM];omega),gf,←c];rw[d _ rfl (by
   rcases b with b|b
   ·exact .inl b
   ·rw[c]
    by_cases e:i=0
    ·exact .inl e
    ·have:=(h (i-1) (by omega)).2.1
     refine .inr ?_;unfold Nt.Leap.least;(repeat' split)<;>omega) (fun e=>absurd e a)]
theorem LM (F:Nat) (xs:af) (n:Int) (b:Bool) (h:Nt.Leap.fA (lA xs) (lT xs) xs.length) (hl:xs.length≤1000) (g:iP xs (-1096193779200)≤n) (f:n≤iP xs 971890963199+1): ∀(i m:Nat),i≤xs.length→i<m→
  (∀j,i≤j→j<xs.length→n<lA xs j+Nt.Leap.cI (lT xs) (j+1))→
  yX F [] m xs n b (qc xs) (i:Int) some=some (.tup [.int .i64 (DJ xs n),.bool (aZ (iP xs (DJ xs n)) n),.int .i64 0])
 |0,m,c,p,d=>by
  obtain⟨m,rfl⟩: ∃k,m=k+1:=⟨m-1,by omega⟩
  (rw[uX];(conv=>zeta);rw[show aZ 0 ((0:Nat):Int)=false from rfl,gf])
  exact PR F xs n h hl 0 c g f (.inl rfl) d
 |i+1,m,c,p,d=>by
  obtain⟨m,rfl⟩: ∃k,m=k+1:=⟨m-1,by omega⟩
  have s:=Nt.Leap.vL h (i+1) c;have l:=h i (by omega);have q:bD .i64 ((i+1:Nat):Int) 1=(i:Int):=by rw[eU (by omega)];omega
  (rw[uX];(conv=>zeta);rw[bV (a:=0) (b:=((i+1:Nat):Int)) (by omega),gt,q,pE (xs:=xs) (i:=i) (by omega),gt,show av (aH 0 ((i+1:Nat):Int)) (aZ ((i+1:Nat):Int) (aQ (qc xs)))=true from pE (xs:=qc xs) (i:=i+1) (by rw[y5];omega),gt,yZ xs c,show asInt (aN (bq xs (i:Int)) 0)=lA xs i from rfl,bQ (by have:=l.1;have:=l.2.1;omega)])
  by_cases e:n<lA xs i+Nt.Leap.cI (lT xs) (i+1)
  ·rw[bV e,gt]
   refine LM F xs n b h hl g f i m (by omega) (by omega) fun j r h3=>?_
   by_cases o:j=i
   ·rw[o];exact e
   ·exact d j (by omega) h3
  ·rw[bC (by omega),gf]
   have:=PR F xs n h hl (i+1) c g f (.inr (by rw[Nat.add_sub_cancel];omega)) d;rw[show av (aH 0 ((i+1:Nat):Int)) (aZ ((i+1:Nat):Int) (aQ (qc xs)))=true from pE (xs:=qc xs) (i:=i+1) (by rw[y5];omega),yZ xs c] at this;exact this
theorem Ul (xs:af) (n:Int) (hl:xs.length≤1000000):ak fu 6 [.sl 30 [.int .i64,.int .i64] none xs,.int .i64 n] (.tup [.int .i64 (Cc xs n),.bool (BB xs n),.int .i64 (sV xs n)]):=by
 refine aG jG Jk (xs.length+1) 2 ?_
 (rw[Ru];(conv=>zeta);rw[GJ,show aH (aQ xs) 1000000=true from fU (by rw[aM];omega)])
 unfold Cc BB sV
 cases hB:kU xs with
 |false=>rfl
 |true=>
  obtain⟨c,d⟩:=iq.1 hB;have f:971890963199-xs.length≤iP xs 971890963199∧iP xs 971890963199≤971890963199+xs.length:=Nt.Leap.pz c _;rw[O0 (by omega),O0 (by omega),bQ (by omega)];simp only[gB,gt,gn,gf,if_true];by_cases b:n<iP xs (-1096193779200)
  ·rw[bV b,gt,show(if n<iP xs (-1096193779200)∨iP xs 971890963199+1<n then(1:Int) else 0)=1 from if_pos (.inl b)];rfl
  ·rw[bC (by omega),gf]
   by_cases a:iP xs 971890963199+1<n
   ·rw[bV a,gt,show(if n<iP xs (-1096193779200)∨iP xs 971890963199+1<n then(1:Int) else 0)=1 from if_pos (.inr a)];rfl
   ·rw[bC (by omega),gf,show(if n<iP xs (-1096193779200)∨iP xs 971890963199+1<n then(1:Int) else 0)=0 from if_neg (fun e=>e.elim b a)]
    exact LM _ xs n false c d (by omega) (by omega) xs.length _ (iA _) (by omega) fun j h3 g=>by omega
end Nt.Ev.YtcmockbdkppglaaDoor.Lp
