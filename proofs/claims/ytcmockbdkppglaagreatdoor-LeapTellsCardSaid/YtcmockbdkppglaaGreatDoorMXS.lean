/-
  Leaps: how many seconds have gone by, and the second of a number.
-/
import Derived.Test.YtcmockbdkppglaaGreatDoorMK
import Derived.Test.YtcmockbdkppglaaGreatDoorMO
import Derived.Test.YtcmockbdkppglaaGreatDoorMQ
set_option linter.all false
set_option maxRecDepth 100000
namespace Nt.Leap
def cI (T:Nat→Int):Nat→Int
 |0=>0
 |i+1=>cI T i+T i
def DJ (A T:Nat→Int) (t:Int):Nat→Nat→Int→Int
 |0,_,a=>a
 |k+1,i,a=>DJ A T t k (i+1) (if A i≤t then a+T i else a)
def Ia (A T:Nat→Int) (i:Nat):Prop:= -1096193779200≤A i∧A i≤971890963199∧(T i=1∨T i= -1)∧(i=0∨2419200≤A i-A (i-1))
def iU (A T:Nat→Int) (n:Nat):Prop:=∀i,i<n→Ia A T i
def pos (A:Nat→Int) (n:Nat) (t:Int):Nat→Nat
 |0=>0
 |k+1=>if A k≤t then k+1 else pos A n t k
variable {A T:Nat→Int} {n:Nat}
theorem gap (h:iU A T n): ∀j i,i<j→j<n→A i+2419200≤A j:=by
 intro j;induction j with
 |zero=>intro i d;omega
 |succ j c=>
  intro i d b;have a:=h (j+1) b;obtain⟨_,_,_,h3⟩:=a;have h3:2419200≤A (j+1)-A j:=by
   rcases h3 with h3|h3
   ·omega
   ·simpa using h3
  by_cases e:i=j
  ·subst e;omega
  ·have:=c i (by omega) (by omega);omega
def Split (A:Nat→Int) (n:Nat) (t:Int) (p:Nat):Prop:=p≤n∧(∀j,j<p→A j≤t)∧ ∀j,p≤j→j<n→t<A j
theorem Cq (h:iU A T n) (t:Int): ∃p,Split A n t p:=by
 have c: ∀k,k≤n→ ∃p,p≤k∧(∀j,j<p→A j≤t)∧ ∀j,p≤j→j<k→t<A j:=by
  intro k;induction k with
  |zero=>exact fun _=>⟨0,iI _,fun j b=>absurd b (X7 _),fun j _ b=>absurd b (X7 _)⟩
  |succ k g=>
   intro l;by_cases e:A k≤t
   ·refine⟨k+1,iI _,fun j b=>?_,fun j f a=>by omega⟩
    by_cases d:j=k
    ·subst d;exact e
    ·have:=gap h k j (by omega) (by omega);omega
   ·obtain⟨p,f,a,h3⟩:=g (by omega)
    refine⟨p,by omega,a,fun j i m=>?_⟩;by_cases d:j=k
    ·subst d;omega
    ·exact h3 j i (by omega)
 obtain⟨p,f,a,h3⟩:=c n (iI _);exact⟨p,f,a,h3⟩
theorem Ja (t:Int): ∀(k i:Nat) (a:Int),(∀j,i≤j→j<i+k→t<A j)→DJ A T t k i a=a
 |0,_,_,_=>rfl
 |k+1,i,a,h=>by
  unfold DJ;have:=h i (iI _) (by omega);rw[if_neg (by omega),Ja t k (i+1) a fun j c b=>h j (by omega) (by omega)]
theorem Ff (t:Int) (p:Nat) (c: ∀j,p≤j→j<n→t<A j) (d:p≤n): ∀(k i:Nat) (a:Int),(∀j,i≤j→j<p→A j≤t)→i+k=n→i≤p→DJ A T t k i a=a+cI T p-cI T i
 |0,i,a,h,g,f=>by
  have:i=p:=by omega
  subst this;unfold DJ;omega
 |k+1,i,a,h,g,f=>by
  by_cases e:i=p
  ·subst e
   rw[Ja t (k+1) i a fun j h3 b=>c j h3 (by omega)];omega
  ·unfold DJ
   rw[if_pos (h i (iI _) (by omega)),Ff t p c d k (i+1) _ (fun j h3 b=>h j (by omega) b) (by omega) (by omega)];show a+T i+cI T p-(cI T i+T i)=_;omega
theorem Zs {t:Int} {p:Nat} (h:Split A n t p) (a:Int):DJ A T t n 0 a=a+cI T p:=by
 obtain⟨c,b,h3⟩:=h;rw[Ff t p h3 c n 0 a (fun j _ h=>b j h) (by omega) (by omega)];show a+cI T p-0=_;omega
def G (A T:Nat→Int) (n:Nat) (t:Int):Int:=DJ A T t n 0 t
theorem FH {t:Int} {p:Nat} (h:Split A n t p):G A T n t=t+cI T p:=Zs h t
theorem xS (h:iU A T n): ∀p,p≤n→-(p:Int)≤cI T p∧cI T p≤p
 |0,_=>⟨by show _≤(0:Int);omega,by show(0:Int)≤_;omega⟩
 |p+1,a=>by
  have:=xS h p (by omega);obtain⟨_,_,h3,_⟩:=h p (by omega);show _≤cI T p+T p∧cI T p+T p≤_;omega
theorem Zt (h:iU A T n): ∀q p,p≤q→q≤n→-((q:Int)-p)≤cI T q-cI T p∧cI T q-cI T p≤(q:Int)-p:=by
 intro q;induction q with
 |zero=>
    intro p c b;have:p=0:=by omega
    subst this;omega
 |succ q a=>
  intro p c b;by_cases e:p=q+1
  ·subst e;omega
  ·have:=a p (by omega) (by omega)
   obtain⟨_,_,h3,_⟩:=h q (by omega);show _≤cI T q+T q-cI T p∧cI T q+T q-cI T p≤_;omega
theorem dist (h:iU A T n): ∀q p,p<q→q<n→A p+((q:Int)-p)≤A q:=by
 intro q;induction q with
 |zero=>intro p c;omega
 |succ q a=>
  intro p c b;have:=gap h (q+1) q (by omega) b;by_cases e:p=q
  ·subst e;omega
  ·have:=a p (by omega) (by omega);omega
theorem Si (h:iU A T n) {s t:Int} (g:s≤t):G A T n s≤G A T n t:=by
 obtain⟨p,b⟩:=Cq h s;obtain⟨q,c⟩:=Cq h t;rw[FH b,FH c];obtain⟨o,f,d⟩:=b;obtain⟨j,m,k⟩:=c;have a:p≤q:=by
  by_cases e:p≤q
  ·exact e
  ·have:=f q (by omega)
   have:=k q (iI _) (by omega);omega
 have u:=Zt h q p a j;by_cases e:p=q
 ·subst e;omega
 ·have r:=d p (iI _) (by omega)
  have i:=m (q-1) (by omega);by_cases l:p=q-1
  ·rw[←l] at i;omega
  ·have:=dist h (q-1) p (by omega) (by omega)
   omega
theorem qB (h:iU A T n) (t:Int):t-n≤G A T n t∧G A T n t≤t+n:=by
 obtain⟨p,a⟩:=Cq h t;rw[FH a];have:=xS h p a.1;have:=a.1;omega
def Last (A T:Nat→Int) (n:Nat) (m t:Int):Prop:=t≤971890963199∧G A T n t≤m∧(t=971890963199∨m<G A T n (t+1))
theorem last_one (h:iU A T n) {m s t:Int} (e:Last A T n m s) (d:Last A T n m t):s=t:=by
 obtain⟨g,i,b⟩:=e;obtain⟨f,j,c⟩:=d;rcases Int.lt_trichotomy s t with a|a|a
 ·rcases b with rfl|b
  ·omega
  ·have:=Si h (show s+1≤t by omega);omega
 ·exact a
 ·rcases c with rfl|c
  ·omega
  ·have:=Si h (show t+1≤s by omega);omega
def least (x y:Int):Int:=if x≤y then x else y
theorem WJ (h:iU A T n) {m:Int} {i:Nat} (v:i≤n) (y:i=0∨A (i-1)+cI T i≤m) (w: ∀j,i≤j→j<n→m<A j+cI T (j+1)) (D:G A T n (-1096193779200)≤m):
  Last A T n m (least (if i<n then least (m-cI T i) (A i-1) else m-cI T i) 971890963199):=by
 generalize p:least (if i<n then least (m-cI T i) (A i-1) else m-cI T i) 971890963199=t;have o:t≤971890963199:=by rw[←p];unfold least;split<;>omega
 have k:i<n→t≤A i-1:=by
  intro d;rw[←p,if_pos d];unfold least;(repeat' split)<;>omega
 have F:t≤m-cI T i:=by
  rw[←p];unfold least;(repeat' split)<;>omega
 have f:t=971890963199∨(i<n∧t=A i-1)∨t=m-cI T i:=by
  rw[←p];unfold least;(repeat' split)<;>omega
 have s:i=0∨A (i-1)≤t:=by
  by_cases e:i=0
  ·exact .inl e
  ·right
   have a:=h (i-1) (by omega);obtain⟨_,E,_,_⟩:=a;have C:A (i-1)+cI T i≤m:=y.elim (fun x=>absurd x e) id;rcases f with l|⟨l,B⟩|l
   ·omega
   ·have:=gap h i (i-1) (by omega) l;omega
   ·omega
 have g:Split A n t i:=by
  refine⟨v,fun j q=>?_,fun j r h3=>?_⟩
  ·rcases s with e|e
   ·omega
   ·by_cases c:j=i-1
    ·subst c;exact e
    ·have:=gap h (i-1) j (by omega) (by omega);omega
  ·have d:i<n:=by omega
   have:=k d;by_cases c:j=i
   ·subst c;omega
   ·have:=gap h j i (by omega) h3;omega
 refine⟨o,by rw[FH g];omega,?_⟩;rcases f with e|⟨l,B⟩|e
 ·exact .inl e
 ·right
  have b:Split A n (t+1) (i+1):=by
   refine⟨by omega,fun j q=>?_,fun j r h3=>?_⟩
   ·by_cases c:j=i
    ·subst c;omega
    ·have:=g.2.1 j (by omega);omega
   ·have:=gap h j i (by omega) h3;omega
  rw[FH b];have:=w i (iI _) l;omega
 ·by_cases z:t=971890963199
  ·exact .inl z
  right
  by_cases u:i<n∧A i≤t+1
  ·have:=k u.1
   have b:Split A n (t+1) (i+1):=by
    refine⟨by omega,fun j q=>?_,fun j r h3=>?_⟩
    ·by_cases c:j=i
     ·subst c;omega
     ·have:=g.2.1 j (by omega);omega
    ·have:=gap h j i (by omega) h3;omega
   rw[FH b];have:=w i (iI _) u.1;omega
  ·have b:Split A n (t+1) i:=by
    refine⟨v,fun j q=>by have:=g.2.1 j q;omega,fun j r h3=>?_⟩;by_cases c:j=i
    ·subst c
     have: ¬A j≤t+1:=fun x=>u ⟨h3,x⟩
     omega
    ·have:=gap h j i (by omega) h3
     have:=g.2.2 i (iI _) (by omega);omega
   rw[FH b];omega
def M0 (A T:Nat→Int) (n:Nat) (m:Int):Nat→Int→Int
 |0,t=>t
 |k+1,t=>if m<G A T n t then M0 A T n m k (t-1) else t
theorem Fg {m:Int} (h:iU A T n): ∀(k:Nat) (t:Int),t≤971890963199→t-(m-n)<k→(t=971890963199∨m<G A T n (t+1))→Last A T n m (M0 A T n m k t)
 |0,t,b,h3,a=>by
  have:=qB h t;exact⟨b,by show G A T n t≤m;omega,a⟩
 |k+1,t,b,h3,a=>by
  unfold M0;split
  next e=>exact Fg h k (t-1) (by omega) (by omega) (.inr (by rw[show t-1+1=t by omega];exact e))
  next e=>exact⟨b,by omega,a⟩
theorem Fh (h:iU A T n) (t:Int): ∀k,k≤n→(∀j,k≤j→j<n→t<A j)→Split A n t (pos A n t k)
 |0,c,a=>⟨D9 _,fun j h=>absurd h (X7 _),fun j _ h3=>a j (D9 _) h3⟩
 |k+1,c,a=>by
  unfold pos;split
  next e=>
   refine⟨c,fun j d=>?_,a⟩;by_cases b:j=k
   ·subst b;exact e
   ·have:=gap h k j (by omega) (by omega);omega
  next e=>
   refine Fh h t k (by omega) fun j d h3=>?_
   by_cases b:j=k
   ·subst b;omega
   ·exact a j (by omega) h3
end Nt.Leap
namespace Nt.Ev.YtcmockbdkppglaaGreatDoor.Lp
open Go Nt Nt.Num
noncomputable def lA (xs:af) (i:Nat):Int:=asInt (aL (bf xs (i:Int)) 0)
noncomputable def lT (xs:af) (i:Nat):Int:=asInt (aL (bf xs (i:Int)) 1)
noncomputable def j6 (xs:af):Bool:=@decide (Nt.Leap.iU (lA xs) (lT xs) xs.length∧xs.length≤1000) (Classical.propDecidable _)
theorem jg {xs:af}:j6 xs=true↔Nt.Leap.iU (lA xs) (lT xs) xs.length∧xs.length≤1000:=by unfold j6;exact @Ol _ (Classical.propDecidable _)
noncomputable def jR (xs:af) (t:Int):Int:=Nt.Leap.G (lA xs) (lT xs) xs.length t
noncomputable def rH (xs:af):af:=(List.range (xs.length+1)).map fun i=> .int .i64 (Nt.Leap.cI (lT xs) i)
noncomputable def Yq (xs a:af):Bool:=@decide (a=rH xs) (Classical.propDecidable _)
theorem NW {xs a:af}:Yq xs a=true↔a=rH xs:=by unfold Yq;exact @Ol _ (Classical.propDecidable _)
def MJ (t:Int):Bool:=decide (-4000000000000≤t∧t≤4000000000000)
theorem Gr {t:Int}:MJ t=true↔-4000000000000≤t∧t≤4000000000000:=by unfold MJ;simp
def rgC (t:Int):Bool:=decide (-5000000000000≤t∧t≤5000000000000)
theorem WK {t:Int}:rgC t=true↔-5000000000000≤t∧t≤5000000000000:=by unfold rgC;simp
noncomputable def Xu (xs:af) (t:Int):Int:=((Nt.Leap.pos (lA xs) xs.length (t-1) xs.length:Nat):Int)
noncomputable def lpQ (xs:af) (t:Int):Bool:=decide (Xu xs t<(xs.length:Int)∧lA xs (Xu xs t).toNat=t)
noncomputable def QE (xs:af) (m:Int):Int:=@dite _ (∃t,Nt.Leap.Last (lA xs) (lT xs) xs.length m t) (Classical.propDecidable _) (fun h=>h.choose) (fun _=>0)
theorem Lg {xs:af} {m t:Int} (h:Nt.Leap.iU (lA xs) (lT xs) xs.length) (a:Nt.Leap.Last (lA xs) (lT xs) xs.length m t):QE xs m=t:=by
 have hx: ∃t,Nt.Leap.Last (lA xs) (lT xs) xs.length m t:=⟨t,a⟩
 unfold QE;rw[dif_pos hx];exact Nt.Leap.last_one h hx.choose_spec a
open Go.Proofs.YtcmockbdkppglaaGreatDoor
open Nt.Ev.YtcmockbdkppglaaGreatDoor
open Nt.Civil
open Nt.Fld
open Nt.Lin
noncomputable def mapsV:V:=.rptr [.oth] (.sK false (.agg [.agg [.int .i64 (-1),.str [45]],.agg [.int .i64 1,.str [43]]]) (.int .i64 0)) 0
noncomputable def dK:Env:=⟨Go.Proofs.Tryz.prog,fun g=>bif g==0 then some mapsV else bif g==1 then some R4 else none⟩
noncomputable def jT:V→Bool| .nilsl=>true| .sl e sh o xs=>e==39&&Kd.Ba [.int .i64,.int .i64] sh|_=>false
noncomputable def bB:V→af| .sl _ _ _ xs=>xs|_=>[]
def lS (k:Nat) (t:Int):Int:=(Ks t).1.getD k 0
def sOW (t:Int):Int:=(Ks t).2
noncomputable def Ou:List (Nat×aN):=[]
noncomputable def XW:aN:=fun a=>match a with|[.sl 39 [.int .i64,.int .i64] o xs,.int .i64 t,.fn 33 []]=>some (au (j6 xs) (rgC t),.tup [.int .i64 (Xu xs t),.bool (lpQ xs t)])|_=>none
noncomputable def lp1:List (Nat×aN):=(32,XW)::[]
noncomputable def tN:aN:=fun a=>match a with|[x]=>some (au (jT x) (aD (aM (bB x)) 1000000),.bool (j6 (bB x)))|_=>none
noncomputable def XX:aN:=fun a=>match a with|[x]=>some (au (jT x) (j6 (bB x)),.sl 2 [.int .i64] (some 0) (rH (bB x)))|_=>none
noncomputable def XY:aN:=fun a=>match a with|[x,.sl 2 [.int .i64] o cs,.int .i64 t]=>some (au (au (jT x) (j6 (bB x))) (au (Yq (bB x) cs) (MJ t)),.int .i64 (jR (bB x) t))|_=>none
noncomputable def XZ:aN:=fun a=>match a with|[x,.int .i64 t]=>some (au (jT x) (au (j6 (bB x)) (MJ t)),.int .i64 (jR (bB x) t))|_=>none
noncomputable def lp2:List (Nat×aN):=(14,tN)::(15,tN)::(18,XX)::(17,XY)::(19,XZ)::[]
noncomputable def RA:aN:=fun a=>match a with|[.int .i64 t]=>some (au (aD (-9223372036854775808) t) (aD t 9223372036854775807),.tup [.agg [.int .i64 (lS 0 t),.int .i64 (lS 1 t),.int .i64 (lS 2 t),.int .i64 (lS 3 t),.int .i64 (lS 4 t),.int .i64 (lS 5 t)],.int .i64 (sOW t)])|_=>none
noncomputable def RB:aN:=fun a=>match a with|[.agg [.int .i64 y,.int .i64 m,.int .i64 d,.int .i64 h,.int .i64 i,.int .i64 s]]=>some (true,.str (o6 y m d h i s))|_=>none
noncomputable def Yr:List (Nat×aN):=(20,RA)::(24,RA)::(22,RB)::(25,RB)::(GX+37,bCpS)::(GX+23,bStS)::lp2
noncomputable def AJ:=fun F c n a f d e b K=>(eB dK Ou F 2 14 [1,0,1,0] c K n (iN 48 [(0,V.sl 39 [Kd.int .i64,Kd.int .i64] none a),(2,V.bool f),(6,V.sl 39 [Kd.int .i64,Kd.int .i64] none d),(7,V.int .i64 e),(8,V.int .i64 b)] []):Option V)
theorem Ug (F xs) (K:V→Option V):
 dn dK (cu dK Ou F 2) F 14 [V.sl 39 [Kd.int .i64,Kd.int .i64] none xs] K=
 AJ F [] F xs false xs (aM xs) 0 K:=by kernel_rfl
theorem wY (F n b e c d a K):
 AJ F [] (n+1) b e c d a K=
 let B:=asInt (aL (bf c a) 0);let C:=K (V.bool false);let D:=AJ F [] n b e c d (aV .i64 a 1) K;let E:=bu .i64 a 1;let G:=asInt (aL (bf c a) 1);let A:=sel (aU 0 a) (sel (au (aD 0 E) (aU E (aM b))) (sel (aU (bu .i64 B (asInt (aL (bf b E) 0))) 2419200) C D) none) D;sel (aU a d) (sel (au (aD 0 a) (aU a (aM c))) (sel (aD (-1096193779200) B) (sel (aD B 971890963199) (sel (ieq G 1) A (sel (aT (ieq G (-1))) C A)) C) C) none) (K (V.bool (aD (aM b) 1000))):=by kernel_rfl
noncomputable def AL:=fun F b n a e f c d K=>(eB dK Ou F 2 15 [1,0,1,0] b K n (iN 50 [(0,V.sl 39 [Kd.int .i64,Kd.int .i64] none a),(2,V.bool e),(5,V.sl 39 [Kd.int .i64,Kd.int .i64] none f),(6,V.int .i64 c),(7,V.int .i64 d)] []):Option V)
theorem Uh (F xs) (K:V→Option V):
 dn dK (cu dK Ou F 2) F 15 [V.sl 39 [Kd.int .i64,Kd.int .i64] none xs] K=
 AL F [] F xs false xs (aM xs) 0 K:=by kernel_rfl
theorem wZ (F n b e c d a K):
 AL F [] (n+1) b e c d a K=
 let B:=asInt (aL (bf c a) 0);let C:=K (V.bool false);let D:=AL F [] n b e c d (aV .i64 a 1) K;let E:=bu .i64 a 1;let G:=asInt (aL (bf c a) 1);let A:=sel (aU 0 a) (sel (au (aD 0 E) (aU E (aM b))) (sel (aU (bu .i64 B (asInt (aL (bf b E) 0))) 2419200) C D) none) D;sel (aU a d) (sel (au (aD 0 a) (aU a (aM c))) (sel (aU B (-1096193779200)) C (sel (aU 971890963199 B) C (sel (aT (ieq G 1)) (sel (aT (ieq G (-1))) C A) A))) none) (K (V.bool (aD (aM b) 1000))):=by kernel_rfl
noncomputable def AO:=fun F e n d f a c b K=>(eB dK Ou F 2 18 [1,1,0,1,0] e K n (iN 30 [(0,V.old (V.sl 39 [Kd.int .i64,Kd.int .i64] none d)),(2,V.sl 2 [Kd.int .i64] (some 2) []),(3,V.sl 2 [Kd.int .i64] (some 3) f),(10,V.old (V.sl 39 [Kd.int .i64,Kd.int .i64] none a)),(11,V.int .i64 c),(12,V.int .i64 b)] []):Option V)
theorem Ui (F xs) (K:V→Option V):
 dn dK (cu dK Ou F 2) F 18 [V.old (V.sl 39 [Kd.int .i64,Kd.int .i64] none xs)] K=
 let A:=aV .i64 (aM xs) 1;sel (au (aD 0 A) (au (aD A A) (aD A 16777216))) (AO F [] F xs (xJ A (V.int .i64 0)) xs (aM xs) 0 K) none:=by kernel_rfl
theorem w9 (F n e d b c a K):
 AO F [] (n+1) e d b c a K=
 let A:=aV .i64 a 1;sel (aU a c) (sel (au (aD 0 a) (aU a (aM b))) (sel (au (aD 0 a) (aU a (aM d))) (sel (au (aD 0 A) (aU A (aM d))) (AO F [] n e (zU d A (V.int .i64 (aV .i64 (asInt (aL (bf d a) 0)) (asInt (aL (bf b a) 1))))) b c A K) none) none) none) (K (V.sl 2 [Kd.int .i64] (some 3) d)):=by kernel_rfl
noncomputable def vQ:=fun F d n b e g c f a K=>(eB dK Ou F 3 32 [1,1,1,0,0] d K n (iN 49 [(0,V.sl 39 [Kd.int .i64,Kd.int .i64] none b),(1,V.int .i64 e),(2,V.fn 33 []),(6,V.int .i64 0),(7,V.bool g),(8,V.int .i64 c),(9,V.int .i64 f),(10,V.int .i64 a)] []):Option V)
theorem Uj (F xs t) (K:V→Option V):
 dn dK (cu dK Ou F 3) F 32 [V.sl 39 [Kd.int .i64,Kd.int .i64] none xs,V.int .i64 t,V.fn 33 []] K=
 vQ F [] F xs t false (aM xs) 0 (aM xs) K:=by kernel_rfl
theorem xg (F n d c f e a b K):
 vQ F [] (n+1) d c f e a b K=
 let A:=gu .i64 (Ov .u64 (gu .u64 (aV .i64 a b)) 1);let C:=asInt (aL (bf d a) 0);let E:=V.int .i64 a;let G:=aT (ieq c c);let B:=vQ F [] n d c f e a A K;let D:=asInt (aL (bf d A) 0);let H:=vQ F [] n d c f e (aV .i64 A 1) b K;let I:=K (V.tup [E,V.bool (ieq (-1) 0)]);let J:=K (V.tup [E,V.bool (ieq 0 0)]);let L:=K (V.tup [E,V.bool (ieq 1 0)]);sel (aU a b) (sel (au (aD 0 A) (aU A (aM d))) (sel (aT (ieq D D)) (sel G B H) (sel G B (sel (aU D c) H (sel (aU c D) B B)))) none) (sel (aU a e) (sel (au (aD 0 a) (aU a (aM d))) (sel (aT (ieq C C)) (sel G J I) (sel G L (sel (aU C c) I (sel (aU c C) L J)))) none) (K (V.tup [E,V.bool false]))):=by kernel_rfl
noncomputable def vR:=fun F d n c e g f a b K=>(eB dK Ou F 2 19 [1,1,0,1,0] d K n (iN 25 [(0,V.sl 39 [Kd.int .i64,Kd.int .i64] none c),(1,V.int .i64 e),(4,V.int .i64 0),(5,V.int .i64 g),(9,V.sl 39 [Kd.int .i64,Kd.int .i64] none f),(10,V.int .i64 a),(11,V.int .i64 b)] []):Option V)
theorem Uk (F xs t) (K:V→Option V):
 dn dK (cu dK Ou F 2) F 19 [V.sl 39 [Kd.int .i64,Kd.int .i64] none xs,V.int .i64 t] K=
 vR F [] F xs t t xs (aM xs) 0 K:=by kernel_rfl
theorem xh (F n f d e c b a K):
 vR F [] (n+1) f d e c b a K=
 let A:=aV .i64 a 1;sel (aU a b) (sel (au (aD 0 a) (aU a (aM c))) (sel (aD (asInt (aL (bf c a) 0)) d) (vR F [] n f d (aV .i64 e (asInt (aL (bf c a) 1))) c b A K) (vR F [] n f d e c b A K)) none) (K (V.int .i64 e)):=by kernel_rfl
theorem Ul (F xs a t) (K:V→Option V):
 dn dK (cu dK lp1 F 2) F 17 [V.sl 39 [Kd.int .i64,Kd.int .i64] none xs,V.sl 2 [Kd.int .i64] none a,V.int .i64 t] K=
 let A:=Xu xs (aV .i64 t 1);sel (au (j6 xs) (rgC (aV .i64 t 1))) (sel (au (aD 0 A) (aU A (aM a))) (K (V.int .i64 (aV .i64 t (asInt (aL (bf a A) 0))))) none) none:=by kernel_rfl
theorem Um (F xs t) (K:V→Option V):
 dn dK (cu dK lp2 F 2) F 5 [V.sl 39 [Kd.int .i64,Kd.int .i64] none xs,V.int .i64 t] K=
 let B:=V.int .i64 0;let C:=au true (j6 xs);let A:=K (V.tup [B,V.int .i64 1]);sel (au true (aD (aM xs) 1000000)) (sel (aT (j6 xs)) (K (V.tup [B,V.int .i64 4])) (sel (aD (-1096193779200) t) (sel (aT (aD t 971890963199)) A (sel C (sel (au C (au (Yq xs (rH xs)) (MJ t))) (K (V.tup [V.int .i64 (jR xs t),B])) none) none)) A)) none:=by kernel_rfl
theorem Qt (F xs t) (K:V→Option V):
 dn dK (cu dK lp2 F 2) F 6 [V.sl 39 [Kd.int .i64,Kd.int .i64] none xs,V.int .i64 t] K=
 let B:=V.int .i64 0;let A:=K (V.tup [B,V.int .i64 1]);sel (au true (aD (aM xs) 1000000)) (sel (aT (j6 xs)) (K (V.tup [B,V.int .i64 4])) (sel (aU t (-1096193779200)) A (sel (aU 971890963199 t) A (sel (au true (au (j6 xs) (MJ t))) (K (V.tup [V.int .i64 (jR xs t),B])) none)))) none:=by kernel_rfl
noncomputable def AP:=fun F c n a d f e b K=>(eB dK lp2 F 2 7 [1,1,1,1,1,0,0] c K n (iN 77 [(0,V.sl 39 [Kd.int .i64,Kd.int .i64] none a),(1,V.int .i64 d),(4,V.int .i64 0),(5,V.bool f),(6,V.int .i64 0),(7,V.sl 2 [Kd.int .i64] (some 7) e),(8,V.int .i64 b)] []):Option V)
theorem Un (F xs n) (K:V→Option V):
 dn dK (cu dK lp2 F 2) F 7 [V.sl 39 [Kd.int .i64,Kd.int .i64] none xs,V.int .i64 n] K=
 let A:=K (V.tup [V.int .i64 0,V.bool false,V.int .i64 1]);let B:=au true (j6 xs);let C:=Yq xs (rH xs);sel (au true (aD (aM xs) 1000000)) (sel (aT (j6 xs)) (K (V.tup [V.int .i64 0,V.bool false,V.int .i64 4])) (sel B (sel (au B (au C (MJ (-1096193779200)))) (sel (aU n (jR xs (-1096193779200))) A (sel (au B (au C (MJ 971890963199))) (sel (aU (aV .i64 (jR xs 971890963199) 1) n) A (AP F [] F xs n false (rH xs) (aM xs) K)) none)) none) none)) none:=by kernel_rfl
theorem xk (F n c b e d a K):
 AP F [] (n+1) c b e d a K=
 let B:=asInt (aL (bf d a) 0);let C:=au (aD 0 a) (aU a (aM d));let E:=bu .i64 a 1;let H:=aU a (aM c);let D:=um (um (bu .i64 b B) (bu .i64 (asInt (aL (bf c a) 0)) 1)) 971890963199;let G:=um (bu .i64 b B) 971890963199;let A:=sel C (sel H (sel (au (aD 0 a) H) (sel C (K (V.tup [V.int .i64 D,V.bool (aU (aV .i64 D B) b),V.int .i64 0])) none) none) (sel C (K (V.tup [V.int .i64 G,V.bool (aU (aV .i64 G B) b),V.int .i64 0])) none)) (none);sel (aU 0 a) (sel (au (aD 0 E) (aU E (aM c))) (sel C (sel (aU b (aV .i64 (asInt (aL (bf c E) 0)) B)) (AP F [] n c b e d E K) A) none) none) A:=by kernel_rfl
noncomputable def wI:=fun F b n a c e d K=>(eB dK lp2 F 2 8 [1,1,1,1,0,0] b K n (iN 38 [(0,V.sl 39 [Kd.int .i64,Kd.int .i64] none a),(1,V.int .i64 c),(4,V.int .i64 0),(5,V.bool e),(6,V.int .i64 0),(7,V.int .i64 d)] []):Option V)
theorem Qu (F xs n) (K:V→Option V):
 dn dK (cu dK lp2 F 2) F 8 [V.sl 39 [Kd.int .i64,Kd.int .i64] none xs,V.int .i64 n] K=
 let A:=K (V.tup [V.int .i64 0,V.bool false,V.int .i64 1]);sel (au true (aD (aM xs) 1000000)) (sel (aT (j6 xs)) (K (V.tup [V.int .i64 0,V.bool false,V.int .i64 4])) (sel (au true (au (j6 xs) (MJ (-1096193779200)))) (sel (aU n (jR xs (-1096193779200))) A (sel (au true (au (j6 xs) (MJ 971890963199))) (sel (aU (aV .i64 (jR xs 971890963199) 1) n) A (wI F [] F xs n false (um (aV .i64 n 1001) 971890963199) K)) none)) none)) none:=by kernel_rfl
theorem D6 (F n b c d a K):
 wI F [] (n+1) b c d a K=
 let A:=au true (au (j6 b) (MJ a));sel A (sel (aU c (jR b a)) (wI F [] n b c d (bu .i64 a 1) K) (sel A (K (V.tup [V.int .i64 a,V.bool (aU (jR b a) c),V.int .i64 0])) none)) none:=by kernel_rfl
noncomputable def Gs:=fun F e n d a c b K=>(eB dK Yr F 2 9 [1,1,1,0,1,0] e K n (iN 36 [(0,V.sl 39 [Kd.int .i64,Kd.int .i64] none d),(2,V.str []),(3,V.int .i64 0),(4,V.box 4 0),(12,V.sl 39 [Kd.int .i64,Kd.int .i64] none a),(13,V.int .i64 c),(14,V.int .i64 b)] [(4,[V.nilp,V.nilsl])]):Option V)
noncomputable def oh:=fun F f n e b d c a K=>(eB dK Yr F 2 9 [1,1,1,0,1,0] f K n (iN 36 [(0,V.sl 39 [Kd.int .i64,Kd.int .i64] none e),(2,V.str []),(3,V.int .i64 0),(4,V.box 4 0),(12,V.sl 39 [Kd.int .i64,Kd.int .i64] none b),(13,V.int .i64 d),(14,V.int .i64 c)] [(4,[V.box 4 0,V.sl 5 [Kd.int .u8] (some 50001) a])]):Option V)
theorem Uo (F xs) (K:V→Option V):
 dn dK (cu dK Yr F 2) F 9 [V.sl 39 [Kd.int .i64,Kd.int .i64] none xs] K=
 sel (au true (aD (aM xs) 1000000)) (sel (aT (j6 xs)) (K (V.tup [V.str [],V.int .i64 4])) (Gs F [] F xs xs (aM xs) 0 K)) none:=by kernel_rfl
theorem xq (F n d b c a K):
 Gs F [] (n+1) d b c a K=
 let C:=asInt (aL (bf b a) 0);let D:=[V.agg [V.int .i64 (-1),V.str [45]],V.agg [V.int .i64 1,V.str [43]]];let G:=asInt (aL (bf b a) 1);let A:=o6 (lS 0 C) (lS 1 C) (lS 2 C) (lS 3 C) (lS 4 C) (lS 5 C);let B:=kg D G;let E:=bg (bg A [32]) B;let H:=aH (bg E [10]);sel (aU a c) (sel (au (aD 0 a) (aU a (aM b))) (sel (au (aD (-9223372036854775808) C) (aD C 9223372036854775807)) (sel (bC A [32]) (sel (DD D G) (sel (bC (bg A [32]) B) (sel (bC E [10]) (sel (qz H) (oh F [] n d b c (aV .i64 a 1) H K) none) none) none) none) none) none) none) (K (V.tup [V.str [],V.int .i64 0])):=by kernel_rfl
theorem xu (F n e c d a b K):
 oh F [] (n+1) e c d a b K=
 let C:=asInt (aL (bf c a) 0);let D:=[V.agg [V.int .i64 (-1),V.str [45]],V.agg [V.int .i64 1,V.str [43]]];let G:=asInt (aL (bf c a) 1);let A:=o6 (lS 0 C) (lS 1 C) (lS 2 C) (lS 3 C) (lS 4 C) (lS 5 C);let B:=kg D G;let E:=bg (bg A [32]) B;let H:=aH (bg E [10]);sel (aU a d) (sel (au (aD 0 a) (aU a (aM c))) (sel (au (aD (-9223372036854775808) C) (aD C 9223372036854775807)) (sel (bC A [32]) (sel (DD D G) (sel (bC (bg A [32]) B) (sel (bC E [10]) (sel (dU b H) (oh F [] n e c d (aV .i64 a 1) (bS b H) K) none) none) none) none) none) none) none) (K (V.tup [V.str (fD b),V.int .i64 0])):=by kernel_rfl
noncomputable def mY:=fun F f n d e c a b K=>(eB dK Yr F 2 10 [1,1,1,0,1,0] f K n (iN 38 [(0,V.sl 39 [Kd.int .i64,Kd.int .i64] none d),(2,V.str []),(3,V.int .i64 0),(4,V.str e),(13,V.sl 39 [Kd.int .i64,Kd.int .i64] none c),(14,V.int .i64 a),(15,V.int .i64 b)] []):Option V)
theorem Qv (F xs) (K:V→Option V):
 dn dK (cu dK Yr F 2) F 10 [V.sl 39 [Kd.int .i64,Kd.int .i64] none xs] K=
 sel (au true (aD (aM xs) 1000000)) (sel (aT (j6 xs)) (K (V.tup [V.str [],V.int .i64 4])) (mY F [] F xs [] xs (aM xs) 0 K)) none:=by kernel_rfl
theorem uk (F n e d b c a K):
 mY F [] (n+1) e d b c a K=
 let B:=asInt (aL (bf b a) 0);let G:=aV .i64 a 1;let A:=o6 (lS 0 B) (lS 1 B) (lS 2 B) (lS 3 B) (lS 4 B) (lS 5 B);let C:=bg A [32];let D:=bg C [45];let E:=bg C [43];sel (aU a c) (sel (au (aD 0 a) (aU a (aM b))) (sel (au (aD (-9223372036854775808) B) (aD B 9223372036854775807)) (sel (aU (asInt (aL (bf b a) 1)) 0) (sel (bC A [32]) (sel (bC C [45]) (sel (bC D [10]) (sel (bC d (bg D [10])) (mY F [] n e (bg d (bg D [10])) b c G K) none) none) none) none) (sel (bC A [32]) (sel (bC C [43]) (sel (bC E [10]) (sel (bC d (bg E [10])) (mY F [] n e (bg d (bg E [10])) b c G K) none) none) none) none)) none) none) (K (V.tup [V.str d,V.int .i64 0])):=by kernel_rfl
open Go.RowKit
theorem gD:qy dK:=⟨by kernel_rfl,by kernel_rfl⟩
theorem xU:bT dK Ou:=bT.nil
theorem Xv {f:Nat} {args:af} {r:V} (h:aj uE f args r):aj dK f args r:=aj.env (E:=uE) rfl (fun n v h=>by
 unfold uE at h;simp only at h
 cases e:n==1 with
 |false=>rw[e] at h;cases h
 |true=>
  have e:=beq_iff_eq.1 e;subst e;exact h) h
theorem Jb {G:aJ} {v:Value} {e:Nat} {sh:List Kd} (h:aK G .nilsl v):aK G (.sl e sh none []) v:=by
 unfold aK at h⊢;subst h;exact⟨none,0,rfl,iI _,.inl rfl⟩
theorem Lh {G:aJ} {x:V} {v:Value} (hx:jT x=true) (h:aK G x v):aK G (.sl 39 [.int .i64,.int .i64] none (bB x)) v:=by
 unfold jT at hx;split at hx
 ·exact Jb h
 ·rename_i e sh o xs
  rw[bL,ig] at hx;obtain⟨rfl,a⟩:=hx;obtain rfl:=Kd.fT _ _ a;exact kF (o:=o) h
 ·cases hx
theorem Bh {f:Nat} {x:V} {b:af} {r:V} (hx:jT x=true) (h:aj dK f (.sl 39 [.int .i64,.int .i64] none (bB x)::b) r):aj dK f (x::b) r:=by
 intro G w vs d c a;obtain⟨v,t,rfl,e,a⟩:=a.cons_inv;exact h G w _ d c (.cons (Lh hx e) a)
theorem lab0 {E:Env} {f:Nat} {args:af} {e L L':Nat} {sh:List Kd} {xs:af} (h:aj E f args (.sl e sh (some L) xs)):aj E f args (.sl e sh (some L') xs):=fun G w vs a b c=>h G w vs a b c
theorem gt {α:Type} (a b:α):sel true a b=a:=rfl
theorem gf {α:Type} (a b:α):sel false a b=b:=rfl
theorem gn:aT true=false:=rfl
theorem gB (a:Bool):au true a=a:=rfl
theorem qL {xs:af} {i:Nat} (h:i<xs.length):au (aD 0 (i:Int)) (aU (i:Int) (aM xs))=true:=by rw[ay,ak,aQ,aO];omega
theorem rW {xs:af} {i:Nat} (h:i=xs.length):aU (i:Int) (aM xs)=false:=aW (by rw[aO];omega)
theorem uI {xs:af} {i:Nat} (h:i<xs.length) (a:xs.length≤1000000):aU (i:Int) (aM xs)=true∧au (aD 0 (i:Int)) (aU (i:Int) (aM xs))=true∧aV .i64 (i:Int) 1=((i+1:Nat):Int):=⟨aY (by rw[aO];omega),qL h,by rw[aZ (by omega)];omega⟩
noncomputable def okB (xs:af) (i:Nat):Bool:=@decide (Nt.Leap.Ia (lA xs) (lT xs) i) (Classical.propDecidable _)
theorem AQ {xs:af} {i:Nat}:okB xs i=true↔Nt.Leap.Ia (lA xs) (lT xs) i:=by unfold okB;exact @Ol _ (Classical.propDecidable _)
theorem Br {xs:af} {i:Nat} (h: ¬Nt.Leap.Ia (lA xs) (lT xs) i):okB xs i=false:=by rw[acL,ne_eq,AQ];exact h
noncomputable def DK (xs:af):Nat→Nat→Bool
 |_,0=>true
 |i,k+1=>okB xs i&&DK xs (i+1) k
theorem Jc {xs:af}: ∀(k i:Nat),DK xs i k=true↔ ∀j,i≤j→j<i+k→Nt.Leap.Ia (lA xs) (lT xs) j
 |0,i=>⟨fun _ j b a=>by omega,fun _=>rfl⟩
 |k+1,i=>by
  show(okB xs i&&DK xs (i+1) k)=true↔_;rw[bL,AQ,Jc k (i+1)];constructor
  ·rintro⟨b,a⟩ j h3 c
   by_cases e:j=i
   ·subst e;exact b
   ·exact a j (by omega) (by omega)
  ·intro h
   exact⟨h i (by omega) (by omega),fun j b a=>h j (by omega) (by omega)⟩
theorem Sj (xs:af):(DK xs 0 xs.length&&decide (xs.length≤1000))=j6 xs:=by
 rw[D8,jg,bL,Jc,Fw];exact⟨fun h=>⟨fun i b=>h.1 i (D9 _) (by omega),h.2⟩,fun h=>⟨fun j _ a=>h.1 j (by omega),h.2⟩⟩
theorem tail_at {xs:af} {i:Nat} (h:i<xs.length) (hl:xs.length≤1000000) (b: -1096193779200≤lA xs i∧lA xs i≤971890963199) (d:lT xs i=1∨lT xs i= -1) (a:i=0∨(-1096193779200≤lA xs (i-1)∧lA xs (i-1)≤971890963199)) (R:Bool) (K:V→Option V):
  sel (aU 0 (i:Int)) (sel (au (aD 0 (bu .i64 (i:Int) 1)) (aU (bu .i64 (i:Int) 1) (aM xs))) (sel (aU (bu .i64 (lA xs i) (asInt (aL (bf xs (bu .i64 (i:Int) 1)) 0))) 2419200) (K (V.bool false)) (K (V.bool R))) none) (K (V.bool R))=K (V.bool (okB xs i&&R)):=by
 by_cases f:i=0
 ·subst f
  rw[show aU 0 ((0:Nat):Int)=false from rfl,gf,AQ.2 ⟨b.1,b.2,d,.inl rfl⟩];rfl
 ·have g:bu .i64 (i:Int) 1=((i-1:Nat):Int):=by rw[bZ (by omega)];omega
  rcases a with a|a
  ·exact absurd a f
  rw[aY (by omega),gt,g,qL (xs:=xs) (i:=i-1) (by omega),gt,show asInt (aL (bf xs ((i-1:Nat):Int)) 0)=lA xs (i-1) from rfl,bZ (by omega)];by_cases c:2419200≤lA xs i-lA xs (i-1)
  ·rw[aW c,gf,AQ.2 ⟨b.1,b.2,d,.inr c⟩];rfl
  ·rw[aY (by omega),gt,Br (fun e=>by obtain⟨_,_,_,e|e⟩:=e<;>omega)];rfl
theorem NY (F:Nat) (xs:af) (b:Bool) (hl:xs.length≤1000000) (K:V→Option V): ∀(k i n:Nat),i+k=xs.length→k<n→(i=0∨(-1096193779200≤lA xs (i-1)∧lA xs (i-1)≤971890963199))→
  AJ F [] n xs b xs (aM xs) (i:Int) K=K (.bool (DK xs i k&&decide (xs.length≤1000)))
 |0,i,n,g,h,d=>by
  obtain⟨n,rfl⟩: ∃m,n=m+1:=⟨n-1,by omega⟩
  (rw[wY];(conv=>zeta);rw[rW (by omega),gf])
  have:aD (aM xs) 1000=(DK xs i 0&&decide (xs.length≤1000)):=by
   rw[D8,ak,aO];show _↔(true&&decide (xs.length≤1000))=true;rw[Fy,Fw];omega
  rw[this]
 |k+1,i,n,g,h,d=>by
  obtain⟨n,rfl⟩: ∃m,n=m+1:=⟨n-1,by omega⟩
  obtain⟨j,i2,i3⟩:=uI (xs:=xs) (i:=i) (by omega) (by omega)
  (rw[wY];(conv=>zeta);rw[i2,j,gt,gt,i3,show asInt (aL (bf xs (i:Int)) 0)=lA xs i from rfl,show asInt (aL (bf xs (i:Int)) 1)=lT xs i from rfl])
  show _=K (.bool ((okB xs i&&DK xs (i+1) k)&&decide (xs.length≤1000)));rw[Bool.and_assoc];by_cases a: -1096193779200≤lA xs i
  ·by_cases c:lA xs i≤971890963199
   ·rw[cO a,cO c,gt,gt,NY F xs b hl K k (i+1) n (by omega) (by omega) (.inr (by rw[Nat.add_sub_cancel];exact⟨a,c⟩))]
    by_cases h3:lT xs i=1
    ·rw[dN h3,gt];exact tail_at (by omega) hl ⟨a,c⟩ (.inl h3) d _ K
    ·rw[bD h3,gf]
     by_cases f:lT xs i= -1
     ·rw[dN f,gn,gf];exact tail_at (by omega) hl ⟨a,c⟩ (.inr f) d _ K
     ·rw[bD f,show aT false=true from rfl,gt,Br (fun e=>by obtain⟨_,_,e|e,_⟩:=e<;>contradiction)];rfl
   ·rw[cO a,tL (by omega),gt,gf,Br (fun e=>c e.2.1)];rfl
  ·rw[tL (by omega),gf,Br (fun e=>a e.1)];rfl
theorem NZ (F:Nat) (xs:af) (b:Bool) (hl:xs.length≤1000000) (K:V→Option V): ∀(k i n:Nat),i+k=xs.length→k<n→(i=0∨(-1096193779200≤lA xs (i-1)∧lA xs (i-1)≤971890963199))→
  AL F [] n xs b xs (aM xs) (i:Int) K=K (.bool (DK xs i k&&decide (xs.length≤1000)))
 |0,i,n,g,h,d=>by
  obtain⟨n,rfl⟩: ∃m,n=m+1:=⟨n-1,by omega⟩
  (rw[wZ];(conv=>zeta);rw[rW (by omega),gf])
  have:aD (aM xs) 1000=(DK xs i 0&&decide (xs.length≤1000)):=by
   rw[D8,ak,aO];show _↔(true&&decide (xs.length≤1000))=true;rw[Fy,Fw];omega
  rw[this]
 |k+1,i,n,g,h,d=>by
  obtain⟨n,rfl⟩: ∃m,n=m+1:=⟨n-1,by omega⟩
  obtain⟨j,i2,i3⟩:=uI (xs:=xs) (i:=i) (by omega) (by omega)
  (rw[wZ];(conv=>zeta);rw[i2,j,gt,gt,i3,show asInt (aL (bf xs (i:Int)) 0)=lA xs i from rfl,show asInt (aL (bf xs (i:Int)) 1)=lT xs i from rfl])
  show _=K (.bool ((okB xs i&&DK xs (i+1) k)&&decide (xs.length≤1000)));rw[Bool.and_assoc];by_cases a: -1096193779200≤lA xs i
  ·by_cases c:lA xs i≤971890963199
   ·rw[aW a,aW c,gf,gf,NZ F xs b hl K k (i+1) n (by omega) (by omega) (.inr (by rw[Nat.add_sub_cancel];exact⟨a,c⟩))]
    by_cases h3:lT xs i=1
    ·rw[dN h3,gn,gf];exact tail_at (by omega) hl ⟨a,c⟩ (.inl h3) d _ K
    ·rw[bD h3,show aT false=true from rfl,gt]
     by_cases f:lT xs i= -1
     ·rw[dN f,gn,gf];exact tail_at (by omega) hl ⟨a,c⟩ (.inr f) d _ K
     ·rw[bD f,show aT false=true from rfl,gt,Br (fun e=>by obtain⟨_,_,e|e,_⟩:=e<;>contradiction)];rfl
   ·rw[aW a,aY (by omega),gf,gt,Br (fun e=>c e.2.1)];rfl
  ·rw[aY (by omega),gt,Br (fun e=>a e.1)];rfl
theorem Cr (x:V) (b:au (jT x) (aD (aM (bB x)) 1000000)=true):aj dK 14 [x] (.bool (j6 (bB x))):=by
 obtain⟨a,c⟩:=aS b;rw[ak,aO] at c;refine Bh a (ax gD xU ((bB x).length+1) 2 ?_);rw[Ug];have:=NY ((bB x).length+1) (bB x) false (by omega) some (bB x).length 0 ((bB x).length+1) (by omega) (by omega) (.inl rfl);rw[Sj] at this;exact this
theorem fw (x:V) (b:au (jT x) (aD (aM (bB x)) 1000000)=true):aj dK 15 [x] (.bool (j6 (bB x))):=by
 obtain⟨a,c⟩:=aS b;rw[ak,aO] at c;refine Bh a (ax gD xU ((bB x).length+1) 2 ?_);rw[Uh];have:=NZ ((bB x).length+1) (bB x) false (by omega) some (bB x).length 0 ((bB x).length+1) (by omega) (by omega) (.inl rfl);rw[Sj] at this;exact this
def cInv (xs c:af) (i:Nat):Prop:=c.length=xs.length+1∧ ∀j,j≤i→c.getD j .any=.int .i64 (Nt.Leap.cI (lT xs) j)
theorem Up {xs c:af} (h:cInv xs c xs.length):c=rH xs:=by
 refine List.ext_getElem (by unfold rH;simp[h.1]) fun j a b=>?_
 have:=h.2 j (by have:=h.1;omega);rw[sV,gP a] at this;simp only[qx] at this;rw[this,show(rH xs)[j]=.int .i64 (Nt.Leap.cI (lT xs) j) by simp[rH]]
theorem N5 (F:Nat) (xs:af) (h:Nt.Leap.iU (lA xs) (lT xs) xs.length) (hl:xs.length≤1000) (K:V→Option V): ∀(k i n:Nat) (c:af),i+k=xs.length→k<n→cInv xs c i→
  AO F [] n xs c xs (aM xs) (i:Int) K=K (.sl 2 [.int .i64] (some 3) (rH xs))
 |0,i,n,c,d,f,a=>by
  obtain⟨n,rfl⟩: ∃m,n=m+1:=⟨n-1,by omega⟩
  obtain rfl:i=xs.length:=by omega
  (rw[w9];(conv=>zeta);rw[rW rfl,gf,Up a])
 |k+1,i,n,c,d,f,a=>by
  obtain⟨n,rfl⟩: ∃m,n=m+1:=⟨n-1,by omega⟩
  obtain⟨g,i2,i3⟩:=uI (xs:=xs) (i:=i) (by omega) (by omega);have b:=a.1;have l:bf c (i:Int)=.int .i64 (Nt.Leap.cI (lT xs) i):=by rw[wB];exact a.2 i (iI _)
  have p:=Nt.Leap.xS h i (by omega);have r:=(h i (by omega)).2.2.1
  (rw[w9];(conv=>zeta);rw[i2,g,gt,gt,qL (xs:=c) (i:=i) (by omega),gt,i3,qL (xs:=c) (i:=i+1) (by omega),gt,l])
  have o:aV .i64 (asInt (aL (V.int .i64 (Nt.Leap.cI (lT xs) i)) 0)) (asInt (aL (bf xs (i:Int)) 1))=Nt.Leap.cI (lT xs) (i+1):=by
   show aV .i64 (Nt.Leap.cI (lT xs) i) (lT xs i)=Nt.Leap.cI (lT xs) i+lT xs i;rw[aZ (by omega)]
  rw[o];refine N5 F xs h hl K k (i+1) n _ (by omega) (by omega) ⟨by unfold zU;rw[QL];exact b,fun j q=>?_⟩;unfold zU;rw[sV,List.getElem?_set];by_cases e:i+1=j
  ·subst e
   rw[if_pos (by omega),if_pos (by show(((i+1:Nat):Int)).toNat<c.length;omega)];rfl
  ·rw[if_neg (by omega),←sV]
   exact a.2 j (by omega)
theorem Uq (x:V) (d:au (jT x) (j6 (bB x))=true):aj dK 18 [x] (.sl 2 [.int .i64] (some 0) (rH (bB x))):=by
 obtain⟨c,a⟩:=aS d;rw[jg] at a;obtain⟨a,h3⟩:=a;refine Bh c (lab0 (L:=3) ?_);refine Ad (args:=[V.old (V.sl 39 [Kd.int .i64,Kd.int .i64] none (bB x))]) gD xU ((bB x).length+1) 2 ?_
 (rw[Ui];(conv=>zeta))
 have b:aV .i64 (aM (bB x)) 1=(((bB x).length+1:Nat):Int):=by rw[aO,aZ (by omega)];omega
 rw[b,show au (aD 0 (((bB x).length+1:Nat):Int)) (au (aD (((bB x).length+1:Nat):Int) (((bB x).length+1:Nat):Int)) (aD (((bB x).length+1:Nat):Int) 16777216))=true by rw[ay,ay,ak,ak,ak];omega,gt];refine N5 _ _ a h3 some (bB x).length 0 _ _ (by omega) (by omega) ⟨by unfold xJ;rw[List.length_replicate];omega,fun j e=>?_⟩;obtain rfl:j=0:=by omega
 unfold xJ;rw[show((((bB x).length+1:Nat):Int)).toNat=(bB x).length+1 from by omega];rfl
theorem Jd {xs:af} (h:Nt.Leap.iU (lA xs) (lT xs) xs.length) (t:Int):Nt.Leap.Split (lA xs) xs.length t (Nt.Leap.pos (lA xs) xs.length t xs.length):=
 Nt.Leap.Fh h t xs.length (iI _) fun j a b=>by omega
theorem half (a b:Nat) (h:a+b≤4000000):gu .i64 (Ov .u64 (gu .u64 (aV .i64 (a:Int) (b:Int))) 1)=(((a+b)/2:Nat):Int):=by
 rw[aZ (by omega),Aq (by omega)];have e:Ov .u64 ((a:Int)+(b:Int)) 1=((a:Int)+(b:Int)).fdiv 2:=rfl;rw[e,Int.fdiv_eq_ediv_of_nonneg _ (by omega),RQ (by omega)];omega
theorem Im (a:Int):ieq a a=true:=dN rfl
theorem WL (F:Nat) (xs:af) (t:Int) (b:Bool) {p:Nat} (j:Nt.Leap.Split (lA xs) xs.length (t-1) p) (hl:xs.length≤1000000): ∀(d c f n:Nat),f-c≤d→d<n→c≤p→p≤f→f≤xs.length→
  vQ F [] n xs t b (aM xs) (c:Int) (f:Int) some=some (.tup [.int .i64 (p:Int),.bool (decide ((p:Int)<(xs.length:Int)∧lA xs p=t))]):=by
 intro d;induction d with
 |zero=>
  intro c f n s v l g h3;obtain⟨n,rfl⟩: ∃m,n=m+1:=⟨n-1,by omega⟩
  obtain rfl:c=p:=by omega
  (rw[xg];(conv=>zeta);rw[aW (a:=(c:Int)) (b:=(f:Int)) (by omega),gf])
  by_cases h:c<xs.length
  ·rw[show aU (c:Int) (aM xs)=true from aY (by rw[aO];omega),gt,show au (aD 0 (c:Int)) true=true from by rw[ay,ak];exact⟨by omega,rfl⟩,gt,Im,gn,gf,Im,gn,gf,show asInt (aL (bf xs (c:Int)) 0)=lA xs c from rfl]
   have:=j.2.2 c (iI _) h;rw[aW (by omega),gf];by_cases e:lA xs c=t
   ·rw[aW (by omega),gf,Dx (show((c:Int)<(xs.length:Int)∧lA xs c=t) from⟨by omega,e⟩)];rfl
   ·rw[aY (by omega),gt,ve (show¬((c:Int)<(xs.length:Int)∧lA xs c=t) from fun q=>e q.2)];rfl
  ·rw[show aU (c:Int) (aM xs)=false from aW (by rw[aO];omega),gf,ve (show¬((c:Int)<(xs.length:Int)∧lA xs c=t) from fun q=>h (by omega))]
 |succ d k=>
  intro c f n s v l g h3;by_cases u:c<f
  ·obtain⟨n,rfl⟩: ∃m,n=m+1:=⟨n-1,by omega⟩
   have r:(c+f)/2<xs.length:=by omega
   (rw[xg];(conv=>zeta);rw[aY (a:=(c:Int)) (b:=(f:Int)) (by omega),gt,half c f (by omega),qL (xs:=xs) (i:=(c+f)/2) r,gt,Im,gn,gf,Im,gn,gf,show asInt (aL (bf xs (((c+f)/2:Nat):Int)) 0)=lA xs ((c+f)/2) from rfl])
   by_cases w:lA xs ((c+f)/2)<t
   ·have o:(c+f)/2<p:=by
     refine Classical.byContradiction fun e=>?_
     have:=j.2.2 ((c+f)/2) (by omega) r;omega
    rw[aY w,gt,aZ (by omega),show((((c+f)/2:Nat):Int)+1)=(((c+f)/2+1:Nat):Int) by omega];exact k _ _ n (by omega) (by omega) (by omega) g h3
   ·have o:p≤(c+f)/2:=by
     refine Classical.byContradiction fun e=>?_
     have:=j.2.1 ((c+f)/2) (by omega);omega
    rw[aW (by omega),gf,jv,ite_self];exact k _ _ n (by omega) (by omega) l o (by omega)
  ·exact k c f n (by omega) (by omega) l g h3
theorem Ur (o:Option Nat) (xs:af) (t:Int) (i:au (j6 xs) (rgC t)=true):aj dK 32 [.sl 39 [.int .i64,.int .i64] o xs,.int .i64 t,.fn 33 []] (.tup [.int .i64 (Xu xs t),.bool (lpQ xs t)]):=by
 obtain⟨e,k⟩:=aS i;rw[jg] at e;have d:=Jd e.1 (t-1);have b:aj dK 32 [.sl 39 [.int .i64,.int .i64] none xs,.int .i64 t,.fn 33 []] (.tup [.int .i64 (Xu xs t),.bool (lpQ xs t)]):=by
  refine ax gD xU (xs.length+2) 3 ?_;rw[Uj];have:=WL (xs.length+2) xs t false d (by omega) xs.length 0 xs.length (xs.length+2) (by omega) (by omega) (by omega) d.1 (iI _);exact this
 intro G w vs g f c;obtain⟨a,j,rfl,h,c⟩:=c.cons_inv;exact b G w _ g f (.cons (kF (o:=o) h) c)
theorem Zu:bT dK lp1:=by
 unfold lp1;refine bT.cons (fun args r h=>?_) bT.nil;all_goals (revert h;intro h;first|unfold XW at h)
 all_goals (split at h;rotate_left; · cases h)
 all_goals (simp only[aI,bU] at h;obtain⟨a,rfl⟩:=h)
 ·exact Ur _ _ _ a
theorem AR (xs:af) {p:Nat} (h:p≤xs.length):asInt (aL (bf (rH xs) (p:Int)) 0)=Nt.Leap.cI (lT xs) p:=by
 rw[wB];unfold rH;simp[sV,show p<xs.length+1 by omega];rfl
theorem AU (xs:af):(rH xs).length=xs.length+1:=by unfold rH;simp
theorem Us (x:V) (o:Option Nat) (e:af) (t:Int) (u:au (au (jT x) (j6 (bB x))) (au (Yq (bB x) e) (MJ t))=true):aj dK 17 [x,.sl 2 [.int .i64] o e,.int .i64 t] (.int .i64 (jR (bB x) t)):=by
 obtain⟨f,m⟩:=aS u;obtain⟨f,h3⟩:=aS f;obtain⟨j,s⟩:=aS m;rw[NW] at j;rw[Gr] at s;have d:aj dK 17 [.sl 39 [.int .i64,.int .i64] none (bB x),.sl 2 [.int .i64] none e,.int .i64 t] (.int .i64 (jR (bB x) t)):=by
  generalize bB x=xs at*;subst j;obtain⟨k,hl⟩:=jg.1 h3;refine ax gD Zu 5 2 ?_;have g:=Jd k t
  (rw[Ul];(conv=>zeta);rw[aZ (by omega),h3,WK.2 (by omega),show Xu xs (t+1)=((Nt.Leap.pos (lA xs) xs.length t xs.length:Nat):Int) from by unfold Xu;rw[show t+1-1=t by omega]])
  generalize Nt.Leap.pos (lA xs) xs.length t xs.length=p at*;have c:=g.1;have h:=Nt.Leap.xS k p c;rw[show au true true=true from rfl,gt,qL (xs:=rH xs) (i:=p) (by rw[AU];omega),gt,AR xs c,aZ (by omega)];unfold jR;rw[Nt.Leap.FH g]
 refine Bh f fun G w vs q n c=>?_
 obtain⟨a,l,rfl,r,c⟩:=c.cons_inv;obtain⟨b,l,rfl,h,c⟩:=c.cons_inv;exact d G w _ q n (.cons r (.cons (kF (o:=o) h) c))
theorem Gt (F:Nat) (xs:af) (t:Int) (h:Nt.Leap.iU (lA xs) (lT xs) xs.length) (hl:xs.length≤1000) (K:V→Option V): ∀(k i n:Nat) (a:Int),i+k=xs.length→k<n→-5000000000000-(i:Int)≤a→a≤5000000000000+(i:Int)→
  vR F [] n xs t a xs (aM xs) (i:Int) K=K (.int .i64 (Nt.Leap.DJ (lA xs) (lT xs) t k i a))
 |0,i,n,a,c,d,g,b=>by
  obtain⟨n,rfl⟩: ∃m,n=m+1:=⟨n-1,by omega⟩
  (rw[xh];(conv=>zeta);rw[rW (by omega),gf]);rfl
 |k+1,i,n,a,c,d,g,b=>by
  obtain⟨n,rfl⟩: ∃m,n=m+1:=⟨n-1,by omega⟩
  obtain⟨f,i2,i3⟩:=uI (xs:=xs) (i:=i) (by omega) (by omega);have j:=(h i (by omega)).2.2.1
  (rw[xh];(conv=>zeta);rw[i2,f,gt,gt,i3,show asInt (aL (bf xs (i:Int)) 0)=lA xs i from rfl,show asInt (aL (bf xs (i:Int)) 1)=lT xs i from rfl])
  show _=K (.int .i64 (Nt.Leap.DJ (lA xs) (lT xs) t k (i+1) (if lA xs i≤t then a+lT xs i else a)));by_cases e:lA xs i≤t
  ·rw[cO e,gt,if_pos e,aZ (by omega)]
   exact Gt F xs t h hl K k (i+1) n _ (by omega) (by omega) (by omega) (by omega)
  ·rw[tL (by omega),gf,if_neg e]
   exact Gt F xs t h hl K k (i+1) n _ (by omega) (by omega) (by omega) (by omega)
theorem Ut (x:V) (t:Int) (e:au (jT x) (au (j6 (bB x)) (MJ t))=true):aj dK 19 [x,.int .i64 t] (.int .i64 (jR (bB x) t)):=by
 obtain⟨c,a⟩:=aS e;obtain⟨h3,d⟩:=aS a;rw[Gr] at d;obtain⟨b,hl⟩:=jg.1 h3;refine Bh c (ax gD xU ((bB x).length+1) 2 ?_);rw[Uk];exact Gt _ (bB x) t b hl some (bB x).length 0 _ t (by omega) (by omega) (by omega) (by omega)
theorem BO:bT dK lp2:=by
 unfold lp2;refine bT.cons (fun args r h=>?_) (bT.cons (fun args r h=>?_) (bT.cons (fun args r h=>?_) (bT.cons (fun args r h=>?_) (bT.cons (fun args r h=>?_) bT.nil))));all_goals (revert h;intro h;first|unfold tN at h|unfold XX at h|unfold XY at h|unfold XZ at h)
 all_goals (split at h;rotate_left; · cases h)
 all_goals (simp only[aI,bU] at h;obtain⟨a,rfl⟩:=h)
 ·exact Cr _ a
 ·exact fw _ a
 ·exact Uq _ a
 ·exact Us _ _ _ _ a
 ·exact Ut _ _ a
noncomputable def QT (xs:af) (t:Int):Int:=if j6 xs=true then if -1096193779200≤t∧t≤971890963199 then 0 else 1 else 4
noncomputable def UT (xs:af) (t:Int):Int:=if QT xs t=0 then jR xs t else 0
theorem Je (xs:af):Yq xs (rH xs)=true:=NW.2 rfl
theorem Bt {t:Int} (h: -4000000000000≤t∧t≤4000000000000):MJ t=true:=Gr.2 h
theorem WM (xs:af) (t:Int) (hl:xs.length≤1000000):aj dK 5 [.sl 39 [.int .i64,.int .i64] none xs,.int .i64 t] (.tup [.int .i64 (UT xs t),.int .i64 (QT xs t)]):=by
 refine ax gD BO 5 2 ?_
 (rw[Um];(conv=>zeta);rw[Je,show aD (aM xs) 1000000=true from cO (by rw[aO];omega)])
 unfold UT QT
 cases hB:j6 xs with
 |false=>rfl
 |true=>
  rw[gB,gB,gB,gt,gn,gf,if_pos rfl];by_cases b: -1096193779200≤t
  ·by_cases c:t≤971890963199
   ·rw[cO b,cO c,show(if -1096193779200≤t∧t≤971890963199 then(0:Int) else 1)=0 from if_pos ⟨b,c⟩,Bt (by omega)];rfl
   ·rw[cO b,tL (a:=t) (by omega),show(if -1096193779200≤t∧t≤971890963199 then(0:Int) else 1)=1 from if_neg (fun e=>c e.2)];rfl
  ·rw[tL (a:= -1096193779200) (by omega),show(if -1096193779200≤t∧t≤971890963199 then(0:Int) else 1)=1 from if_neg (fun e=>b e.1)];rfl
theorem Uu (xs:af) (t:Int) (hl:xs.length≤1000000):aj dK 6 [.sl 39 [.int .i64,.int .i64] none xs,.int .i64 t] (.tup [.int .i64 (UT xs t),.int .i64 (QT xs t)]):=by
 refine ax gD BO 5 2 ?_
 (rw[Qt];(conv=>zeta);rw[show aD (aM xs) 1000000=true from cO (by rw[aO];omega)])
 unfold UT QT
 cases hB:j6 xs with
 |false=>rfl
 |true=>
  rw[gB,gB,gB,gt,gn,gf,if_pos rfl];by_cases c: -1096193779200≤t
  ·by_cases d:t≤971890963199
   ·rw[aW c,aW d,show(if -1096193779200≤t∧t≤971890963199 then(0:Int) else 1)=0 from if_pos ⟨c,d⟩,Bt (by omega)];rfl
   ·rw[aW c,aY (b:=t) (by omega),show(if -1096193779200≤t∧t≤971890963199 then(0:Int) else 1)=1 from if_neg (fun e=>d e.2)];rfl
  ·rw[aY (a:=t) (b:= -1096193779200) (by omega),show(if -1096193779200≤t∧t≤971890963199 then(0:Int) else 1)=1 from if_neg (fun e=>c e.1)];rfl
noncomputable def Ht (xs:af) (n:Int):Int:=if j6 xs=true then if n<jR xs (-1096193779200)∨jR xs 971890963199+1<n then 1 else 0 else 4
noncomputable def QU (xs:af) (n:Int):Int:=if Ht xs n=0 then QE xs n else 0
noncomputable def QV (xs:af) (n:Int):Bool:=if Ht xs n=0 then aU (jR xs (QE xs n)) n else false
theorem sJ (a b:Int):um a b=Nt.Leap.least a b:=by unfold um Nt.Leap.least;omega
theorem Sk (F:Nat) (xs:af) (n:Int) (h:Nt.Leap.iU (lA xs) (lT xs) xs.length) (hl:xs.length≤1000) (i:Nat) (k:i≤xs.length) (p:jR xs (-1096193779200)≤n) (r:n≤jR xs 971890963199+1)
  (b:i=0∨lA xs (i-1)+Nt.Leap.cI (lT xs) i≤n) (s: ∀j,i≤j→j<xs.length→n<lA xs j+Nt.Leap.cI (lT xs) (j+1)):
  sel (au (aD 0 (i:Int)) (aU (i:Int) (aM (rH xs)))) (sel (aU (i:Int) (aM xs)) (sel (au (aD 0 (i:Int)) (aU (i:Int) (aM xs))) (sel (au (aD 0 (i:Int)) (aU (i:Int) (aM (rH xs))))
   (some (V.tup [V.int .i64 (um (um (bu .i64 n (asInt (aL (bf (rH xs) (i:Int)) 0))) (bu .i64 (asInt (aL (bf xs (i:Int)) 0)) 1)) 971890963199),V.bool (aU (aV .i64 (um (um (bu .i64 n (asInt (aL (bf (rH xs) (i:Int)) 0))) (bu .i64 (asInt (aL (bf xs (i:Int)) 0)) 1)) 971890963199) (asInt (aL (bf (rH xs) (i:Int)) 0))) n),V.int .i64 0])) none) none)
   (sel (au (aD 0 (i:Int)) (aU (i:Int) (aM (rH xs)))) (some (V.tup [V.int .i64 (um (bu .i64 n (asInt (aL (bf (rH xs) (i:Int)) 0))) 971890963199),V.bool (aU (aV .i64 (um (bu .i64 n (asInt (aL (bf (rH xs) (i:Int)) 0))) 971890963199) (asInt (aL (bf (rH xs) (i:Int)) 0))) n),V.int .i64 0])) none)) none
  =some (.tup [.int .i64 (QE xs n),.bool (aU (jR xs (QE xs n)) n),.int .i64 0]):=by
 have hL:=Nt.Leap.WJ h k b s p;have c:=Lg h hL;have A:=Nt.Leap.xS h i k;have w:=Nt.Leap.qB h (-1096193779200);have u:=Nt.Leap.qB h 971890963199;change Nt.Leap.G (lA xs) (lT xs) xs.length (-1096193779200)≤n at p
 change n≤Nt.Leap.G (lA xs) (lT xs) xs.length 971890963199+1 at r
 have l:au (aD 0 (i:Int)) (aU (i:Int) (aM (rH xs)))=true:=qL (xs:=rH xs) (i:=i) (by rw[AU];omega);rw[l,gt,gt,gt,AR xs k,bZ (by omega),show asInt (aL (bf xs (i:Int)) 0)=lA xs i from rfl,sJ,sJ,sJ];have d: ∀t,t=QE xs n→(i=0∨lA xs (i-1)≤t)→(i<xs.length→t<lA xs i)→aV .i64 t (Nt.Leap.cI (lT xs) i)=jR xs t:=fun t m f q=>by
  have v:Nt.Leap.Split (lA xs) xs.length t i:=⟨k,fun j z=>by
   rcases f with f|f
   ·omega
   ·by_cases e:j=i-1
    ·rw[e];exact f
    ·have:=Nt.Leap.gap h (i-1) j (by omega) (by omega);omega,fun j x h3=>by
   by_cases e:j=i
   ·rw[e];exact q (by omega)
   ·have:=Nt.Leap.gap h j i (by omega) h3;have:=q (by omega);omega⟩
  have:=Nt.Leap.FH v (T:=lT xs);unfold jR;rw[this];have y:=Nt.Leap.qB h t;have:t≤971890963199:=by rw[m,c];exact hL.1
  have h3:n-2002≤t∨True:=.inr trivial;by_cases e: -5000000000000≤t
  ·exact aZ (by omega)
  ·exfalso
   have g:=hL.2.2;rw[←c,←m] at g;rcases g with g|g
   ·omega
   ·have:=Nt.Leap.qB h (t+1);omega
 by_cases a:i<xs.length
 ·have o:=h i a
  rw[if_pos a] at c;rw[qL a,show aU (i:Int) (aM xs)=true from aY (by rw[aO];omega),gt,gt,bZ (by have:=o.1;have:=o.2.1;omega),←c];rw[d _ rfl (by
   rcases b with b|b
   ·exact .inl b
   ·rw[c]
    have:=Nt.Leap.gap h i (i-1);by_cases e:i=0
    ·exact .inl e
    ·have:=this (by omega) a
     have:=(h (i-1) (by omega)).2.1;refine .inr ?_;unfold Nt.Leap.least;(repeat' split)<;>omega) (fun _=>by rw[c];unfold Nt.Leap.least;(repeat' split)<;>omega)]
 ·rw[if_neg a] at c
  rw[show aU (i:Int) (aM xs)=false from aW (by rw[aO];omega),gf,←c];rw[d _ rfl (by
   rcases b with b|b
   ·exact .inl b
   ·rw[c]
    by_cases e:i=0
    ·exact .inl e
    ·have:=(h (i-1) (by omega)).2.1
     refine .inr ?_;unfold Nt.Leap.least;(repeat' split)<;>omega) (fun e=>absurd e a)]
theorem N6 (F:Nat) (xs:af) (n:Int) (b:Bool) (h:Nt.Leap.iU (lA xs) (lT xs) xs.length) (hl:xs.length≤1000) (g:jR xs (-1096193779200)≤n) (f:n≤jR xs 971890963199+1): ∀(i m:Nat),i≤xs.length→i<m→
  (∀j,i≤j→j<xs.length→n<lA xs j+Nt.Leap.cI (lT xs) (j+1))→
  AP F [] m xs n b (rH xs) (i:Int) some=some (.tup [.int .i64 (QE xs n),.bool (aU (jR xs (QE xs n)) n),.int .i64 0])
 |0,m,c,p,d=>by
  obtain⟨m,rfl⟩: ∃k,m=k+1:=⟨m-1,by omega⟩
  (rw[xk];(conv=>zeta);rw[show aU 0 ((0:Nat):Int)=false from rfl,gf])
  exact Sk F xs n h hl 0 c g f (.inl rfl) d
 |i+1,m,c,p,d=>by
  obtain⟨m,rfl⟩: ∃k,m=k+1:=⟨m-1,by omega⟩
  have s:=Nt.Leap.xS h (i+1) c;have l:=h i (by omega);have q:bu .i64 ((i+1:Nat):Int) 1=(i:Int):=by rw[bZ (by omega)];omega
  (rw[xk];(conv=>zeta);rw[aY (a:=0) (b:=((i+1:Nat):Int)) (by omega),gt,q,qL (xs:=xs) (i:=i) (by omega),gt,show au (aD 0 ((i+1:Nat):Int)) (aU ((i+1:Nat):Int) (aM (rH xs)))=true from qL (xs:=rH xs) (i:=i+1) (by rw[AU];omega),gt,AR xs c,show asInt (aL (bf xs (i:Int)) 0)=lA xs i from rfl,aZ (by have:=l.1;have:=l.2.1;omega)])
  by_cases e:n<lA xs i+Nt.Leap.cI (lT xs) (i+1)
  ·rw[aY e,gt]
   refine N6 F xs n b h hl g f i m (by omega) (by omega) fun j r h3=>?_
   by_cases o:j=i
   ·rw[o];exact e
   ·exact d j (by omega) h3
  ·rw[aW (by omega),gf]
   have:=Sk F xs n h hl (i+1) c g f (.inr (by rw[Nat.add_sub_cancel];omega)) d;rw[show au (aD 0 ((i+1:Nat):Int)) (aU ((i+1:Nat):Int) (aM (rH xs)))=true from qL (xs:=rH xs) (i:=i+1) (by rw[AU];omega),AR xs c] at this;exact this
theorem N7 (F:Nat) (xs:af) (n:Int) (b:Bool) (hB:j6 xs=true) (f:jR xs (-1096193779200)≤n) (c:n≤jR xs 971890963199+1): ∀(k m:Nat) (t:Int),k<m→t≤971890963199→-2000000000000≤t→t-(n-xs.length)<k→(t=971890963199∨n<jR xs (t+1))→
  wI F [] m xs n b t some=some (.tup [.int .i64 (QE xs n),.bool (aU (jR xs (QE xs n)) n),.int .i64 0])
 |k,m,t,a,i,l,h3,g=>by
  obtain⟨h,hl⟩:=jg.1 hB;obtain⟨m,rfl⟩: ∃k,m=k+1:=⟨m-1,by omega⟩
  have j:t-xs.length≤jR xs t∧jR xs t≤t+xs.length:=Nt.Leap.qB h t
  (rw[D6];(conv=>zeta);rw[hB,Bt (by omega),gB,gB,gt])
  by_cases e:n<jR xs t
  ·rw[aY e,gt,bZ (by omega)]
   have d:jR xs (-1096193779200)≤ -1096193779200+xs.length∧-1096193779200-xs.length≤jR xs (-1096193779200):=by
    have:=Nt.Leap.qB h (-1096193779200);exact⟨this.2,this.1⟩
   match k,a,h3 with
   |0,a,h3=>exfalso;omega
   |k+1,a,h3=>exact N7 F xs n b hB f c k m (t-1) (by omega) (by omega) (by omega) (by omega) (.inr (by rw[show t-1+1=t by omega];exact e))
  ·rw[aW (by omega),gf,gt]
   have hL:Nt.Leap.Last (lA xs) (lT xs) xs.length n t:=⟨i,by show jR xs t≤n;omega,g⟩
   rw[Lg h hL]
theorem WN (xs:af) (n:Int) (hl:xs.length≤1000000):aj dK 7 [.sl 39 [.int .i64,.int .i64] none xs,.int .i64 n] (.tup [.int .i64 (QU xs n),.bool (QV xs n),.int .i64 (Ht xs n)]):=by
 refine ax gD BO (xs.length+1) 2 ?_
 (rw[Un];(conv=>zeta);rw[Je,show aD (aM xs) 1000000=true from cO (by rw[aO];omega)])
 unfold QU QV Ht
 cases hB:j6 xs with
 |false=>rfl
 |true=>
  obtain⟨c,d⟩:=jg.1 hB;have f:971890963199-xs.length≤jR xs 971890963199∧jR xs 971890963199≤971890963199+xs.length:=Nt.Leap.qB c _;rw[Bt (by omega),Bt (by omega),aZ (by omega)];simp only[gB,gt,gn,gf,if_true];by_cases b:n<jR xs (-1096193779200)
  ·rw[aY b,gt,show(if n<jR xs (-1096193779200)∨jR xs 971890963199+1<n then(1:Int) else 0)=1 from if_pos (.inl b)];rfl
  ·rw[aW (by omega),gf]
   by_cases a:jR xs 971890963199+1<n
   ·rw[aY a,gt,show(if n<jR xs (-1096193779200)∨jR xs 971890963199+1<n then(1:Int) else 0)=1 from if_pos (.inr a)];rfl
   ·rw[aW (by omega),gf,show(if n<jR xs (-1096193779200)∨jR xs 971890963199+1<n then(1:Int) else 0)=0 from if_neg (fun e=>e.elim b a)]
    exact N6 _ xs n false c d (by omega) (by omega) xs.length _ (iI _) (by omega) fun j h3 g=>by omega
theorem Uv (xs:af) (n:Int) (hl:xs.length≤1000000):aj dK 8 [.sl 39 [.int .i64,.int .i64] none xs,.int .i64 n] (.tup [.int .i64 (QU xs n),.bool (QV xs n),.int .i64 (Ht xs n)]):=by
 refine ax gD BO 3000 2 ?_
 (rw[Qu];(conv=>zeta);rw[show aD (aM xs) 1000000=true from cO (by rw[aO];omega)])
 unfold QU QV Ht
 cases hB:j6 xs with
 |false=>rfl
 |true=>
  obtain⟨b,h⟩:=jg.1 hB;have g:971890963199-xs.length≤jR xs 971890963199∧jR xs 971890963199≤971890963199+xs.length:=Nt.Leap.qB b _;have d: -1096193779200-xs.length≤jR xs (-1096193779200)∧jR xs (-1096193779200)≤ -1096193779200+xs.length:=Nt.Leap.qB b _;rw[Bt (by omega),Bt (by omega),aZ (by omega)];simp only[gB,gt,gn,gf,if_true];by_cases c:n<jR xs (-1096193779200)
  ·rw[aY c,gt,show(if n<jR xs (-1096193779200)∨jR xs 971890963199+1<n then(1:Int) else 0)=1 from if_pos (.inl c)];rfl
  ·rw[aW (by omega),gf]
   by_cases a:jR xs 971890963199+1<n
   ·rw[aY a,gt,show(if n<jR xs (-1096193779200)∨jR xs 971890963199+1<n then(1:Int) else 0)=1 from if_pos (.inr a)];rfl
   ·rw[aW (by omega),gf,show(if n<jR xs (-1096193779200)∨jR xs 971890963199+1<n then(1:Int) else 0)=0 from if_neg (fun e=>e.elim c a),aZ (by omega),sJ]
    have f: ∀t,jR xs t≥t-xs.length:=fun t=>(Nt.Leap.qB b t).1
    refine N7 _ xs n false hB (by omega) (by omega) 2500 _ _ (by omega) (by unfold Nt.Leap.least;split<;>omega) (by unfold Nt.Leap.least;split<;>omega) (by unfold Nt.Leap.least;split<;>omega) ?_;unfold Nt.Leap.least;split
    ·have:=f (n+1001+1);right;omega
    ·left;rfl
end Nt.Ev.YtcmockbdkppglaaGreatDoor.Lp
