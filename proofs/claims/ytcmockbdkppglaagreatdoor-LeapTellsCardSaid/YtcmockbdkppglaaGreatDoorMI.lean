/-
  The plain law of the calendar: days, years, months. Civil: equations of functions, as the evaluator prints them.
-/
import Derived.Test.YtcmockbdkppglaaGreatDoorME
set_option linter.all false
set_option maxRecDepth 100000
namespace Nt.Civil
def fC (y:Int):Bool:=decide (y%4=0∧(y%100≠0∨y%400=0))
def jQ (y m:Int):Int:=if m=2 then(if fC y=true then 29 else 28) else if m=4∨m=6∨m=9∨m=11 then 30 else if 1≤m∧m≤12 then 31 else 0
def jY (y:Int):Int:=y/4-y/100+y/400
def bK (y:Int):Int:=365*(y-1970)+jY (y-1)-jY 1969
def pV (y m:Int):Int:=if m≤2 then 31*(m-1) else(153*(m-3)+2)/5+59+(if fC y=true then 1 else 0)
def Xr (y m d:Int):Int:=pV y m+d
def jV (y m d:Int):Int:=bK y+Xr y m d-1
def valid (y m d:Int):Prop:=1≤d∧d≤jQ y m
theorem pz (y:Int):fC y=true↔(y%4=0∧(y%100≠0∨y%400=0)):=by unfold fC;rw[Fw]
theorem nC (y:Int):bK (y+1)=bK y+365+(if fC y=true then 1 else 0):=by
 unfold bK jY;split
 ·rename_i h;rw[pz] at h;omega
 ·rename_i h;rw[pz] at h;omega
theorem iD {y m d:Int} (h:valid y m d):1≤m∧m≤12:=by
 unfold valid jQ at h
 (repeat' split at h)<;>omega
theorem wD (y m:Int) (b:1≤m) (c:m≤12):pV y (m+1)=pV y m+jQ y m:=by
 have a:m=1∨m=2∨m=3∨m=4∨m=5∨m=6∨m=7∨m=8∨m=9∨m=10∨m=11∨m=12:=by omega
 rcases a with rfl|rfl|rfl|rfl|rfl|rfl|rfl|rfl|rfl|rfl|rfl|rfl<;>unfold pV jQ<;>cases fC y<;>decide
theorem vN (y:Int):pV y 1=0:=rfl
theorem NC (y:Int):pV y 13=365+(if fC y=true then 1 else 0):=by unfold pV;cases fC y<;>decide
theorem og (y m:Int) (a:1≤m) (b:m≤12):28≤jQ y m∧jQ y m≤31:=by
 unfold jQ;(repeat' split)<;>omega
theorem mV (y:Int): ∀(k:Nat) (m:Int),1≤m→m+k≤13→pV y m+28*k≤pV y (m+k)
 |0,m,_,_=>by simp
 |k+1,m,b,c=>by
  have h3:=mV y k m b (by omega);have a:=wD y (m+k) (by omega) (by omega);have d:=og y (m+k) (by omega) (by omega);have e:m+((k+1:Nat):Int)=m+k+1:=by omega
  rw[e,a];omega
theorem yI {y m d:Int} (h:valid y m d):1≤Xr y m d∧Xr y m d≤365+(if fC y=true then 1 else 0):=by
 obtain⟨c,a⟩:=iD h;have h3:=mV y (m-1).toNat 1 (by omega) (by omega);have b:=mV y (13-(m+1)).toNat (m+1) (by omega) (by omega);have e:=wD y m c a;rw[show(1:Int)+((m-1).toNat:Int)=m by omega,vN] at h3;rw[show m+1+((13-(m+1)).toNat:Int)=13 by omega,NC] at b;unfold valid at h;unfold Xr;omega
theorem C8 (y:Int): ∀(k:Nat),bK y+365*k≤bK (y+k)
 |0=>by simp
 |k+1=>by
  have h:=C8 y k;have a:=nC (y+k);rw[show y+((k+1:Nat):Int)=y+k+1 by omega,a];split<;>omega
theorem mW {a b:Int} (h:a≤b):bK a+365*(b-a)≤bK b:=by
 have:=C8 a (b-a).toNat;rw[show a+((b-a).toNat:Int)=b by omega] at this;omega
theorem sD {y m d:Int} (h:valid y m d):bK y≤jV y m d∧jV y m d<bK (y+1):=by
 have a:=yI h;have b:=nC y;unfold jV;omega
def FZ (y m d:Int):Int:=y/400*146097+y%400*365+y%400/4-y%400/100+(153*m+2)/5+d-1-719468
theorem C9 {y m d:Int} (h:valid y m d):FZ (if m<3 then y-1 else y) (if m<3 then m+9 else m-3) d=jV y m d:=by
 obtain⟨m1,b⟩:=iD h;unfold FZ jV bK Xr pV jY;by_cases a:m<3
 ·rw[if_pos a,if_pos a,if_pos (by omega)]
  have:m=1∨m=2:=by omega
  rcases this with rfl|rfl<;>omega
 ·rw[if_neg a,if_neg a,if_neg (by omega)]
  have e:(y-1)/4-(y-1)/100+(y-1)/400+(if fC y=true then 1 else 0)=y/4-y/100+y/400:=by
   split
   ·rename_i h;rw[pz] at h;omega
   ·rename_i h;rw[pz] at h;omega
  generalize (if fC y=true then(1:Int) else 0)=z at*;generalize (153*(m-3)+2)/5=t at*;omega
theorem Mc (r:Int) (p:0≤r) (w:r<146097): ∃y L,(r-r/1460+r/36524-r/146096)/365=y∧0≤y∧y≤399∧r=365*y+y/4-y/100+L∧0≤L∧L≤365∧(L=365→fC (y+1)=true):=by
 by_cases h:r=146096
 ·subst h
  exact⟨399,365,by decide,by decide,by decide,by decide,by decide,by decide,fun _=>by decide⟩
 ·obtain⟨k,t,j,u,rfl,s,q,C,D,I,x,B⟩: ∃k t j u:Int,r=36524*k+1461*j+u∧0≤k∧k≤3∧t=1461*j+u∧t<36524∧0≤j∧0≤u∧u≤1460:=
   ⟨r/36524,r%36524,r%36524/1461,r%36524%1461,by omega,by omega,by omega,by omega,by omega,by omega,by omega,by omega⟩
  have n:j≤24:=by omega
  have d:(36524*k+1461*j+u)/36524=k:=by omega
  have f:(36524*k+1461*j+u)/146096=0:=by omega
  have a: ∃e:Int,(36524*k+1461*j+u)/1460=25*k+j+e∧0≤e∧e≤1∧(e=1→1340≤u)∧(e=0→u≤1459):=by
   refine⟨(24*k+j+u)/1460,?_,?_,?_,?_,?_⟩<;>omega
  obtain⟨e,i,m,G,A,H⟩:=a;rw[d,f,i];have b: ∃v:Int,(u-e)/365=v∧0≤v∧v≤3∧365*v≤u∧u≤365*v+365∧(u=365*v+365→v=3):=by
   refine⟨(u-e)/365,rfl,?_,?_,?_,?_,?_⟩<;>omega
  obtain⟨v,b,J,z,E,o,F⟩:=b;have g:(36524*k+1461*j+u-(25*k+j+e)+k-0)/365=100*k+4*j+v:=by omega
  have c:(100*k+4*j+v)/4=25*k+j:=by omega
  have l:(100*k+4*j+v)/100=k:=by omega
  refine⟨100*k+4*j+v,u-365*v,g,by omega,by omega,by rw[c,l];omega,by omega,by omega,fun hL=>?_⟩;rw[pz];have:v=3:=by omega
  subst this;omega
theorem JZ (L:Int) (f:0≤L) (e:L≤365): ∃m D,(5*L+2)/153=m∧L-(153*m+2)/5+1=D∧0≤m∧m≤11∧1≤D∧(∀y:Int,(L=365→fC y=true)→D≤jQ y (if m+3>12 then m+3-12 else m+3)):=by
 refine⟨(5*L+2)/153,_,rfl,rfl,by omega,by omega,by omega,fun y b=>?_⟩;obtain⟨m,a⟩: ∃m,(5*L+2)/153=m:=⟨_,rfl⟩
 rw[a];have d:m=0∨m=1∨m=2∨m=3∨m=4∨m=5∨m=6∨m=7∨m=8∨m=9∨m=10∨m=11:=by omega
 unfold jQ;rcases d with rfl|rfl|rfl|rfl|rfl|rfl|rfl|rfl|rfl|rfl|rfl|rfl<;>simp<;>(try split)<;>(try omega)
 all_goals
  rename_i hl;by_cases c:L=365
  ·exact absurd (b c) (by simpa using hl)
  ·omega
end Nt.Civil
namespace Nt.Ev.YtcmockbdkppglaaGreatDoor
open Go Nt.Num Go.Proofs.YtcmockbdkppglaaGreatDoor
open Nt.Civil
noncomputable def vE:Env:=⟨Go.Proofs.Tryz.prog,fun _=>none⟩
def fq (a b:Int):Int:=a/b
def fr (a b:Int):Int:=a%b
noncomputable def YO:aN:=fun a=>match a with|[.int .i64 a,.int .i64 b]=>some (au (au (aD (-9223372036854775808) a) (aD a 9223372036854775807)) (au (aU 0 b) (aD b 1000000)),.tup [.int .i64 (fq a b),.int .i64 (fr a b),.int .i64 0])|_=>none
noncomputable def vS:List (Nat×aN):=(56,YO)::(64,YO)::[]
noncomputable def Rt:aN:=fun a=>match a with|[.int .i64 y]=>some (au (aD (-9223372036854775808) y) (aD y 9223372036854775807),.bool (fC y))|_=>none
noncomputable def ZP:List (Nat×aN):=(100,Rt)::(86,Rt)::vS
noncomputable def YP:aN:=fun a=>match a with|[.int .i64 y,.int .i64 m]=>some (au (aD (-9223372036854775808) y) (aD y 9223372036854775807),.int .i64 (jQ y m))|_=>none
noncomputable def RZ:aN:=fun a=>match a with|[.int .i64 y]=>some (au (aD (-50000) y) (aD y 50000),.int .i64 (bK y))|_=>none
noncomputable def vS2:List (Nat×aN):=(83,YP)::(63,YP)::(62,RZ)::ZP
def dh (y m d:Int):Bool:=decide (-40000≤y∧y≤40000∧1≤d∧d≤jQ y m)
noncomputable def KU:aN:=fun a=>match a with|[.agg [.int .i64 y,.int .i64 m,.int .i64 d]]=>some (true,.bool (dh y m d))|_=>none
noncomputable def QO:List (Nat×aN):=(58,KU)::(65,KU)::vS2
def dR (n:Int):Int:=((n+719468)%146097-(n+719468)%146097/1460+(n+719468)%146097/36524-(n+719468)%146097/146096)/365
def dL (n:Int):Int:=(n+719468)%146097-(365*dR n+dR n/4-dR n/100)
def dT (n:Int):Int:=(5*dL n+2)/153
def dM (n:Int):Int:=if dT n+3>12 then dT n+3-12 else dT n+3
def dY (n:Int):Int:=(n+719468)/146097*400+dR n+(if dT n+3>12 then 1 else 0)
def dD (n:Int):Int:=dL n-(153*dT n+2)/5+1
noncomputable def ND:aN:=fun a=>match a with|[.agg [.int .i64 y,.int .i64 m,.int .i64 d]]=>some (dh y m d,.int .i64 (jV y m d))|_=>none
noncomputable def XJ:aN:=fun a=>match a with|[.int .i64 n]=>some (au (aD (-16000000) n) (aD n 16000000),.agg [.int .i64 (dY n),.int .i64 (dM n),.int .i64 (dD n)])|_=>none
def Yh (y m d:Int):Int:=if dh y m d=true then 0 else 1
def ZQ (y m d:Int):Int:=if dh y m d=true then Xr y m d else 0
noncomputable def IU:aN:=fun a=>match a with|[.agg [.int .i64 y,.int .i64 m,.int .i64 d]]=>some (true,.tup [.int .i64 (ZQ y m d),.int .i64 (Yh y m d)])|_=>none
noncomputable def vS4:List (Nat×aN):=(98,ND)::(57,XJ)::(99,IU)::QO
theorem Pz (F y) (K:V→Option V):
 dn vE (cu vE vS F 2) F 100 [V.int .i64 y] K=
 sel (ieq (yR .and .i64 y 3) 0) (sel (aT (ieq (qG y 25) 0)) (K (V.bool true)) (K (V.bool (ieq (yR .and .i64 y 15) 0)))) (K (V.bool false)):=by kernel_rfl
theorem PD (F y) (K:V→Option V):
 dn vE (cu vE vS F 2) F 86 [V.int .i64 y] K=
 let A:=K (V.bool (ieq (qG y 400) 0));sel (ieq (qG y 4) 0) (sel (aT (ieq (qG y 100) 0)) (K (V.bool true)) A) A:=by kernel_rfl
theorem Tk (F y m) (K:V→Option V):
 dn vE (cu vE ZP F 2) F 83 [V.int .i64 y,V.int .i64 m] K=
 let B:=sel (ieq m 2) (sel (au (aD (-9223372036854775808) y) (aD y 9223372036854775807)) (sel (fC y) (K (V.int .i64 29)) (K (V.int .i64 28))) none) (K (V.int .i64 0));let C:=K (V.int .i64 31);let D:=K (V.int .i64 30);let A:=sel (ieq m 4) (sel (ieq m 4) D B) (sel (ieq m 6) (sel (ieq m 6) D B) (sel (ieq m 9) (sel (ieq m 9) D B) (sel (ieq m 11) D B)));sel (ieq m 1) (sel (ieq m 1) C A) (sel (ieq m 3) (sel (ieq m 3) C A) (sel (ieq m 5) (sel (ieq m 5) C A) (sel (ieq m 7) (sel (ieq m 7) C A) (sel (ieq m 8) (sel (ieq m 8) C A) (sel (ieq m 10) (sel (ieq m 10) C A) (sel (ieq m 12) C A)))))):=by kernel_rfl
theorem Tm (F y m) (K:V→Option V):
 dn vE (cu vE ZP F 2) F 63 [V.int .i64 y,V.int .i64 m] K=
 let C:=V.int .i64 31;let D:=V.int .i64 30;let E:=bu .i64 m 1;let G:=K (V.int .i64 0);let A:=[C,V.int .i64 28,C,D,C,D,C,C,D,C,D,C];let B:=sel (au (aD 0 E) (aU E (aM A))) (K (V.int .i64 (asInt (aL (bf A E) 0)))) (none);sel (aU m 1) G (sel (aU 12 m) G (sel (ieq m 2) (sel (au (aD (-9223372036854775808) y) (aD y 9223372036854775807)) (sel (fC y) (K (V.int .i64 29)) B) none) B)):=by kernel_rfl
theorem Md (F y) (K:V→Option V):
 dn vE (cu vE ZP F 4) F 62 [V.int .i64 y] K=
 let B:=bu .i64 y 1;let A:=au (aD (-9223372036854775808) B) (aD B 9223372036854775807);sel (au A (au (aU 0 4) (aD 4 1000000))) (sel (au A (au (aU 0 100) (aD 100 1000000))) (sel (au A (au (aU 0 400) (aD 400 1000000))) (K (V.int .i64 (bu .i64 (aV .i64 (fM .i64 365 (bu .i64 y 1970)) (aV .i64 (bu .i64 (fq B 4) (fq B 100)) (fq B 400))) (aV .i64 (bu .i64 (fq 1969 4) (fq 1969 100)) (fq 1969 400))))) none) none) none:=by kernel_rfl
theorem Me (F y m d) (K:V→Option V):
 dn vE (cu vE vS2 F 2) F 58 [V.agg [V.int .i64 y,V.int .i64 m,V.int .i64 d]] K=
 let A:=K (V.bool false);sel (aD (-40000) y) (sel (aD y 40000) (sel (aD 1 d) (sel (au (aD (-9223372036854775808) y) (aD y 9223372036854775807)) (K (V.bool (aD d (jQ y m)))) none) A) A) A:=by kernel_rfl
theorem J2 (F y m d) (K:V→Option V):
 dn vE (cu vE vS2 F 2) F 65 [V.agg [V.int .i64 y,V.int .i64 m,V.int .i64 d]] K=
 let A:=K (V.bool false);sel (aD (-40000) y) (sel (aD y 40000) (sel (aD 1 d) (sel (au (aD (-9223372036854775808) y) (aD y 9223372036854775807)) (K (V.bool (aD d (jQ y m)))) none) A) A) A:=by kernel_rfl
theorem J3 (F y m d) (K:V→Option V):
 dn vE (cu vE QO F 2) F 98 [V.agg [V.int .i64 y,V.int .i64 m,V.int .i64 d]] K=
 let A:=bu .i64 y 1;let B:=au (aU 0 400) (aD 400 1000000);let C:=bu .i64 m 3;let E:=fr y 400;let D:=fr A 400;sel (aU C 0) (sel (au (au (aD (-9223372036854775808) A) (aD A 9223372036854775807)) B) (K (V.int .i64 (bu .i64 (aV .i64 (bu .i64 (aV .i64 (aV .i64 (fM .i64 (fq A 400) 146097) (fM .i64 D 365)) (gX .i64 D 4)) (gX .i64 D 100)) (bu .i64 (aV .i64 (gX .i64 (aV .i64 (fM .i64 153 (aV .i64 C 12)) 2) 5) d) 1)) 719468))) none) (sel (au (au (aD (-9223372036854775808) y) (aD y 9223372036854775807)) B) (K (V.int .i64 (bu .i64 (aV .i64 (bu .i64 (aV .i64 (aV .i64 (fM .i64 (fq y 400) 146097) (fM .i64 E 365)) (gX .i64 E 4)) (gX .i64 E 100)) (bu .i64 (aV .i64 (gX .i64 (aV .i64 (fM .i64 153 C) 2) 5) d) 1)) 719468))) none):=by kernel_rfl
noncomputable def oz:=fun F h n e a c g i b d f K=>(eB vE QO F 3 99 [1,1,1,0,1,0] h K n (iN 24 [(0,V.agg [V.int .i64 e,V.int .i64 a,V.int .i64 c]),(1,V.box 1 0),(2,V.int .i64 0),(3,V.int .i64 0),(4,V.int .i64 g),(5,V.int .i64 i)] [(1,[V.int .i64 b,V.int .i64 d,V.int .i64 f])]):Option V)
theorem G5 (F y m d) (K:V→Option V):
 dn vE (cu vE QO F 3) F 99 [V.agg [V.int .i64 y,V.int .i64 m,V.int .i64 d]] K=
 sel (aT (dh y m d)) (K (V.tup [V.int .i64 0,V.int .i64 1])) (oz F [] F y m d d 1 y m d K):=by kernel_rfl
theorem yP (F n e c d h g a b f K):
 oz F [] (n+1) e c d h g a b f K=
 sel (aU g b) (sel (au (aD (-9223372036854775808) a) (aD a 9223372036854775807)) (oz F [] n e c d (aV .i64 h (jQ a g)) (aV .i64 g 1) a b f K) none) (K (V.tup [V.int .i64 h,V.int .i64 0])):=by kernel_rfl
theorem Mf (F n) (K:V→Option V):
 dn vE (cu vE QO F 2) F 57 [V.int .i64 n] K=
 let D:=aV .i64 n 719468;let G:=fr D 146097;let A:=gX .i64 (bu .i64 (aV .i64 (bu .i64 G (gX .i64 G 1460)) (gX .i64 G 36524)) (gX .i64 G 146096)) 365;let B:=bu .i64 G (bu .i64 (aV .i64 (fM .i64 365 A) (gX .i64 A 4)) (gX .i64 A 100));let H:=aV .i64 (fM .i64 (fq D 146097) 400) A;let C:=gX .i64 (aV .i64 (fM .i64 5 B) 2) 153;let E:=V.int .i64 (aV .i64 (bu .i64 B (gX .i64 (aV .i64 (fM .i64 153 C) 2) 5)) 1);let I:=aV .i64 C 3;sel (au (au (aD (-9223372036854775808) D) (aD D 9223372036854775807)) (au (aU 0 146097) (aD 146097 1000000))) (sel (aU 12 I) (K (V.agg [V.int .i64 (aV .i64 H 1),V.int .i64 (bu .i64 I 12),E])) (K (V.agg [V.int .i64 H,V.int .i64 I,E]))) none:=by kernel_rfl
noncomputable def wE:=fun F f n d e c b a K=>(eB vE QO F 3 40 [1,1,1,0,0] f K n (iN 53 [(0,V.int .i64 d),(2,V.box 2 0),(3,V.int .i64 0),(4,V.int .i64 e),(5,V.tup []),(6,V.tup [])] [(2,[V.int .i64 c,V.int .i64 b,V.int .i64 a])]):Option V)
noncomputable def wF:=fun F f n d e c b a K=>(eB vE QO F 3 40 [1,1,1,1,0,0] f K n (iN 53 [(0,V.int .i64 d),(2,V.box 2 0),(3,V.int .i64 0),(4,V.int .i64 e),(5,V.tup []),(6,V.tup [])] [(2,[V.int .i64 c,V.int .i64 b,V.int .i64 a])]):Option V)
noncomputable def wG:=fun F f n d e h g c b a K=>(eB vE QO F 3 40 [1,1,1,1,1,1,1,0,0] f K n (iN 53 [(0,V.int .i64 d),(2,V.box 2 0),(3,V.int .i64 0),(4,V.int .i64 e),(5,V.int .i64 h),(6,V.int .i64 g)] [(2,[V.int .i64 c,V.int .i64 b,V.int .i64 a])]):Option V)
theorem PE (F n) (K:V→Option V):
 dn vE (cu vE QO F 3) F 40 [V.int .i64 n] K=
 let B:=V.int .i64 0;let A:=K (V.tup [V.agg [B,B,B],V.int .i64 1]);sel (aU n (bK (-40000))) A (sel (aD (bK 40001) n) A (sel (au (au (aD (-9223372036854775808) n) (aD n 9223372036854775807)) (au (aU 0 366) (aD 366 1000000))) (wE F [] F n (aV .i64 1970 (fq n 366)) 0 0 0 K) none)):=by kernel_rfl
theorem DZ (F n e d c b a K):
 wE F [] (n+1) e d c b a K=
 sel (au (aD (-50000) d) (aD d 50000)) (sel (aU e (bK d)) (wE F [] n e (bu .i64 d 1) c b a K) (wF F [] F e d c b a K)) none:=by kernel_rfl
theorem D3 (F n e d c b a K):
 wF F [] (n+1) e d c b a K=
 let A:=aV .i64 d 1;sel (au (aD (-50000) A) (aD A 50000)) (sel (aD (bK A) e) (wF F [] n e A c b a K) (sel (au (aD (-50000) d) (aD d 50000)) (wG F [] F e d (bu .i64 e (bK d)) 1 c b a K) none)) none:=by kernel_rfl
theorem D4 (F n g d f e c b a K):
 wG F [] (n+1) g d f e c b a K=
 let A:=au (aD (-9223372036854775808) d) (aD d 9223372036854775807);sel A (sel (aD (jQ d e) f) (sel A (wG F [] n g d (bu .i64 f (jQ d e)) (aV .i64 e 1) c b a K) none) (K (V.tup [V.agg [V.int .i64 d,V.int .i64 e,V.int .i64 (aV .i64 f 1)],V.int .i64 0]))) none:=by kernel_rfl
theorem PG (F y m d) (K:V→Option V):
 dn vE (cu vE vS4 F 3) F 76 [V.agg [V.int .i64 y,V.int .i64 m,V.int .i64 d]] K=
 sel (aT (dh y m d)) (K (V.tup [V.int .i64 0,V.int .i64 1])) (sel (dh y m d) (K (V.tup [V.int .i64 (jV y m d),V.int .i64 0])) none):=by kernel_rfl
theorem PI (F y m d) (K:V→Option V):
 dn vE (cu vE vS4 F 3) F 81 [V.agg [V.int .i64 y,V.int .i64 m,V.int .i64 d]] K=
 sel (aT (ieq (Yh y m d) 0)) (K (V.tup [V.int .i64 0,V.int .i64 (Yh y m d)])) (sel (au (aD (-50000) y) (aD y 50000)) (K (V.tup [V.int .i64 (bu .i64 (aV .i64 (bK y) (ZQ y m d)) 1),V.int .i64 0])) none):=by kernel_rfl
theorem PK (F n) (K:V→Option V):
 dn vE (cu vE vS4 F 3) F 36 [V.int .i64 n] K=
 let B:=V.int .i64 0;let A:=K (V.tup [V.agg [B,B,B],V.int .i64 1]);sel (aU n (-16000000)) A (sel (aU 16000000 n) A (sel (au (aD (-16000000) n) (aD n 16000000)) (sel (aT (dh (dY n) (dM n) (dD n))) A (K (V.tup [V.agg [V.int .i64 (dY n),V.int .i64 (dM n),V.int .i64 (dD n)],B]))) none)):=by kernel_rfl
open Go.RowKit Nt
theorem iK:qy vE:=⟨by kernel_rfl,by kernel_rfl⟩
theorem Ru {m:Int} (h:au (aD (-9223372036854775808) m) (aD m 9223372036854775807)=true):Fits m:=by rw[ay,ak,ak] at h;exact h
theorem vB {m:Int} (h:Fits m):au (aD (-9223372036854775808) m) (aD m 9223372036854775807)=true:=by rw[ay,ak,ak];exact h
theorem IV (a b:Int) (j:0<b):uo a b=(a/b,a%b,0):=by
 have l:=acm a b;have h:=Int.mul_ediv_add_emod a b;have h3:=Int.emod_nonneg a (show b≠0 by omega);have n:=Int.emod_lt_of_pos a j;have o:=Au a b (by omega);rw[yG a b (by omega) (by omega)];have c: ∀q r:Int,b*q+r=a→0≤r→r<b→q=a/b∧r=a%b:=fun q r e k i=>by
  have g:a/b=q:=by
   rw[←e,Int.add_comm,Int.add_mul_ediv_left _ _ (by omega),Int.ediv_eq_zero_of_lt k i];omega
  refine⟨g.symm,?_⟩;rw[g] at h;omega
 split
 ·rename_i m
  obtain⟨d,f⟩:=c (a.tdiv b-1) (a.tmod b+b) (by rw[Int.mul_sub];omega) (by omega) (by omega);rw[d,f]
 ·rename_i m
  obtain⟨d,f⟩:=c (a.tdiv b) (a.tmod b) l (by omega) (by omega);rw[d,f]
theorem E5 {a b:Int} (e:au (au (aD (-9223372036854775808) a) (aD a 9223372036854775807)) (au (aU 0 b) (aD b 1000000))=true):Fits a∧Fits b∧0<b:=by
 obtain⟨d,c⟩:=aS e;rw[ay,aQ,ak] at c;exact⟨Ru d,by unfold Fits;omega,c.1⟩
theorem NE (a b:Int) (j:au (au (aD (-9223372036854775808) a) (aD a 9223372036854775807)) (au (aU 0 b) (aD b 1000000))=true):aj vE 56 [.int .i64 a,.int .i64 b] (.tup [.int .i64 (fq a b),.int .i64 (fr a b),.int .i64 0]):=by
 obtain⟨i,h,g⟩:=E5 j;refine eO fun G w vs l k d=>?_
 obtain⟨x,y,rfl,hx,c⟩:=pX d;unfold aK at hx c;subst hx;subst c;refine(n_div a b w i h).mono ?_;rintro e w' ⟨rfl,f⟩;rw[IV a b g];exact⟨_,rfl,L5 f,E4 (lu _ _) (lu _ _) (lu _ _)⟩
theorem jq (a b:Int) (j:au (au (aD (-9223372036854775808) a) (aD a 9223372036854775807)) (au (aU 0 b) (aD b 1000000))=true):aj vE 64 [.int .i64 a,.int .i64 b] (.tup [.int .i64 (fq a b),.int .i64 (fr a b),.int .i64 0]):=by
 obtain⟨i,h,g⟩:=E5 j;refine eO fun G w vs l k d=>?_
 obtain⟨x,y,rfl,hx,c⟩:=pX d;unfold aK at hx c;subst hx;subst c;refine(r_div a b w i h).mono ?_;rintro e w' ⟨rfl,f⟩;rw[IV a b g];exact⟨_,rfl,by rw[f];exact Below.refl _ _,E4 (lu _ _) (lu _ _) (lu _ _)⟩
theorem Rv:bT vE vS:=by
 unfold vS;refine bT.cons (fun args r h=>?_) (bT.cons (fun args r h=>?_) bT.nil);all_goals (revert h;intro h;first|unfold YO at h)
 all_goals (split at h;rotate_left; · cases h)
 all_goals (simp only[aI,bU] at h;obtain⟨a,rfl⟩:=h)
 ·exact NE _ _ a
 ·exact jq _ _ a
theorem NF (y:Int) (k:Nat) (h:k≤8) (m:Int) (g:m=((2 ^ k-1:Nat):Int)):yR .and .i64 y m=y%((2 ^ k:Nat):Int):=by
 subst g;have l:2 ^ k≤2 ^ 8:=UZ (by decide) h;have o:0<2 ^ k:=acP (by decide);have e:((BitVec.ofInt IntKind.i64.bits y&&& BitVec.ofInt IntKind.i64.bits ((2 ^ k-1:Nat):Int)).toNat:Int)=y%((2 ^ k:Nat):Int):=by
  rw[BitVec.toNat_and];have i:(BitVec.ofInt IntKind.i64.bits ((2 ^ k-1:Nat):Int)).toNat=2 ^ k-1:=by
   rw[BitVec.ofInt_natCast,BitVec.toNat_ofNat,Nat.mod_eq_of_lt];have:(2:Nat) ^ 8<2 ^ IntKind.i64.bits:=by decide
   omega
  rw[i,Nat.and_two_pow_sub_one_eq_mod,BitVec.toNat_ofInt];have c:((2 ^ IntKind.i64.bits:Nat):Int)=18446744073709551616:=by decide
  rw[c];have d:((2 ^ k:Nat):Int) ∣ 18446744073709551616:=by
   have:(2 ^ k:Nat) ∣ 2 ^ 64:=Nat.pow_dvd_pow 2 (by omega);exact Int.natCast_dvd_natCast.2 this
  have j:0≤y%18446744073709551616:=by omega
  have f: ∀a b:Nat,((a%b:Nat):Int)=(a:Int)%(b:Int):=fun _ _=>rfl
  rw[f,Int.toNat_of_nonneg j,Int.emod_emod_of_dvd _ d]
 unfold yR;simp only;rw[e];have n:=Int.emod_nonneg y (show((2 ^ k:Nat):Int)≠0 by omega);have h3:=Int.emod_lt_of_pos y (show(0:Int)<((2 ^ k:Nat):Int) by omega);exact IntWalk.i64_in _ (by omega)
theorem sF (y k:Int) (a:0<k):(qG y k=0)=(y%k=0):=by
 unfold qG;refine propext ⟨fun h=>?_,fun h=>?_⟩
 ·exact Int.emod_eq_zero_of_dvd (Int.dvd_of_tmod_eq_zero h)
 ·exact Int.tmod_eq_zero_of_dvd (Int.dvd_of_emod_eq_zero h)
theorem Tn (y:Int):aj vE 100 [.int .i64 y] (.bool (fC y)):=by
 refine ax iK Rv 5 2 ?_;rw[Pz,NF y 2 (by decide) 3 rfl,NF y 4 (by decide) 15 rfl];have b:((2 ^ 2:Nat):Int)=4:=rfl;have a:((2 ^ 4:Nat):Int)=16:=rfl;rw[b,a];simp only[jv,lW,o9,sF y 25 (by decide)];unfold fC;repeat' split
 all_goals first
  |(rw[Dx (by omega)];done)
  |(rw[ve (by omega)];done)
  |(congr 2;unfold ieq;rw[D8];simp;omega)
theorem Tp (y:Int):aj vE 86 [.int .i64 y] (.bool (fC y)):=by
 refine ax iK Rv 5 2 ?_
 (rw[PD];(conv=>zeta))
 have a:ieq (qG y 400) 0=decide (y%400=0):=by
  rw[D8,lW,sF y 400 (by decide),Fw]
 rw[a];simp only[jv,lW,o9,sF y 4 (by decide),sF y 100 (by decide)];unfold fC;repeat' split
 all_goals first
  |(rw[Dx (by omega)];done)
  |(rw[ve (by omega)];done)
  |(congr 2;rw[D8];simp;omega)
theorem Tq (y:Int) (a:au (aD (-9223372036854775808) y) (aD y 9223372036854775807)=true):aj vE 100 [.int .i64 y] (.bool (fC y)):=Tn y
theorem l5 (y:Int) (a:au (aD (-9223372036854775808) y) (aD y 9223372036854775807)=true):aj vE 86 [.int .i64 y] (.bool (fC y)):=Tp y
theorem F3:bT vE ZP:=by
 unfold ZP;refine bT.cons (fun args r h=>?_) (bT.cons (fun args r h=>?_) Rv);all_goals (revert h;intro h;first|unfold Rt at h)
 all_goals (split at h;rotate_left; · cases h)
 all_goals (simp only[aI,bU] at h;obtain⟨a,rfl⟩:=h)
 ·exact Tq _ a
 ·exact l5 _ a
theorem st' (x y:Option V):sel true x y=x:=rfl
theorem sf' (x y:Option V):sel false x y=y:=rfl
theorem V8 (y m:Int) (b:Fits y):aj vE 83 [.int .i64 y,.int .i64 m] (.int .i64 (jQ y m)):=by
 refine ax iK F3 5 2 ?_
 (rw[Tk];(conv=>zeta))
 have a:=vB b;by_cases d:1≤m∧m≤12
 ·have c:m=1∨m=2∨m=3∨m=4∨m=5∨m=6∨m=7∨m=8∨m=9∨m=10∨m=11∨m=12:=by omega
  rcases c with rfl|rfl|rfl|rfl|rfl|rfl|rfl|rfl|rfl|rfl|rfl|rfl;all_goals
   simp only[ieq,Int.reduceBEq,st',sf',a];unfold jQ
   cases fC y<;>rfl
 ·have g: ∀k:Int,1≤k→k≤12→ieq m k=false:=fun k f e=>bD (by omega)
  have hl:jQ y m=0:=by unfold jQ;rw[if_neg (by omega),if_neg (by omega),if_neg (by omega)]
  simp only[g 1 (by decide) (by decide),g 2 (by decide) (by decide),g 3 (by decide) (by decide),g 4 (by decide) (by decide),g 5 (by decide) (by decide),g 6 (by decide) (by decide),g 7 (by decide) (by decide),g 8 (by decide) (by decide),g 9 (by decide) (by decide),g 10 (by decide) (by decide),g 11 (by decide) (by decide),g 12 (by decide) (by decide),st',sf',hl]
theorem V9 (y m:Int) (b:Fits y):aj vE 63 [.int .i64 y,.int .i64 m] (.int .i64 (jQ y m)):=by
 refine ax iK F3 5 2 ?_
 (rw[Tm];(conv=>zeta))
 have a:=vB b;by_cases d:m<1
 ·have hl:jQ y m=0:=by unfold jQ;rw[if_neg (by omega),if_neg (by omega),if_neg (by omega)]
  rw[ai (aY d),hl]
 by_cases c:12<m
 ·have hl:jQ y m=0:=by unfold jQ;rw[if_neg (by omega),if_neg (by omega),if_neg (by omega)]
  rw[aB (aW (by omega)),ai (aY c),hl]
 rw[aB (aW (by omega)),aB (aW (by omega)),a];have e:m=1∨m=2∨m=3∨m=4∨m=5∨m=6∨m=7∨m=8∨m=9∨m=10∨m=11∨m=12:=by omega
 rcases e with rfl|rfl|rfl|rfl|rfl|rfl|rfl|rfl|rfl|rfl|rfl|rfl<;>unfold jQ<;>cases fC y<;>rfl
theorem PL (y:Int) (h: -50000≤y∧y≤50000):aj vE 62 [.int .i64 y] (.int .i64 (bK y)):=by
 refine ax iK F3 5 4 ?_
 (rw[Md];(conv=>zeta))
 have b:bu .i64 y 1=y-1:=bZ (by omega);have a:au (aD (-9223372036854775808) (y-1)) (aD (y-1) 9223372036854775807)=true:=vB (by unfold Fits;omega);rw[b,a];unfold fq;have e:aV .i64 (bu .i64 ((y-1)/4) ((y-1)/100)) ((y-1)/400)=jY (y-1):=by
  unfold jY;rw[bZ (by omega),aZ (by omega)]
 have c:aV .i64 (bu .i64 (1969/4) (1969/100)) (1969/400)=jY 1969:=rfl;have d:fM .i64 365 (bu .i64 y 1970)=365*(y-1970):=by rw[bZ (by omega),iH (by omega)]
 have f: -20000≤jY (y-1)∧jY (y-1)≤20000:=by unfold jY;omega
 have g:jY 1969=477:=by decide
 rw[e,c,d,aZ (by omega),bZ (by omega)];rfl
theorem Wd (y m:Int) (a:au (aD (-9223372036854775808) y) (aD y 9223372036854775807)=true):aj vE 83 [.int .i64 y,.int .i64 m] (.int .i64 (jQ y m)):=V8 y m (Ru a)
theorem nP (y m:Int) (a:au (aD (-9223372036854775808) y) (aD y 9223372036854775807)=true):aj vE 63 [.int .i64 y,.int .i64 m] (.int .i64 (jQ y m)):=V9 y m (Ru a)
theorem PN (y:Int) (a:au (aD (-50000) y) (aD y 50000)=true):aj vE 62 [.int .i64 y] (.int .i64 (bK y)):=PL y (by rw[ay,ak,ak] at a;exact a)
theorem KV:bT vE vS2:=by
 unfold vS2;refine bT.cons (fun args r h=>?_) (bT.cons (fun args r h=>?_) (bT.cons (fun args r h=>?_) F3));all_goals (revert h;intro h;first|unfold YP at h|unfold RZ at h)
 all_goals (split at h;rotate_left; · cases h)
 all_goals (simp only[aI,bU] at h;obtain⟨a,rfl⟩:=h)
 ·exact Wd _ _ a
 ·exact nP _ _ a
 ·exact PN _ a
theorem PO (y m d:Int):aj vE 58 [.agg [.int .i64 y,.int .i64 m,.int .i64 d]] (.bool (dh y m d)):=by
 refine ax iK KV 5 2 ?_
 (rw[Me];(conv=>zeta))
 unfold dh;simp only[jv,ak,o9,ay];repeat' split
 all_goals first
  |(rw[ve (by omega)];done)
  |(exfalso;omega)
  |(congr 2;unfold aD;rw[D8];simp;omega)
theorem Mg (y m d:Int):aj vE 65 [.agg [.int .i64 y,.int .i64 m,.int .i64 d]] (.bool (dh y m d)):=by
 refine ax iK KV 5 2 ?_
 (rw[J2];(conv=>zeta))
 unfold dh;simp only[jv,ak,o9,ay];repeat' split
 all_goals first
  |(rw[ve (by omega)];done)
  |(exfalso;omega)
  |(congr 2;unfold aD;rw[D8];simp;omega)
theorem E6 (y m d:Int) (a:true=true):aj vE 58 [.agg [.int .i64 y,.int .i64 m,.int .i64 d]] (.bool (dh y m d)):=PO y m d
theorem gW (y m d:Int) (a:true=true):aj vE 65 [.agg [.int .i64 y,.int .i64 m,.int .i64 d]] (.bool (dh y m d)):=Mg y m d
theorem BK:bT vE QO:=by
 unfold QO;refine bT.cons (fun args r h=>?_) (bT.cons (fun args r h=>?_) KV);all_goals (revert h;intro h;first|unfold KU at h)
 all_goals (split at h;rotate_left; · cases h)
 all_goals (simp only[aI,bU] at h;obtain⟨a,rfl⟩:=h)
 ·exact E6 _ _ _ rfl
 ·exact gW _ _ _ rfl
theorem iY {y m d:Int}:dh y m d=true↔-40000≤y∧y≤40000∧valid y m d:=by
 unfold dh valid;rw[Fw]
theorem Mh (y m d:Int) (h:dh y m d=true):aj vE 98 [.agg [.int .i64 y,.int .i64 m,.int .i64 d]] (.int .i64 (jV y m d)):=by
 refine ax iK BK 5 2 ?_
 (rw[J3];(conv=>zeta))
 obtain⟨j,k,c⟩:=iY.1 h;obtain⟨m1,g⟩:=iD c;have i:1≤d∧d≤31:=by have:=og y m m1 g;unfold valid at c;omega
 have a:=C9 c;have e:bu .i64 m 3=m-3:=bZ (by omega);have f:bu .i64 y 1=y-1:=bZ (by omega);rw[e,f];unfold FZ at a;by_cases b:m<3
 ·rw[if_pos b,if_pos b] at a
  rw[ai (aY (by omega)),vB (show Fits (y-1) by unfold Fits;omega)];show some _=some _;unfold fq fr;congr 2
  rw[←a];simp(disch:=omega) only[aZ,bZ,iH,qO];omega
 ·rw[if_neg b,if_neg b] at a
  rw[aB (aW (by omega)),vB (show Fits y by unfold Fits;omega)];show some _=some _;unfold fq fr;congr 2
  rw[←a];simp(disch:=omega) only[aZ,bZ,iH,qO];omega
theorem Mi (y m d:Int) (a:dh y m d=true):aj vE 98 [.agg [.int .i64 y,.int .i64 m,.int .i64 d]] (.int .i64 (jV y m d)):=Mh y m d a
theorem kQ (n:Int):0≤dR n∧dR n≤399∧0≤dL n∧dL n≤365∧(n+719468)%146097=365*dR n+dR n/4-dR n/100+dL n∧0≤dT n∧dT n≤11∧1≤dD n∧valid (dY n) (dM n) (dD n)∧jV (dY n) (dM n) (dD n)=n:=by
 obtain⟨y,L,s,v,h3,r,u,p,t⟩:=Mc ((n+719468)%146097) (by omega) (by omega);have c:dR n=y:=s;have f:dL n=L:=by unfold dL;rw[c];omega
 obtain⟨m,D,l,q,w,z,x,o⟩:=JZ L u p;have d:dT n=m:=by unfold dT;rw[f];exact l
 have k:dD n=D:=by unfold dD;rw[f,d];exact q
 have h:dM n=if m+3>12 then m+3-12 else m+3:=by unfold dM;rw[d]
 have i:dY n=(n+719468)/146097*400+y+(if m+3>12 then 1 else 0):=by unfold dY;rw[c,d]
 have a:L=365→fC (dY n)=true:=by
  intro hL;have:=t hL;rw[pz] at this⊢;have b:m=11:=by omega
  rw[i,if_pos (by omega)];omega
 have j:valid (dY n) (dM n) (dD n):=by
  refine⟨by omega,?_⟩;rw[k,h];exact o (dY n) a
 refine⟨by omega,by omega,by omega,by omega,by rw[c,f];exact r,by omega,by omega,by omega,j,?_⟩;rw[←C9 j];unfold FZ;rw[k,h,i];by_cases b:m+3>12
 ·simp only[if_pos b]
  rw[if_pos (by omega),if_pos (by omega)];have e:((n+719468)/146097*400+y+1-1)/400=(n+719468)/146097:=by omega
  have g:((n+719468)/146097*400+y+1-1)%400=y:=by omega
  rw[e,g,show m+3-12+9=m by omega];omega
 ·simp only[if_neg b]
  rw[if_neg (by omega),if_neg (by omega)];have e:((n+719468)/146097*400+y+0)/400=(n+719468)/146097:=by omega
  have g:((n+719468)/146097*400+y+0)%400=y:=by omega
  rw[e,g,show m+3-3=m by omega];omega
theorem PR (n:Int) (h: -16000000≤n∧n≤16000000):aj vE 57 [.int .i64 n] (.agg [.int .i64 (dY n),.int .i64 (dM n),.int .i64 (dD n)]):=by
 refine ax iK BK 5 2 ?_
 (rw[Mf];(conv=>zeta))
 obtain⟨C,v,t,A,x,B,u,s,z,p⟩:=kQ n;have e:aV .i64 n 719468=n+719468:=aZ (by omega);rw[e];have f:fr (n+719468) 146097=(n+719468)%146097:=rfl;have eq:fq (n+719468) 146097=(n+719468)/146097:=rfl;have w:0≤(n+719468)%146097∧(n+719468)%146097<146097:=by omega
 have y: -200≤(n+719468)/146097∧(n+719468)/146097≤200:=by omega
 rw[f,eq];have d:(gX .i64 (bu .i64 (aV .i64 (bu .i64 ((n+719468)%146097) (gX .i64 ((n+719468)%146097) 1460)) (gX .i64 ((n+719468)%146097) 36524)) (gX .i64 ((n+719468)%146097) 146096)) 365)=dR n:=by
  unfold dR;generalize (n+719468)%146097=r at*;simp(disch:=omega) only[aZ,bZ,iH,qO]
 rw[d];have o:(bu .i64 ((n+719468)%146097) (bu .i64 (aV .i64 (fM .i64 365 (dR n)) (gX .i64 (dR n) 4)) (gX .i64 (dR n) 100)))=dL n:=by
  unfold dL;generalize (n+719468)%146097=r at*;generalize dR n=q at*;simp(disch:=omega) only[aZ,bZ,iH,qO]
 rw[o];have i:(gX .i64 (aV .i64 (fM .i64 5 (dL n)) 2) 153)=dT n:=by
  unfold dT;simp(disch:=omega) only[aZ,bZ,iH,qO]
 rw[i];have j:(aV .i64 (bu .i64 (dL n) (gX .i64 (aV .i64 (fM .i64 153 (dT n)) 2) 5)) 1)=dD n:=by
  unfold dD;simp(disch:=omega) only[aZ,bZ,iH,qO]
 rw[j];have k:aV .i64 (dT n) 3=dT n+3:=aZ (by omega);have l:fM .i64 ((n+719468)/146097) 400=(n+719468)/146097*400:=iH (by omega);have g:aV .i64 ((n+719468)/146097*400) (dR n)=(n+719468)/146097*400+dR n:=aZ (by omega);rw[k,l,g];have m:au (au (aD (-9223372036854775808) (n+719468)) (aD (n+719468) 9223372036854775807)) (au (aU 0 146097) (aD 146097 1000000))=true:=by
  rw[vB (show Fits (n+719468) by unfold Fits;omega)];rfl
 rw[ai m];have b:dM n=if dT n+3>12 then dT n+3-12 else dT n+3:=rfl
 have a:dY n=(n+719468)/146097*400+dR n+(if dT n+3>12 then 1 else 0):=rfl;by_cases c:dT n+3>12
 ·rw[if_pos c] at b a
  rw[ai (aY (by omega)),b,a,bZ (by omega),aZ (by omega)]
 ·rw[if_neg c] at b a
  rw[aB (aW (by omega)),b,a,Int.add_zero]
theorem Tt (n:Int) (a:au (aD (-16000000) n) (aD n 16000000)=true):aj vE 57 [.int .i64 n] (.agg [.int .i64 (dY n),.int .i64 (dM n),.int .i64 (dD n)]):=PR n (by rw[ay,ak,ak] at a;exact a)
theorem Wh (F:Nat) (y m d:Int) (c:valid y m d) (g:Fits y) (K:V→Option V): ∀(n:Nat) (i:Int),1≤i→i≤m→(m-i).toNat<n→
  oz F [] n y m d (pV y i+d) i y m d K=K (.tup [.int .i64 (Xr y m d),.int .i64 0]):=by
 obtain⟨m1,f⟩:=iD c;have o:1≤d∧d≤31:=by have:=og y m m1 f;unfold valid at c;omega
 intro n;induction n with
 |zero=>intro i _ _ h;omega
 |succ n k=>
  intro i e p h3;rw[yP,vB g];by_cases j:i<m
  ·have q:=wD y i e (by omega)
   have hl:=og y i e (by omega);have l:=mV y (i-1).toNat 1 (by omega) (by omega);have b:=mV y (13-i).toNat i (by omega) (by omega);rw[show(1:Int)+((i-1).toNat:Int)=i by omega,vN] at l;rw[show i+((13-i).toNat:Int)=13 by omega,NC] at b;have r:(0:Int)≤(if fC y=true then 1 else 0)∧(if fC y=true then(1:Int) else 0)≤1:=by split<;>omega
   rw[ai (aY j),st',aZ (a:=pV y i+d) (by omega),aZ (a:=i) (by omega),show pV y i+d+jQ y i=pV y (i+1)+d by omega];exact k (i+1) (by omega) (by omega) (by omega)
  ·rw[aB (aW (by omega))]
   obtain rfl:i=m:=by omega
   rfl
theorem J4 (y m d:Int):aj vE 99 [.agg [.int .i64 y,.int .i64 m,.int .i64 d]] (.tup [.int .i64 (ZQ y m d),.int .i64 (Yh y m d)]):=by
 refine ax iK BK 20 3 ?_;rw[G5];unfold ZQ Yh
 cases h:dh y m d with
 |false=>rfl
 |true=>
  obtain⟨c,e,a⟩:=iY.1 h;obtain⟨m1,b⟩:=iD a;have:=Wh 20 y m d a (by unfold Fits;omega) some 20 1 (by omega) (by omega) (by omega);rw[vN,Int.zero_add] at this;rw[show aT true=false from rfl,sf',this,if_pos rfl,if_pos rfl]
theorem J5 (y m d:Int) (a:true=true):aj vE 99 [.agg [.int .i64 y,.int .i64 m,.int .i64 d]] (.tup [.int .i64 (ZQ y m d),.int .i64 (Yh y m d)]):=J4 y m d
theorem KW:bT vE vS4:=by
 unfold vS4;refine bT.cons (fun args r h=>?_) (bT.cons (fun args r h=>?_) (bT.cons (fun args r h=>?_) BK));all_goals (revert h;intro h;first|unfold ND at h|unfold XJ at h|unfold IU at h)
 all_goals (split at h;rotate_left; · cases h)
 all_goals (simp only[aI,bU] at h;obtain⟨a,rfl⟩:=h)
 ·exact Mi _ _ _ a
 ·exact Tt _ a
 ·exact J5 _ _ _ rfl
def vC (y m d:Int):Int×Int:=if dh y m d=true then(jV y m d,0) else(0,1)
theorem Tv (y m d:Int):aj vE 76 [.agg [.int .i64 y,.int .i64 m,.int .i64 d]] (.tup [.int .i64 (vC y m d).1,.int .i64 (vC y m d).2]):=by
 refine ax iK KW 5 3 ?_;rw[PG];unfold vC
 cases dh y m d<;>rfl
theorem Tw (y m d:Int):aj vE 81 [.agg [.int .i64 y,.int .i64 m,.int .i64 d]] (.tup [.int .i64 (vC y m d).1,.int .i64 (vC y m d).2]):=by
 refine ax iK KW 5 3 ?_;rw[PI];unfold vC Yh ZQ
 cases h:dh y m d with
 |false=>rfl
 |true=>
  obtain⟨e,f,a⟩:=iY.1 h;have c:=yI a;have g:(0:Int)≤(if fC y=true then 1 else 0)∧(if fC y=true then(1:Int) else 0)≤1:=by split<;>omega
  have b: -20000000≤bK y∧bK y≤20000000:=by unfold bK jY;omega
  simp only[if_true];rw[aB (by decide),ai (by rw[ay,ak,ak];omega),aZ (by omega),bZ (by omega)];rfl
def di (n:Int):Bool:=decide (bK (-40000)≤n∧n<bK 40001)
def mH (n:Int):Int×Int×Int×Int:=if di n=true then(dY n,dM n,dD n,0) else(0,0,0,1)
def FF (p:Int×Int×Int×Int):V:=.tup [.agg [.int .i64 p.1,.int .i64 p.2.1,.int .i64 p.2.2.1],.int .i64 p.2.2.2]
theorem Cj:bK (-40000)= -15329228:=by decide
theorem Ck:bK 40001=13890538:=by decide
theorem qj (n:Int):di n=true↔-40000≤dY n∧dY n≤40000:=by
 obtain⟨_,_,_,_,_,_,_,_,c,b⟩:=kQ n;have h:=sD c;rw[b] at h;unfold di;rw[Fw];constructor
 ·intro d
  constructor
  ·apply Int.not_lt.1
   intro a;have:=mW (show dY n+1≤ -40000 by omega);omega
  ·apply Int.not_lt.1
   intro a;have:=mW (show 40001≤dY n by omega);omega
 ·intro d
  have f:=mW (show -40000≤dY n by omega);have e:=mW (show dY n+1≤40001 by omega);omega
theorem Tx (n:Int):aj vE 36 [.int .i64 n] (FF (mH n)):=by
 refine ax iK KW 5 3 ?_
 (rw[PK];(conv=>zeta))
 have e:=qj n;have b:di n=true→-16000000≤n∧n≤16000000:=by
  unfold di;rw[Fw,Cj,Ck];omega
 have a:dh (dY n) (dM n) (dD n)=di n:=by
  rw[D8,iY,e];exact⟨fun h=>⟨h.1,h.2.1⟩,fun h=>⟨h.1,h.2,(kQ n).2.2.2.2.2.2.2.2.1⟩⟩
 unfold mH FF;rw[a];by_cases c:n< -16000000
 ·have:di n=false:=by cases h:di n;rfl;have:=b h;omega
  rw[ai (aY c),this];rfl
 ·by_cases d:16000000<n
  ·have:di n=false:=by cases h:di n;rfl;have:=b h;omega
   rw[aB (aW (by omega)),ai (aY d),this];rfl
  ·rw[aB (aW (by omega)),aB (aW (by omega)),ai (by rw[ay,ak,ak];omega)]
   cases di n<;>rfl
theorem Wi (F:Nat) (n:Int) (f:di n=true) (b0 j p:Int) (K:V→Option V): ∀(k:Nat) (i:Int),1≤i→i≤dM n→(dM n-i).toNat<k→
  wG F [] k n (dY n) (n-bK (dY n)-pV (dY n) i) i b0 j p K=K (FF (mH n)):=by
 obtain⟨_,_,_,_,_,_,_,_,a,c⟩:=kQ n;obtain⟨m1,s⟩:=iD a;obtain⟨u,x⟩:=(qj n).1 f;have o:=sD a;rw[c] at o;have e:=nC (dY n);have v:(0:Int)≤(if fC (dY n)=true then 1 else 0)∧(if fC (dY n)=true then(1:Int) else 0)≤1:=by split<;>omega
 have g:n=bK (dY n)+(pV (dY n) (dM n)+dD n)-1:=by
  have:=c;unfold jV Xr at this;omega
 have m:au (aD (-9223372036854775808) (dY n)) (aD (dY n) 9223372036854775807)=true:=vB (by unfold Fits;omega);intro k;induction k with
 |zero=>intro i _ _ h;omega
 |succ k q=>
  intro i d t h3
  (rw[D4];(conv=>zeta);rw[m])
  have hl:=og (dY n) i d (by omega);have l:=wD (dY n) i d (by omega);have b:=mV (dY n) (i-1).toNat 1 (by omega) (by omega);rw[show(1:Int)+((i-1).toNat:Int)=i by omega,vN] at b;by_cases w:i<dM n
  ·have r:=mV (dY n) (dM n-(i+1)).toNat (i+1) (by omega) (by omega)
   rw[show i+1+((dM n-(i+1)).toNat:Int)=dM n by omega] at r;unfold valid at a;rw[st',ai (cO (by omega)),st',bZ (by omega),aZ (by omega),show n-bK (dY n)-pV (dY n) i-jQ (dY n) i=n-bK (dY n)-pV (dY n) (i+1) by omega];exact q (i+1) (by omega) (by omega) (by omega)
  ·obtain rfl:i=dM n:=by omega
   unfold valid at a;rw[st',aB (tL (by omega)),aZ (by omega)];unfold FF mH;rw[f,if_pos rfl,show n-bK (dY n)-pV (dY n) (dM n)+1=dD n by omega]
theorem Wj (F:Nat) (s:14≤F) (n:Int) (a:di n=true) (b0 b c:Int) (K:V→Option V): ∀(k:Nat) (y:Int),-42000≤y→y≤dY n→(dY n-y).toNat<k→
  wF F [] k n y b0 b c K=K (FF (mH n)):=by
 obtain⟨_,_,_,_,_,_,_,_,d,e⟩:=kQ n;obtain⟨m1,j⟩:=iD d;obtain⟨m,r⟩:=(qj n).1 a;have f:=sD d;rw[e] at f;intro k;induction k with
 |zero=>intro y _ _ h;omega
 |succ k g=>
  intro y q l h3
  (rw[D3];(conv=>zeta);rw[aZ (by omega),ai (by rw[ay,ak,ak];omega)])
  by_cases o:y<dY n
  ·have:=mW (show y+1≤dY n by omega)
   rw[ai (cO (by omega))];exact g (y+1) (by omega) (by omega) (by omega)
  ·obtain rfl:y=dY n:=by omega
   have p: -20000000≤bK (dY n)∧bK (dY n)≤20000000:=by unfold bK jY;omega
   have i: -20000000≤n∧n≤20000000:=by unfold di at a;rw[Fw,Cj,Ck] at a;omega
   rw[aB (tL (by omega)),ai (by rw[ay,ak,ak];omega),bZ (by omega)];have:=Wi F n a b0 b c K F 1 (by omega) (by omega) (by omega);rw[vN,Int.sub_zero] at this;exact this
theorem Wk (F:Nat) (p:90000≤F) (n:Int) (d:di n=true) (b0 a b:Int) (K:V→Option V): ∀(k:Nat) (y:Int),-42000≤y→y≤42000→(y+42000).toNat<k→
  wE F [] k n y b0 a b K=K (FF (mH n)):=by
 obtain⟨_,_,_,_,_,_,_,_,g,e⟩:=kQ n;obtain⟨l,o⟩:=(qj n).1 d;have f:=sD g;rw[e] at f;intro k;induction k with
 |zero=>intro y _ _ h;omega
 |succ k i=>
  intro y m j h3;rw[DZ,ai (by rw[ay,ak,ak];omega)];by_cases c:y≤dY n
  ·have:=mW c
   rw[aB (aW (by omega))];exact Wj F (by omega) n d b0 a b K F y (by omega) c (by omega)
  ·have:=mW (show dY n+1≤y by omega)
   rw[ai (aY (by omega)),bZ (by omega)];exact i (y-1) (by omega) (by omega) (by omega)
theorem Ty (n:Int) (h:Fits n):aj vE 40 [.int .i64 n] (FF (mH n)):=by
 refine ax iK BK 90000 3 ?_
 (rw[PE];(conv=>zeta))
 by_cases d:n<bK (-40000)
 ·have:di n=false:=by unfold di;rw[ve];omega
  rw[ai (aY d)];unfold mH FF;rw[this];rfl
 ·by_cases c:bK 40001≤n
  ·have:di n=false:=by unfold di;rw[ve];omega
   rw[aB (aW (by omega)),ai (cO c)];unfold mH FF;rw[this];rfl
  ·have f:di n=true:=by unfold di;rw[Fw];omega
   have e:=d;have b:=c;rw[Cj] at e;rw[Ck] at b;have a:au (au (aD (-9223372036854775808) n) (aD n 9223372036854775807)) (au (aU 0 366) (aD 366 1000000))=true:=by rw[vB h];rfl
   rw[aB (aW (by omega)),aB (tL (by omega)),ai a];unfold fq;rw[aZ (by omega)];exact Wk 90000 (by omega) n f 0 0 0 some 90000 _ (by omega) (by omega) (by omega)
end Nt.Ev.YtcmockbdkppglaaGreatDoor
