/-
  The plain law of the calendar: days, years, months. Civil: equations of functions, as the evaluator prints them.
-/
import Derived.Test.YtknhlobahpgkeaaGreatDoorME
set_option linter.all false
set_option maxRecDepth 100000
namespace Nt.Civil
def jq (y:Int):Bool:=decide (y%4=0∧(y%100≠0∨y%400=0))
def gM (y m:Int):Int:=if m=2 then(if jq y=true then 29 else 28) else if m=4∨m=6∨m=9∨m=11 then 30 else if 1≤m∧m≤12 then 31 else 0
def CW (y:Int):Int:=y/4-y/100+y/400
def iJ (y:Int):Int:=365*(y-1970)+CW (y-1)-CW 1969
def zh (y m:Int):Int:=if m≤2 then 31*(m-1) else(153*(m-3)+2)/5+59+(if jq y=true then 1 else 0)
def ydI (y m d:Int):Int:=zh y m+d
def fK (y m d:Int):Int:=iJ y+ydI y m d-1
def valid (y m d:Int):Prop:=1≤d∧d≤gM y m
theorem su (y:Int):jq y=true↔(y%4=0∧(y%100≠0∨y%400=0)):=by unfold jq;rw[lG]
theorem uq (y:Int):iJ (y+1)=iJ y+365+(if jq y=true then 1 else 0):=by
 unfold iJ CW;split
 ·rename_i h;rw[su] at h;omega
 rename_i h;rw[su] at h;omega
theorem DI {y m d:Int} (h:valid y m d):1≤m∧m≤12:=by
 unfold valid gM at h
 (repeat' split at h)<;>omega
theorem QY (y m:Int) (b:1≤m) (c:m≤12):zh y (m+1)=zh y m+gM y m:=by
 have a:m=1∨m=2∨m=3∨m=4∨m=5∨m=6∨m=7∨m=8∨m=9∨m=10∨m=11∨m=12:=by omega
 rcases a with rfl|rfl|rfl|rfl|rfl|rfl|rfl|rfl|rfl|rfl|rfl|rfl<;>unfold zh gM<;>cases jq y<;>decide
theorem cum_one (y:Int):zh y 1=0:=rfl
theorem cum_end (y:Int):zh y 13=365+(if jq y=true then 1 else 0):=by unfold zh;cases jq y<;>decide
theorem oG (y m:Int) (a:1≤m) (b:m≤12):28≤gM y m∧gM y m≤31:=by unfold gM;(repeat' split)<;>omega
theorem Ir (y:Int): ∀(k:Nat) (m:Int),1≤m→m+k≤13→zh y m+28*k≤zh y (m+k)
 |0,m,_,_=>by simp
 |k+1,m,b,c=>by
  have f:=Ir y k m b (by omega);have a:=QY y (m+k) (by omega) (by omega);have d:=oG y (m+k) (by omega) (by omega);have e:m+((k+1:Nat):Int)=m+k+1:=by omega
  rw[e,a];omega
theorem DJ {y m d:Int} (h:valid y m d):1≤ydI y m d∧ydI y m d≤365+(if jq y=true then 1 else 0):=by obtain⟨c,a⟩:=DI h;have e:=Ir y (m-1).toNat 1 (by omega) (by omega);have b:=Ir y (13-(m+1)).toNat (m+1) (by omega) (by omega);have f:=QY y m c a;rw[show(1:Int)+((m-1).toNat:Int)=m by omega,cum_one] at e;rw[show m+1+((13-(m+1)).toNat:Int)=13 by omega,cum_end] at b;unfold valid at h;unfold ydI;omega
theorem Jp (y:Int): ∀(k:Nat),iJ y+365*k≤iJ (y+k)
 |0=>by simp
 |k+1=>by have h:=Jp y k;have a:=uq (y+k);rw[show y+((k+1:Nat):Int)=y+k+1 by omega,a];split<;>omega
theorem BF {a b:Int} (h:a≤b):iJ a+365*(b-a)≤iJ b:=by have:=Jp a (b-a).toNat;rw[show a+((b-a).toNat:Int)=b by omega] at this;omega
theorem adF {y m d:Int} (h:valid y m d):iJ y≤fK y m d∧fK y m d<iJ (y+1):=by have a:=DJ h;have b:=uq y;unfold fK;omega
def Ni (y m d:Int):Int:=y/400*146097+y%400*365+y%400/4-y%400/100+(153*m+2)/5+d-1-719468
theorem Jq {y m d:Int} (h:valid y m d):Ni (if m<3 then y-1 else y) (if m<3 then m+9 else m-3) d=fK y m d:=by
 obtain⟨m1,b⟩:=DI h;unfold Ni fK iJ ydI zh CW;by_cases a:m<3
 ·rw[if_pos a,if_pos a,if_pos (by omega)]
  have:m=1∨m=2:=by omega
  rcases this with rfl|rfl<;>omega
 rw[if_neg a,if_neg a,if_neg (by omega)];have e:(y-1)/4-(y-1)/100+(y-1)/400+(if jq y=true then 1 else 0)=y/4-y/100+y/400:=by
  split
  ·rename_i h;rw[su] at h;omega
  rename_i h;rw[su] at h;omega
 generalize (if jq y=true then(1:Int) else 0)=z at*;generalize (153*(m-3)+2)/5=t at*;omega
theorem Vx (r:Int) (p:0≤r) (w:r<146097): ∃y L,(r-r/1460+r/36524-r/146096)/365=y∧0≤y∧y≤399∧r=365*y+y/4-y/100+L∧0≤L∧L≤365∧(L=365→jq (y+1)=true):=by
 by_cases h:r=146096
 ·subst h
  exact⟨399,365,by decide,by decide,by decide,by decide,by decide,by decide,fun _=>by decide⟩
 obtain⟨k,t,j,u,rfl,s,q,C,t1,H,x,B⟩: ∃k t j u:Int,r=36524*k+1461*j+u∧0≤k∧k≤3∧t=1461*j+u∧t<36524∧0≤j∧0≤u∧u≤1460:=
  ⟨r/36524,r%36524,r%36524/1461,r%36524%1461,by omega,by omega,by omega,by omega,by omega,by omega,by omega,by omega⟩
 have n:j≤24:=by omega
 have d:(36524*k+1461*j+u)/36524=k:=by omega
 have f:(36524*k+1461*j+u)/146096=0:=by omega
 have a: ∃e:Int,(36524*k+1461*j+u)/1460=25*k+j+e∧0≤e∧e≤1∧(e=1→1340≤u)∧(e=0→u≤1459):=by refine⟨(24*k+j+u)/1460,?_,?_,?_,?_,?_⟩<;>omega
 obtain⟨e,i,m,F,A,G⟩:=a;rw[d,f,i];have b: ∃v:Int,(u-e)/365=v∧0≤v∧v≤3∧365*v≤u∧u≤365*v+365∧(u=365*v+365→v=3):=by refine⟨(u-e)/365,rfl,?_,?_,?_,?_,?_⟩<;>omega
 obtain⟨v,b,I,z,D,o,E⟩:=b;have g:(36524*k+1461*j+u-(25*k+j+e)+k-0)/365=100*k+4*j+v:=by omega
 have c:(100*k+4*j+v)/4=25*k+j:=by omega
 have l:(100*k+4*j+v)/100=k:=by omega
 refine⟨100*k+4*j+v,u-365*v,g,by omega,by omega,by rw[c,l];omega,by omega,by omega,fun hL=>?_⟩;rw[su];have:v=3:=by omega
 subst this;omega
theorem SI (L:Int) (g:0≤L) (f:L≤365): ∃m D,(5*L+2)/153=m∧L-(153*m+2)/5+1=D∧0≤m∧m≤11∧1≤D∧(∀y:Int,(L=365→jq y=true)→D≤gM y (if m+3>12 then m+3-12 else m+3)):=by
 refine⟨(5*L+2)/153,_,rfl,rfl,by omega,by omega,by omega,fun y c=>?_⟩;obtain⟨m,a⟩: ∃m,(5*L+2)/153=m:=⟨_,rfl⟩
 rw[a];have e:m=0∨m=1∨m=2∨m=3∨m=4∨m=5∨m=6∨m=7∨m=8∨m=9∨m=10∨m=11:=by omega
 unfold gM;rcases e with rfl|rfl|rfl|rfl|rfl|rfl|rfl|rfl|rfl|rfl|rfl|rfl<;>simp<;>(try split)<;>(try omega)
 all_goals
  rename_i b;by_cases d:L=365
  ·exact absurd (c d) (by simpa using b)
  omega
end Nt.Civil
namespace Nt.Ev.YtknhlobahpgkeaaGreatDoor
open Go Nt.Num Go.Proofs.YtknhlobahpgkeaaGreatDoor
open Nt.Civil
noncomputable def vE:Env:=⟨Go.Proofs.Tryz.prog,fun _=>none⟩
def fq (a b:Int):Int:=a/b
def fr (a b:Int):Int:=a%b
noncomputable def divS:aC:=fun a=>match a with|[.int .i64 a,.int .i64 b]=>some (ak (ak (av (-9223372036854775808) a) (av a 9223372036854775807)) (ak (aW 0 b) (av b 1000000)),.tup [.int .i64 (fq a b),.int .i64 (fr a b),.int .i64 0])|_=>none
noncomputable def vS:List (Nat×aC):=(187,divS)::[]
noncomputable def leapS:aC:=fun a=>match a with|[.int .i64 y]=>some (ak (av (-9223372036854775808) y) (av y 9223372036854775807),.bool (jq y))|_=>none
noncomputable def vS1:List (Nat×aC):=(101,leapS)::vS
noncomputable def lenS:aC:=fun a=>match a with|[.int .i64 y,.int .i64 m]=>some (ak (av (-9223372036854775808) y) (av y 9223372036854775807),.int .i64 (gM y m))|_=>none
noncomputable def vS2:List (Nat×aC):=(79,lenS)::vS1
def gV (y m d:Int):Bool:=decide (-40000≤y∧y≤40000∧1≤d∧d≤gM y m)
noncomputable def rightS:aC:=fun a=>match a with|[.agg [.int .i64 y,.int .i64 m,.int .i64 d]]=>some (true,.bool (gV y m d))|_=>none
noncomputable def vS3:List (Nat×aC):=(166,rightS)::vS2
def dR (n:Int):Int:=((n+719468)%146097-(n+719468)%146097/1460+(n+719468)%146097/36524-(n+719468)%146097/146096)/365
def dL (n:Int):Int:=(n+719468)%146097-(365*dR n+dR n/4-dR n/100)
def dT (n:Int):Int:=(5*dL n+2)/153
def dM (n:Int):Int:=if dT n+3>12 then dT n+3-12 else dT n+3
def dY (n:Int):Int:=(n+719468)/146097*400+dR n+(if dT n+3>12 then 1 else 0)
def dD (n:Int):Int:=dL n-(153*dT n+2)/5+1
noncomputable def Xv:aC:=fun a=>match a with|[.agg [.int .i64 y,.int .i64 m,.int .i64 d]]=>some (gV y m d,.int .i64 (fK y m d))|_=>none
noncomputable def dateS:aC:=fun a=>match a with|[.int .i64 n]=>some (ak (av (-16000000) n) (av n 16000000),.agg [.int .i64 (dY n),.int .i64 (dM n),.int .i64 (dD n)])|_=>none
noncomputable def vS4:List (Nat×aC):=(167,Xv)::(210,dateS)::vS3
theorem adG (F y) (K:V→Option V):
 bA vE (bu vE vS F 2) F 101 [V.int .i64 y] K=
 sel (ieq (ko .and .i64 y 3) 0) (sel (aL (ieq (tH y 25) 0)) (K (V.bool true)) (K (V.bool (ieq (ko .and .i64 y 15) 0)))) (K (V.bool false)):=by kernel_rfl
theorem vLen_top (F y m) (K:V→Option V):
 bA vE (bu vE vS1 F 2) F 79 [V.int .i64 y,V.int .i64 m] K=
 let B:=sel (ieq m 2) (sel (ak (av (-9223372036854775808) y) (av y 9223372036854775807)) (sel (jq y) (K (V.int .i64 29)) (K (V.int .i64 28))) none) (K (V.int .i64 0));let C:=K (V.int .i64 31);let D:=K (V.int .i64 30);let A:=sel (ieq m 4) (sel (ieq m 4) D B) (sel (ieq m 6) (sel (ieq m 6) D B) (sel (ieq m 9) (sel (ieq m 9) D B) (sel (ieq m 11) D B)));sel (ieq m 1) (sel (ieq m 1) C A) (sel (ieq m 3) (sel (ieq m 3) C A) (sel (ieq m 5) (sel (ieq m 5) C A) (sel (ieq m 7) (sel (ieq m 7) C A) (sel (ieq m 8) (sel (ieq m 8) C A) (sel (ieq m 10) (sel (ieq m 10) C A) (sel (ieq m 12) C A)))))):=by kernel_rfl
theorem Vy (F y m d) (K:V→Option V):
 bA vE (bu vE vS2 F 2) F 166 [V.agg [V.int .i64 y,V.int .i64 m,V.int .i64 d]] K=
 let A:=K (V.bool false);sel (av (-40000) y) (sel (av y 40000) (sel (av 1 d) (sel (ak (av (-9223372036854775808) y) (av y 9223372036854775807)) (K (V.bool (av d (gM y m)))) none) A) A) A:=by kernel_rfl
theorem SK (F y m d) (K:V→Option V):
 bA vE (bu vE vS3 F 2) F 167 [V.agg [V.int .i64 y,V.int .i64 m,V.int .i64 d]] K=
 let A:=dw .i64 y 1;let B:=ak (aW 0 400) (av 400 1000000);let C:=dw .i64 m 3;let E:=fr y 400;let D:=fr A 400;sel (aW C 0) (sel (ak (ak (av (-9223372036854775808) A) (av A 9223372036854775807)) B) (K (V.int .i64 (dw .i64 (bJ .i64 (dw .i64 (bJ .i64 (bJ .i64 (mF .i64 (fq A 400) 146097) (mF .i64 D 365)) (gF .i64 D 4)) (gF .i64 D 100)) (dw .i64 (bJ .i64 (gF .i64 (bJ .i64 (mF .i64 153 (bJ .i64 C 12)) 2) 5) d) 1)) 719468))) none) (sel (ak (ak (av (-9223372036854775808) y) (av y 9223372036854775807)) B) (K (V.int .i64 (dw .i64 (bJ .i64 (dw .i64 (bJ .i64 (bJ .i64 (mF .i64 (fq y 400) 146097) (mF .i64 E 365)) (gF .i64 E 4)) (gF .i64 E 100)) (dw .i64 (bJ .i64 (gF .i64 (bJ .i64 (mF .i64 153 C) 2) 5) d) 1)) 719468))) none):=by kernel_rfl
theorem Vz (F n) (K:V→Option V):
 bA vE (bu vE vS3 F 2) F 210 [V.int .i64 n] K=
 let D:=bJ .i64 n 719468;let G:=fr D 146097;let A:=gF .i64 (dw .i64 (bJ .i64 (dw .i64 G (gF .i64 G 1460)) (gF .i64 G 36524)) (gF .i64 G 146096)) 365;let B:=dw .i64 G (dw .i64 (bJ .i64 (mF .i64 365 A) (gF .i64 A 4)) (gF .i64 A 100));let H:=bJ .i64 (mF .i64 (fq D 146097) 400) A;let C:=gF .i64 (bJ .i64 (mF .i64 5 B) 2) 153;let E:=V.int .i64 (bJ .i64 (dw .i64 B (gF .i64 (bJ .i64 (mF .i64 153 C) 2) 5)) 1);let I:=bJ .i64 C 3;sel (ak (ak (av (-9223372036854775808) D) (av D 9223372036854775807)) (ak (aW 0 146097) (av 146097 1000000))) (sel (aW 12 I) (K (V.agg [V.int .i64 (bJ .i64 H 1),V.int .i64 (dw .i64 I 12),E])) (K (V.agg [V.int .i64 H,V.int .i64 I,E]))) none:=by kernel_rfl
theorem adH (F y m d) (K:V→Option V):
 bA vE (bu vE vS4 F 3) F 146 [V.agg [V.int .i64 y,V.int .i64 m,V.int .i64 d]] K=
 sel (aL (gV y m d)) (K (V.tup [V.int .i64 0,V.int .i64 1])) (sel (gV y m d) (K (V.tup [V.int .i64 (fK y m d),V.int .i64 0])) none):=by kernel_rfl
theorem adI (F n) (K:V→Option V):
 bA vE (bu vE vS4 F 3) F 204 [V.int .i64 n] K=
 let B:=V.int .i64 0;let A:=K (V.tup [V.agg [B,B,B],V.int .i64 1]);sel (aW n (-16000000)) A (sel (aW 16000000 n) A (sel (ak (av (-16000000) n) (av n 16000000)) (sel (aL (gV (dY n) (dM n) (dD n))) A (K (V.tup [V.agg [V.int .i64 (dY n),V.int .i64 (dM n),V.int .i64 (dD n)],B]))) none)):=by kernel_rfl
open Go.RowKit Nt
theorem Ec:uL vE:=⟨by kernel_rfl,by kernel_rfl⟩
theorem fitsV {m:Int} (h:ak (av (-9223372036854775808) m) (av m 9223372036854775807)=true):Fits m:=by rw[aM,aB,aB] at h;exact h
theorem Wz {m:Int} (h:Fits m):ak (av (-9223372036854775808) m) (av m 9223372036854775807)=true:=by rw[aM,aB,aB];exact h
theorem divs_pos (a b:Int) (j:0<b):MK a b=(a/b,a%b,0):=by
 have k:=Int.mul_tdiv_add_tmod a b;have h:=Int.mul_ediv_add_emod a b;have m:=Int.emod_nonneg a (show b≠0 by omega);have n:=Int.emod_lt_of_pos a j;have o:=NK a b (by omega);rw[LG a b (by omega) (by omega)];have c: ∀q r:Int,b*q+r=a→0≤r→r<b→q=a/b∧r=a%b:=fun q r e r0 i=>by
  have g:a/b=q:=by rw[←e,Int.add_comm,Int.add_mul_ediv_left _ _ (by omega),Int.ediv_eq_zero_of_lt r0 i];omega
  refine⟨g.symm,?_⟩;rw[g] at h;omega
 split
 ·rename_i l
  obtain⟨d,f⟩:=c (a.tdiv b-1) (a.tmod b+b) (by rw[Int.mul_sub];omega) (by omega) (by omega);rw[d,f]
 rename_i l;obtain⟨d,f⟩:=c (a.tdiv b) (a.tmod b) k (by omega) (by omega);rw[d,f]
theorem adJ {a b:Int} (e:ak (ak (av (-9223372036854775808) a) (av a 9223372036854775807)) (ak (aW 0 b) (av b 1000000))=true):Fits a∧Fits b∧0<b:=by obtain⟨d,c⟩:=aO e;rw[aM,bq,aB] at c;exact⟨fitsV d,by unfold Fits;omega,c.1⟩
theorem Og (a b:Int) (k:ak (ak (av (-9223372036854775808) a) (av a 9223372036854775807)) (ak (aW 0 b) (av b 1000000))=true):aj vE 187 [.int .i64 a,.int .i64 b] (.tup [.int .i64 (fq a b),.int .i64 (fr a b),.int .i64 0]):=by
 obtain⟨j,i,h⟩:=adJ k;refine bX fun G w vs m l f=>?_
 obtain⟨x,y,rfl,d,c⟩:=iQ f;unfold aV at d c;subst d;subst c;refine(n_div a b w j i).mono ?_;rintro e w' ⟨rfl,g⟩;rw[divs_pos a b h];exact⟨_,rfl,U7 g,ZL (pK _ _) (pK _ _) (pK _ _)⟩
theorem vS_ok:bf vE vS:=by
 unfold vS;refine bf.cons (fun args r h=>?_) bf.nil;all_goals (revert h;intro h;first|unfold divS at h)
 all_goals (split at h;rotate_left; · cases h)
 all_goals (simp only[aR,bM] at h;obtain⟨a,rfl⟩:=h)
 ·exact Og _ _ a
theorem Xw (y:Int) (k:Nat) (h:k≤8) (m:Int) (g:m=((2 ^ k-1:Nat):Int)):ko .and .i64 y m=y%((2 ^ k:Nat):Int):=by
 subst g;have l:2 ^ k≤2 ^ 8:=abp (by decide) h;have o:0<2 ^ k:=ade (by decide);have e:((BitVec.ofInt IntKind.i64.bits y&&& BitVec.ofInt IntKind.i64.bits ((2 ^ k-1:Nat):Int)).toNat:Int)=y%((2 ^ k:Nat):Int):=by
  rw[BitVec.toNat_and];have i:(BitVec.ofInt IntKind.i64.bits ((2 ^ k-1:Nat):Int)).toNat=2 ^ k-1:=by
   rw[BitVec.ofInt_natCast,BitVec.toNat_ofNat,Nat.mod_eq_of_lt];have:(2:Nat) ^ 8<2 ^ IntKind.i64.bits:=by decide
   omega
  rw[i,Nat.and_two_pow_sub_one_eq_mod,BitVec.toNat_ofInt];have c:((2 ^ IntKind.i64.bits:Nat):Int)=18446744073709551616:=by decide
  rw[c];have d:((2 ^ k:Nat):Int) ∣ 18446744073709551616:=by have:(2 ^ k:Nat) ∣ 2 ^ 64:=Nat.pow_dvd_pow 2 (by omega);exact Int.natCast_dvd_natCast.2 this
  have j:0≤y%18446744073709551616:=by omega
  have f: ∀a b:Nat,((a%b:Nat):Int)=(a:Int)%(b:Int):=fun _ _=>rfl
  rw[f,Int.toNat_of_nonneg j,Int.emod_emod_of_dvd _ d]
 unfold ko;simp only;rw[e];have n:=Int.emod_nonneg y (show((2 ^ k:Nat):Int)≠0 by omega);have p:=Int.emod_lt_of_pos y (show(0:Int)<((2 ^ k:Nat):Int) by omega);exact IntWalk.i64_in _ (by omega)
theorem adK (y k:Int) (a:0<k):(tH y k=0)=(y%k=0):=by
 unfold tH;refine propext ⟨fun h=>?_,fun h=>?_⟩
 ·exact Int.emod_eq_zero_of_dvd (Int.dvd_of_tmod_eq_zero h)
 exact Int.tmod_eq_zero_of_dvd (Int.dvd_of_emod_eq_zero h)
theorem vLeap_ev (y:Int):aj vE 101 [.int .i64 y] (.bool (jq y)):=by
 refine au Ec vS_ok 5 2 ?_;rw[adG,Xw y 2 (by decide) 3 rfl,Xw y 4 (by decide) 15 rfl];have b:((2 ^ 2:Nat):Int)=4:=rfl;have a:((2 ^ 4:Nat):Int)=16:=rfl;rw[b,a];simp only[bK,aN,bW,adK y 25 (by decide)];unfold jq;repeat' split
 all_goals first
  |(rw[u6 (by omega)];done)
  |(rw[uZ (by omega)];done)
  |(congr 2;unfold ieq;rw[uF];simp;omega)
theorem leapS_ok (y:Int) (a:ak (av (-9223372036854775808) y) (av y 9223372036854775807)=true):aj vE 101 [.int .i64 y] (.bool (jq y)):=vLeap_ev y
theorem vS1_ok:bf vE vS1:=by
 unfold vS1;refine bf.cons (fun args r h=>?_) vS_ok;all_goals (revert h;intro h;first|unfold leapS at h)
 all_goals (split at h;rotate_left; · cases h)
 all_goals (simp only[aR,bM] at h;obtain⟨a,rfl⟩:=h)
 ·exact leapS_ok _ a
theorem st' (x y:Option V):sel true x y=x:=rfl
theorem sf' (x y:Option V):sel false x y=y:=rfl
theorem NV (y m:Int) (c:Fits y):aj vE 79 [.int .i64 y,.int .i64 m] (.int .i64 (gM y m)):=by
 refine au Ec vS1_ok 5 2 ?_
 (rw[vLen_top];(conv=>zeta))
 have a:=Wz c;by_cases e:1≤m∧m≤12
 ·have d:m=1∨m=2∨m=3∨m=4∨m=5∨m=6∨m=7∨m=8∨m=9∨m=10∨m=11∨m=12:=by omega
  rcases d with rfl|rfl|rfl|rfl|rfl|rfl|rfl|rfl|rfl|rfl|rfl|rfl;all_goals
   simp only[ieq,Int.reduceBEq,st',sf',a];unfold gM
   cases jq y<;>rfl
 have g: ∀k:Int,1≤k→k≤12→ieq m k=false:=fun k h f=>bD (by omega)
 have b:gM y m=0:=by unfold gM;rw[if_neg (by omega),if_neg (by omega),if_neg (by omega)]
 simp only[g 1 (by decide) (by decide),g 2 (by decide) (by decide),g 3 (by decide) (by decide),g 4 (by decide) (by decide),g 5 (by decide) (by decide),g 6 (by decide) (by decide),g 7 (by decide) (by decide),g 8 (by decide) (by decide),g 9 (by decide) (by decide),g 10 (by decide) (by decide),g 11 (by decide) (by decide),g 12 (by decide) (by decide),st',sf',b]
theorem lenS_ok (y m:Int) (a:ak (av (-9223372036854775808) y) (av y 9223372036854775807)=true):aj vE 79 [.int .i64 y,.int .i64 m] (.int .i64 (gM y m)):=NV y m (fitsV a)
theorem vS2_ok:bf vE vS2:=by
 unfold vS2;refine bf.cons (fun args r h=>?_) vS1_ok;all_goals (revert h;intro h;first|unfold lenS at h)
 all_goals (split at h;rotate_left; · cases h)
 all_goals (simp only[aR,bM] at h;obtain⟨a,rfl⟩:=h)
 ·exact lenS_ok _ _ a
theorem Mb (y m d:Int):aj vE 166 [.agg [.int .i64 y,.int .i64 m,.int .i64 d]] (.bool (gV y m d)):=by
 refine au Ec vS2_ok 5 2 ?_
 (rw[Vy];(conv=>zeta))
 unfold gV;simp only[bK,aB,bW,aM];repeat' split
 all_goals first
  |(rw[uZ (by omega)];done)
  |(exfalso;omega)
  |(congr 2;unfold av;rw[uF];simp;omega)
theorem Mc (y m d:Int) (a:true=true):aj vE 166 [.agg [.int .i64 y,.int .i64 m,.int .i64 d]] (.bool (gV y m d)):=Mb y m d
theorem Ul:bf vE vS3:=by
 unfold vS3;refine bf.cons (fun args r h=>?_) vS2_ok;all_goals (revert h;intro h;first|unfold rightS at h)
 all_goals (split at h;rotate_left; · cases h)
 all_goals (simp only[aR,bM] at h;obtain⟨a,rfl⟩:=h)
 ·exact Mc _ _ _ rfl
theorem zW {y m d:Int}:gV y m d=true↔-40000≤y∧y≤40000∧valid y m d:=by unfold gV valid;rw[lG]
theorem Jr (y m d:Int) (h:gV y m d=true):aj vE 167 [.agg [.int .i64 y,.int .i64 m,.int .i64 d]] (.int .i64 (fK y m d)):=by
 refine au Ec Ul 5 2 ?_
 (rw[SK];(conv=>zeta))
 obtain⟨j,k,c⟩:=zW.1 h;obtain⟨m1,g⟩:=DI c;have i:1≤d∧d≤31:=by have:=oG y m m1 g;unfold valid at c;omega
 have a:=Jq c;have e:dw .i64 m 3=m-3:=dO (by omega);have f:dw .i64 y 1=y-1:=dO (by omega);rw[e,f];unfold Ni at a;by_cases b:m<3
 ·rw[if_pos b,if_pos b] at a
  rw[ax (bH (by omega)),Wz (show Fits (y-1) by unfold Fits;omega)];show some _=some _;unfold fq fr;congr 2
  rw[←a];simp(disch:=omega) only[cZ,dO,og,pF];omega
 rw[if_neg b,if_neg b] at a;rw[aK (bF (by omega)),Wz (show Fits y by unfold Fits;omega)];show some _=some _;unfold fq fr;congr 2
 rw[←a];simp(disch:=omega) only[cZ,dO,og,pF];omega
theorem VA (y m d:Int) (a:gV y m d=true):aj vE 167 [.agg [.int .i64 y,.int .i64 m,.int .i64 d]] (.int .i64 (fK y m d)):=Jr y m d a
theorem zX (n:Int):0≤dR n∧dR n≤399∧0≤dL n∧dL n≤365∧(n+719468)%146097=365*dR n+dR n/4-dR n/100+dL n∧0≤dT n∧dT n≤11∧1≤dD n∧valid (dY n) (dM n) (dD n)∧fK (dY n) (dM n) (dD n)=n:=by
 obtain⟨y,L,s,v,w,r,u,p,t⟩:=Vx ((n+719468)%146097) (by omega) (by omega);have c:dR n=y:=s;have f:dL n=L:=by unfold dL;rw[c];omega
 obtain⟨m,D,l,q,x,A,z,o⟩:=SI L u p;have d:dT n=m:=by unfold dT;rw[f];exact l
 have k:dD n=D:=by unfold dD;rw[f,d];exact q
 have h:dM n=if m+3>12 then m+3-12 else m+3:=by unfold dM;rw[d]
 have i:dY n=(n+719468)/146097*400+y+(if m+3>12 then 1 else 0):=by unfold dY;rw[c,d]
 have a:L=365→jq (dY n)=true:=by
  intro hL;have:=t hL;rw[su] at this⊢;have b:m=11:=by omega
  rw[i,if_pos (by omega)];omega
 have j:valid (dY n) (dM n) (dD n):=by refine⟨by omega,?_⟩;rw[k,h];exact o (dY n) a
 refine⟨by omega,by omega,by omega,by omega,by rw[c,f];exact r,by omega,by omega,by omega,j,?_⟩;rw[←Jq j];unfold Ni;rw[k,h,i];by_cases b:m+3>12
 ·simp only[if_pos b]
  rw[if_pos (by omega),if_pos (by omega)];have e:((n+719468)/146097*400+y+1-1)/400=(n+719468)/146097:=by omega
  have g:((n+719468)/146097*400+y+1-1)%400=y:=by omega
  rw[e,g,show m+3-12+9=m by omega];omega
 simp only[if_neg b];rw[if_neg (by omega),if_neg (by omega)];have e:((n+719468)/146097*400+y+0)/400=(n+719468)/146097:=by omega
 have g:((n+719468)/146097*400+y+0)%400=y:=by omega
 rw[e,g,show m+3-3=m by omega];omega
theorem adL (n:Int) (h: -16000000≤n∧n≤16000000):aj vE 210 [.int .i64 n] (.agg [.int .i64 (dY n),.int .i64 (dM n),.int .i64 (dD n)]):=by
 refine au Ec Ul 5 2 ?_
 (rw[Vz];(conv=>zeta))
 obtain⟨r0,s,p,x,u,y,t1,o,w,m⟩:=zX n;have e:bJ .i64 n 719468=n+719468:=cZ (by omega);rw[e];have f:fr (n+719468) 146097=(n+719468)%146097:=rfl;have eq:fq (n+719468) 146097=(n+719468)/146097:=rfl;have t:0≤(n+719468)%146097∧(n+719468)%146097<146097:=by omega
 have v: -200≤(n+719468)/146097∧(n+719468)/146097≤200:=by omega
 rw[f,eq];have d:(gF .i64 (dw .i64 (bJ .i64 (dw .i64 ((n+719468)%146097) (gF .i64 ((n+719468)%146097) 1460)) (gF .i64 ((n+719468)%146097) 36524)) (gF .i64 ((n+719468)%146097) 146096)) 365)=dR n:=by unfold dR;generalize (n+719468)%146097=r at*;simp(disch:=omega) only[cZ,dO,og,pF]
 rw[d];have eL:(dw .i64 ((n+719468)%146097) (dw .i64 (bJ .i64 (mF .i64 365 (dR n)) (gF .i64 (dR n) 4)) (gF .i64 (dR n) 100)))=dL n:=by unfold dL;generalize (n+719468)%146097=r at*;generalize dR n=q at*;simp(disch:=omega) only[cZ,dO,og,pF]
 rw[eL];have eT:(gF .i64 (bJ .i64 (mF .i64 5 (dL n)) 2) 153)=dT n:=by unfold dT;simp(disch:=omega) only[cZ,dO,og,pF]
 rw[eT];have i:(bJ .i64 (dw .i64 (dL n) (gF .i64 (bJ .i64 (mF .i64 153 (dT n)) 2) 5)) 1)=dD n:=by unfold dD;simp(disch:=omega) only[cZ,dO,og,pF]
 rw[i];have j:bJ .i64 (dT n) 3=dT n+3:=cZ (by omega);have k:mF .i64 ((n+719468)/146097) 400=(n+719468)/146097*400:=og (by omega);have g:bJ .i64 ((n+719468)/146097*400) (dR n)=(n+719468)/146097*400+dR n:=cZ (by omega);rw[j,k,g];have l:ak (ak (av (-9223372036854775808) (n+719468)) (av (n+719468) 9223372036854775807)) (ak (aW 0 146097) (av 146097 1000000))=true:=by rw[Wz (show Fits (n+719468) by unfold Fits;omega)];rfl
 rw[ax l];have b:dM n=if dT n+3>12 then dT n+3-12 else dT n+3:=rfl
 have a:dY n=(n+719468)/146097*400+dR n+(if dT n+3>12 then 1 else 0):=rfl;by_cases c:dT n+3>12
 ·rw[if_pos c] at b a
  rw[ax (bH (by omega)),b,a,dO (by omega),cZ (by omega)]
 rw[if_neg c] at b a;rw[aK (bF (by omega)),b,a,Int.add_zero]
theorem dateS_ok (n:Int) (a:ak (av (-16000000) n) (av n 16000000)=true):aj vE 210 [.int .i64 n] (.agg [.int .i64 (dY n),.int .i64 (dM n),.int .i64 (dD n)]):=adL n (by rw[aM,aB,aB] at a;exact a)
theorem vS4_ok:bf vE vS4:=by
 unfold vS4;refine bf.cons (fun args r h=>?_) (bf.cons (fun args r h=>?_) Ul);all_goals (revert h;intro h;first|unfold Xv at h|unfold dateS at h)
 all_goals (split at h;rotate_left; · cases h)
 all_goals (simp only[aR,bM] at h;obtain⟨a,rfl⟩:=h)
 ·exact VA _ _ _ a
 exact dateS_ok _ a
def AR (y m d:Int):Int×Int:=if gV y m d=true then(fK y m d,0) else(0,1)
theorem QZ (y m d:Int):aj vE 146 [.agg [.int .i64 y,.int .i64 m,.int .i64 d]] (.tup [.int .i64 (AR y m d).1,.int .i64 (AR y m d).2]):=by
 refine au Ec vS4_ok 5 3 ?_;rw[adH];unfold AR
 cases gV y m d<;>rfl
def jl (n:Int):Bool:=decide (iJ (-40000)≤n∧n<iJ 40001)
def Ed (n:Int):Int×Int×Int×Int:=if jl n=true then(dY n,dM n,dD n,0) else(0,0,0,1)
def resD (p:Int×Int×Int×Int):V:=.tup [.agg [.int .i64 p.1,.int .i64 p.2.1,.int .i64 p.2.2.1],.int .i64 p.2.2.2]
theorem ahead_lo:iJ (-40000)= -15329228:=by decide
theorem ahead_hi:iJ 40001=13890538:=by decide
theorem Js (n:Int):jl n=true↔-40000≤dY n∧dY n≤40000:=by
 obtain⟨_,_,_,_,_,_,_,_,c,b⟩:=zX n;have h:=adF c;rw[b] at h;unfold jl;rw[lG];constructor
 ·intro d
  constructor
  ·apply Int.not_lt.1
   intro a;have:=BF (show dY n+1≤ -40000 by omega);omega
  apply Int.not_lt.1
  intro a;have:=BF (show 40001≤dY n by omega);omega
 intro d;have f:=BF (show -40000≤dY n by omega);have e:=BF (show dY n+1≤40001 by omega);omega
theorem vDate_ev (n:Int):aj vE 204 [.int .i64 n] (resD (Ed n)):=by
 refine au Ec vS4_ok 5 3 ?_
 (rw[adI];(conv=>zeta))
 have e:=Js n;have b:jl n=true→-16000000≤n∧n≤16000000:=by unfold jl;rw[lG,ahead_lo,ahead_hi];omega
 have a:gV (dY n) (dM n) (dD n)=jl n:=by rw[uF,zW,e];exact⟨fun h=>⟨h.1,h.2.1⟩,fun h=>⟨h.1,h.2,(zX n).2.2.2.2.2.2.2.2.1⟩⟩
 unfold Ed resD;rw[a];by_cases c:n< -16000000
 ·have:jl n=false:=by cases h:jl n;rfl;have:=b h;omega
  rw[ax (bH c),this];rfl
 by_cases d:16000000<n
 ·have:jl n=false:=by cases h:jl n;rfl;have:=b h;omega
  rw[aK (bF (by omega)),ax (bH d),this];rfl
 rw[aK (bF (by omega)),aK (bF (by omega)),ax (by rw[aM,aB,aB];omega)]
 cases jl n<;>rfl
end Nt.Ev.YtknhlobahpgkeaaGreatDoor
