/-
  The plain law of the calendar: days, years, months. Civil: equations of functions, as the evaluator prints them.
-/
import Derived.Test.YtcmockbdkppglaaDoorME
set_option linter.all false
set_option maxRecDepth 100000
namespace Nt.Civil
def jb (y:Int):Bool:=decide (y%4=0∧(y%100≠0∨y%400=0))
def o8 (y m:Int):Int:=if m=2 then(if jb y=true then 29 else 28) else if m=4∨m=6∨m=9∨m=11 then 30 else if 1≤m∧m≤12 then 31 else 0
def zT (y:Int):Int:=y/4-y/100+y/400
def ic (y:Int):Int:=365*(y-1970)+zT (y-1)-zT 1969
def BJ (y m:Int):Int:=if m≤2 then 31*(m-1) else(153*(m-3)+2)/5+59+(if jb y=true then 1 else 0)
def X6 (y m d:Int):Int:=BJ y m+d
def jM (y m d:Int):Int:=ic y+X6 y m d-1
def valid (y m d:Int):Prop:=1≤d∧d≤o8 y m
theorem nK (y:Int):jb y=true↔(y%4=0∧(y%100≠0∨y%400=0)):=by unfold jb;rw[Iy]
theorem oJ (y:Int):ic (y+1)=ic y+365+(if jb y=true then 1 else 0):=by
 unfold ic zT;split
 ·rename_i h;rw[nK] at h;omega
 ·rename_i h;rw[nK] at h;omega
theorem jZ {y m d:Int} (h:valid y m d):1≤m∧m≤12:=by
 unfold valid o8 at h
 (repeat' split at h)<;>omega
theorem Gm (y m:Int) (b:1≤m) (c:m≤12):BJ y (m+1)=BJ y m+o8 y m:=by
 have a:m=1∨m=2∨m=3∨m=4∨m=5∨m=6∨m=7∨m=8∨m=9∨m=10∨m=11∨m=12:=by omega
 rcases a with rfl|rfl|rfl|rfl|rfl|rfl|rfl|rfl|rfl|rfl|rfl|rfl<;>unfold BJ o8<;>cases jb y<;>decide
theorem TK (y:Int):BJ y 1=0:=rfl
theorem TL (y:Int):BJ y 13=365+(if jb y=true then 1 else 0):=by unfold BJ;cases jb y<;>decide
theorem qp (y m:Int) (a:1≤m) (b:m≤12):28≤o8 y m∧o8 y m≤31:=by
 unfold o8;(repeat' split)<;>omega
theorem Aq (y:Int): ∀(k:Nat) (m:Int),1≤m→m+k≤13→BJ y m+28*k≤BJ y (m+k)
 |0,m,_,_=>by simp
 |k+1,m,b,c=>by
  have h3:=Aq y k m b (by omega);have a:=Gm y (m+k) (by omega) (by omega);have d:=qp y (m+k) (by omega) (by omega);have e:m+((k+1:Nat):Int)=m+k+1:=by omega
  rw[e,a];omega
theorem Dk {y m d:Int} (h:valid y m d):1≤X6 y m d∧X6 y m d≤365+(if jb y=true then 1 else 0):=by
 obtain⟨c,a⟩:=jZ h;have h3:=Aq y (m-1).toNat 1 (by omega) (by omega);have b:=Aq y (13-(m+1)).toNat (m+1) (by omega) (by omega);have e:=Gm y m c a;rw[show(1:Int)+((m-1).toNat:Int)=m by omega,TK] at h3;rw[show m+1+((13-(m+1)).toNat:Int)=13 by omega,TL] at b;unfold valid at h;unfold X6;omega
theorem Bf (y:Int): ∀(k:Nat),ic y+365*k≤ic (y+k)
 |0=>by simp
 |k+1=>by
  have h:=Bf y k;have a:=oJ (y+k);rw[show y+((k+1:Nat):Int)=y+k+1 by omega,a];split<;>omega
theorem uw {a b:Int} (h:a≤b):ic a+365*(b-a)≤ic b:=by
 have:=Bf a (b-a).toNat;rw[show a+((b-a).toNat:Int)=b by omega] at this;omega
theorem Np {y m d:Int} (h:valid y m d):ic y≤jM y m d∧jM y m d<ic (y+1):=by
 have a:=Dk h;have b:=oJ y;unfold jM;omega
def Ea (y m d:Int):Int:=y/400*146097+y%400*365+y%400/4-y%400/100+(153*m+2)/5+d-1-719468
theorem Bg {y m d:Int} (h:valid y m d):Ea (if m<3 then y-1 else y) (if m<3 then m+9 else m-3) d=jM y m d:=by
 obtain⟨m1,b⟩:=jZ h;unfold Ea jM ic X6 BJ zT;by_cases a:m<3
 ·rw[if_pos a,if_pos a,if_pos (by omega)]
  have:m=1∨m=2:=by omega
  rcases this with rfl|rfl<;>omega
 ·rw[if_neg a,if_neg a,if_neg (by omega)]
  have e:(y-1)/4-(y-1)/100+(y-1)/400+(if jb y=true then 1 else 0)=y/4-y/100+y/400:=by
   split
   ·rename_i h;rw[nK] at h;omega
   ·rename_i h;rw[nK] at h;omega
  generalize (if jb y=true then(1:Int) else 0)=z at*;generalize (153*(m-3)+2)/5=t at*;omega
theorem JR (r:Int) (p:0≤r) (w:r<146097): ∃y L,(r-r/1460+r/36524-r/146096)/365=y∧0≤y∧y≤399∧r=365*y+y/4-y/100+L∧0≤L∧L≤365∧(L=365→jb (y+1)=true):=by
 by_cases h:r=146096
 ·subst h
  exact⟨399,365,by decide,by decide,by decide,by decide,by decide,by decide,fun _=>by decide⟩
 ·obtain⟨k,t,j,u,rfl,s,q,C,D,I,x,B⟩: ∃k t j u:Int,r=36524*k+1461*j+u∧0≤k∧k≤3∧t=1461*j+u∧t<36524∧0≤j∧0≤u∧u≤1460:=
   ⟨r/36524,r%36524,r%36524/1461,r%36524%1461,by omega,by omega,by omega,by omega,by omega,by omega,by omega,by omega⟩
  have n:j≤24:=by omega
  have d:(36524*k+1461*j+u)/36524=k:=by omega
  have f:(36524*k+1461*j+u)/146096=0:=by omega
  have a: ∃e:Int,(36524*k+1461*j+u)/1460=25*k+j+e∧0≤e∧e≤1∧(e=1→1340≤u)∧(e=0→u≤1459):=by
   refine⟨(24*k+j+u)/1460,?_,?_,?_,?_,?_⟩<;>omega
  obtain⟨e,i,m,G,A,H⟩:=a;rw[d,f,i];have b: ∃v:Int,(u-e)/365=v∧0≤v∧v≤3∧365*v≤u∧u≤365*v+365∧(u=365*v+365→v=3):=by
   refine⟨(u-e)/365,rfl,?_,?_,?_,?_,?_⟩<;>omega
  obtain⟨v,b,J,z,E,o,F⟩:=b;have g:(36524*k+1461*j+u-(25*k+j+e)+k-0)/365=100*k+4*j+v:=by omega
  have c:(100*k+4*j+v)/4=25*k+j:=by omega
  have l:(100*k+4*j+v)/100=k:=by omega
  refine⟨100*k+4*j+v,u-365*v,g,by omega,by omega,by rw[c,l];omega,by omega,by omega,fun hL=>?_⟩;rw[nK];have:v=3:=by omega
  subst this;omega
theorem Ii (L:Int) (f:0≤L) (e:L≤365): ∃m D,(5*L+2)/153=m∧L-(153*m+2)/5+1=D∧0≤m∧m≤11∧1≤D∧(∀y:Int,(L=365→jb y=true)→D≤o8 y (if m+3>12 then m+3-12 else m+3)):=by
 refine⟨(5*L+2)/153,_,rfl,rfl,by omega,by omega,by omega,fun y b=>?_⟩;obtain⟨m,a⟩: ∃m,(5*L+2)/153=m:=⟨_,rfl⟩
 rw[a];have d:m=0∨m=1∨m=2∨m=3∨m=4∨m=5∨m=6∨m=7∨m=8∨m=9∨m=10∨m=11:=by omega
 unfold o8;rcases d with rfl|rfl|rfl|rfl|rfl|rfl|rfl|rfl|rfl|rfl|rfl|rfl<;>simp<;>(try split)<;>(try omega)
 all_goals
  rename_i hl;by_cases c:L=365
  ·exact absurd (b c) (by simpa using hl)
  ·omega
end Nt.Civil
namespace Nt.Ev.YtcmockbdkppglaaDoor
open Go Nt.Num Go.Proofs.YtcmockbdkppglaaDoor
open Nt.Civil
noncomputable def vE:Env:=⟨Go.Proofs.Tryd.prog,fun _=>none⟩
def fq (a b:Int):Int:=a/b
def fr (a b:Int):Int:=a%b
noncomputable def YA:aO:=fun a=>match a with|[.int .i64 a,.int .i64 b]=>some (av (av (aH (-9223372036854775808) a) (aH a 9223372036854775807)) (av (aZ 0 b) (aH b 1000000)),.tup [.int .i64 (fq a b),.int .i64 (fr a b),.int .i64 0])|_=>none
noncomputable def vS:List (Nat×aO):=(37,YA)::[]
noncomputable def Ve:aO:=fun a=>match a with|[.int .i64 y]=>some (av (aH (-9223372036854775808) y) (aH y 9223372036854775807),.bool (jb y))|_=>none
noncomputable def ZW:List (Nat×aO):=(67,Ve)::vS
noncomputable def YB:aO:=fun a=>match a with|[.int .i64 y,.int .i64 m]=>some (av (aH (-9223372036854775808) y) (aH y 9223372036854775807),.int .i64 (o8 y m))|_=>none
noncomputable def ZX:List (Nat×aO):=(54,YB)::ZW
def eX (y m d:Int):Bool:=decide (-40000≤y∧y≤40000∧1≤d∧d≤o8 y m)
noncomputable def Pp:aO:=fun a=>match a with|[.agg [.int .i64 y,.int .i64 m,.int .i64 d]]=>some (true,.bool (eX y m d))|_=>none
noncomputable def X7:List (Nat×aO):=(39,Pp)::ZX
def dR (n:Int):Int:=((n+719468)%146097-(n+719468)%146097/1460+(n+719468)%146097/36524-(n+719468)%146097/146096)/365
def dL (n:Int):Int:=(n+719468)%146097-(365*dR n+dR n/4-dR n/100)
def dT (n:Int):Int:=(5*dL n+2)/153
def dM (n:Int):Int:=if dT n+3>12 then dT n+3-12 else dT n+3
def dY (n:Int):Int:=(n+719468)/146097*400+dR n+(if dT n+3>12 then 1 else 0)
def dD (n:Int):Int:=dL n-(153*dT n+2)/5+1
noncomputable def Le:aO:=fun a=>match a with|[.agg [.int .i64 y,.int .i64 m,.int .i64 d]]=>some (eX y m d,.int .i64 (jM y m d))|_=>none
noncomputable def Vf:aO:=fun a=>match a with|[.int .i64 n]=>some (av (aH (-16000000) n) (aH n 16000000),.agg [.int .i64 (dY n),.int .i64 (dM n),.int .i64 (dD n)])|_=>none
noncomputable def ZY:List (Nat×aO):=(66,Le)::(38,Vf)::X7
theorem Nq (F y) (K:V→Option V):
 gF vE (fK vE vS F 2) F 67 [V.int .i64 y] K=
 sel (ieq (wO .and .i64 y 3) 0) (sel (aS (ieq (DK y 25) 0)) (K (V.bool true)) (K (V.bool (ieq (wO .and .i64 y 15) 0)))) (K (V.bool false)):=by kernel_rfl
theorem QA (F y m) (K:V→Option V):
 gF vE (fK vE ZW F 2) F 54 [V.int .i64 y,V.int .i64 m] K=
 let B:=sel (ieq m 2) (sel (av (aH (-9223372036854775808) y) (aH y 9223372036854775807)) (sel (jb y) (K (V.int .i64 29)) (K (V.int .i64 28))) none) (K (V.int .i64 0));let C:=K (V.int .i64 31);let D:=K (V.int .i64 30);let A:=sel (ieq m 4) (sel (ieq m 4) D B) (sel (ieq m 6) (sel (ieq m 6) D B) (sel (ieq m 9) (sel (ieq m 9) D B) (sel (ieq m 11) D B)));sel (ieq m 1) (sel (ieq m 1) C A) (sel (ieq m 3) (sel (ieq m 3) C A) (sel (ieq m 5) (sel (ieq m 5) C A) (sel (ieq m 7) (sel (ieq m 7) C A) (sel (ieq m 8) (sel (ieq m 8) C A) (sel (ieq m 10) (sel (ieq m 10) C A) (sel (ieq m 12) C A)))))):=by kernel_rfl
theorem JS (F y m d) (K:V→Option V):
 gF vE (fK vE ZX F 2) F 39 [V.agg [V.int .i64 y,V.int .i64 m,V.int .i64 d]] K=
 let A:=K (V.bool false);sel (aH (-40000) y) (sel (aH y 40000) (sel (aH 1 d) (sel (av (aH (-9223372036854775808) y) (aH y 9223372036854775807)) (K (V.bool (aH d (o8 y m)))) none) A) A) A:=by kernel_rfl
theorem Ij (F y m d) (K:V→Option V):
 gF vE (fK vE X7 F 2) F 66 [V.agg [V.int .i64 y,V.int .i64 m,V.int .i64 d]] K=
 let A:=bD .i64 y 1;let B:=av (aZ 0 400) (aH 400 1000000);let C:=bD .i64 m 3;let E:=fr y 400;let D:=fr A 400;sel (aZ C 0) (sel (av (av (aH (-9223372036854775808) A) (aH A 9223372036854775807)) B) (K (V.int .i64 (bD .i64 (aY .i64 (bD .i64 (aY .i64 (aY .i64 (iB .i64 (fq A 400) 146097) (iB .i64 D 365)) (iC .i64 D 4)) (iC .i64 D 100)) (bD .i64 (aY .i64 (iC .i64 (aY .i64 (iB .i64 153 (aY .i64 C 12)) 2) 5) d) 1)) 719468))) none) (sel (av (av (aH (-9223372036854775808) y) (aH y 9223372036854775807)) B) (K (V.int .i64 (bD .i64 (aY .i64 (bD .i64 (aY .i64 (aY .i64 (iB .i64 (fq y 400) 146097) (iB .i64 E 365)) (iC .i64 E 4)) (iC .i64 E 100)) (bD .i64 (aY .i64 (iC .i64 (aY .i64 (iB .i64 153 C) 2) 5) d) 1)) 719468))) none):=by kernel_rfl
theorem JU (F n) (K:V→Option V):
 gF vE (fK vE X7 F 2) F 38 [V.int .i64 n] K=
 let D:=aY .i64 n 719468;let G:=fr D 146097;let A:=iC .i64 (bD .i64 (aY .i64 (bD .i64 G (iC .i64 G 1460)) (iC .i64 G 36524)) (iC .i64 G 146096)) 365;let B:=bD .i64 G (bD .i64 (aY .i64 (iB .i64 365 A) (iC .i64 A 4)) (iC .i64 A 100));let H:=aY .i64 (iB .i64 (fq D 146097) 400) A;let C:=iC .i64 (aY .i64 (iB .i64 5 B) 2) 153;let E:=V.int .i64 (aY .i64 (bD .i64 B (iC .i64 (aY .i64 (iB .i64 153 C) 2) 5)) 1);let I:=aY .i64 C 3;sel (av (av (aH (-9223372036854775808) D) (aH D 9223372036854775807)) (av (aZ 0 146097) (aH 146097 1000000))) (sel (aZ 12 I) (K (V.agg [V.int .i64 (aY .i64 H 1),V.int .i64 (bD .i64 I 12),E])) (K (V.agg [V.int .i64 H,V.int .i64 I,E]))) none:=by kernel_rfl
theorem Nr (F y m d) (K:V→Option V):
 gF vE (fK vE ZY F 3) F 52 [V.agg [V.int .i64 y,V.int .i64 m,V.int .i64 d]] K=
 sel (aS (eX y m d)) (K (V.tup [V.int .i64 0,V.int .i64 1])) (sel (eX y m d) (K (V.tup [V.int .i64 (jM y m d),V.int .i64 0])) none):=by kernel_rfl
theorem Ns (F n) (K:V→Option V):
 gF vE (fK vE ZY F 3) F 26 [V.int .i64 n] K=
 let B:=V.int .i64 0;let A:=K (V.tup [V.agg [B,B,B],V.int .i64 1]);sel (aZ n (-16000000)) A (sel (aZ 16000000 n) A (sel (av (aH (-16000000) n) (aH n 16000000)) (sel (aS (eX (dY n) (dM n) (dD n))) A (K (V.tup [V.agg [V.int .i64 (dY n),V.int .i64 (dM n),V.int .i64 (dD n)],B]))) none)):=by kernel_rfl
open Go.RowKit Nt
theorem qU:oU vE:=⟨by kernel_rfl,by kernel_rfl⟩
theorem Vg {m:Int} (h:av (aH (-9223372036854775808) m) (aH m 9223372036854775807)=true):Fits m:=by rw[ay,ax,ax] at h;exact h
theorem Kw {m:Int} (h:Fits m):av (aH (-9223372036854775808) m) (aH m 9223372036854775807)=true:=by rw[ay,ax,ax];exact h
theorem QB (a b:Int) (j:0<b):DN a b=(a/b,a%b,0):=by
 have l:=Int.mul_tdiv_add_tmod a b;have h:=Int.mul_ediv_add_emod a b;have h3:=Int.emod_nonneg a (show b≠0 by omega);have n:=Int.emod_lt_of_pos a j;have o:=Ep a b (by omega);rw[Dh a b (by omega) (by omega)];have c: ∀q r:Int,b*q+r=a→0≤r→r<b→q=a/b∧r=a%b:=fun q r e k i=>by
  have g:a/b=q:=by
   rw[←e,Int.add_comm,Int.add_mul_ediv_left _ _ (by omega),Int.ediv_eq_zero_of_lt k i];omega
  refine⟨g.symm,?_⟩;rw[g] at h;omega
 split
 ·rename_i m
  obtain⟨d,f⟩:=c (a.tdiv b-1) (a.tmod b+b) (by rw[Int.mul_sub];omega) (by omega) (by omega);rw[d,f]
 ·rename_i m
  obtain⟨d,f⟩:=c (a.tdiv b) (a.tmod b) l (by omega) (by omega);rw[d,f]
theorem Nu {a b:Int} (e:av (av (aH (-9223372036854775808) a) (aH a 9223372036854775807)) (av (aZ 0 b) (aH b 1000000))=true):Fits a∧Fits b∧0<b:=by
 obtain⟨d,c⟩:=aR e;rw[ay,aU,ax] at c;exact⟨Vg d,by unfold Fits;omega,c.1⟩
theorem Lg (a b:Int) (j:av (av (aH (-9223372036854775808) a) (aH a 9223372036854775807)) (av (aZ 0 b) (aH b 1000000))=true):ak vE 37 [.int .i64 a,.int .i64 b] (.tup [.int .i64 (fq a b),.int .i64 (fr a b),.int .i64 0]):=by
 obtain⟨i,h,g⟩:=Nu j;refine fJ fun G w vs l k d=>?_
 obtain⟨x,y,rfl,hx,c⟩:=rO d;unfold aJ at hx c;subst hx;subst c;refine(Zc a b w i h).mono ?_;rintro e w' ⟨rfl,f⟩;rw[QB a b g];exact⟨_,rfl,JM f,Nk (pO _ _) (pO _ _) (pO _ _)⟩
theorem Vh:dP vE vS:=by
 unfold vS;refine dP.cons (fun args r h=>?_) dP.nil;all_goals (revert h;intro h;first|unfold YA at h)
 all_goals (split at h;rotate_left; · cases h)
 all_goals (simp only[aF,bP] at h;obtain⟨a,rfl⟩:=h)
 ·exact Lg _ _ a
theorem Lh (y:Int) (k:Nat) (h:k≤8) (m:Int) (g:m=((2 ^ k-1:Nat):Int)):wO .and .i64 y m=y%((2 ^ k:Nat):Int):=by
 subst g;have l:2 ^ k≤2 ^ 8:=R7 (by decide) h;have o:0<2 ^ k:=XT (by decide);have e:((BitVec.ofInt IntKind.i64.bits y&&& BitVec.ofInt IntKind.i64.bits ((2 ^ k-1:Nat):Int)).toNat:Int)=y%((2 ^ k:Nat):Int):=by
  rw[BitVec.toNat_and];have i:(BitVec.ofInt IntKind.i64.bits ((2 ^ k-1:Nat):Int)).toNat=2 ^ k-1:=by
   rw[BitVec.ofInt_natCast,BitVec.toNat_ofNat,Nat.mod_eq_of_lt];have:(2:Nat) ^ 8<2 ^ IntKind.i64.bits:=by decide
   omega
  rw[i,Nat.and_two_pow_sub_one_eq_mod,BitVec.toNat_ofInt];have c:((2 ^ IntKind.i64.bits:Nat):Int)=18446744073709551616:=by decide
  rw[c];have d:((2 ^ k:Nat):Int) ∣ 18446744073709551616:=by
   have:(2 ^ k:Nat) ∣ 2 ^ 64:=Nat.pow_dvd_pow 2 (by omega);exact Int.natCast_dvd_natCast.2 this
  have j:0≤y%18446744073709551616:=by omega
  have f: ∀a b:Nat,((a%b:Nat):Int)=(a:Int)%(b:Int):=fun _ _=>rfl
  rw[f,Int.toNat_of_nonneg j,Int.emod_emod_of_dvd _ d]
 unfold wO;simp only;rw[e];have n:=Int.emod_nonneg y (show((2 ^ k:Nat):Int)≠0 by omega);have h3:=Int.emod_lt_of_pos y (show(0:Int)<((2 ^ k:Nat):Int) by omega);exact IntWalk.i64_in _ (by omega)
theorem Nv (y k:Int) (a:0<k):(DK y k=0)=(y%k=0):=by
 unfold DK;refine propext ⟨fun h=>?_,fun h=>?_⟩
 ·exact Int.emod_eq_zero_of_dvd (Int.dvd_of_tmod_eq_zero h)
 ·exact Int.tmod_eq_zero_of_dvd (Int.dvd_of_emod_eq_zero h)
theorem QC (y:Int):ak vE 67 [.int .i64 y] (.bool (jb y)):=by
 refine aG qU Vh 5 2 ?_;rw[Nq,Lh y 2 (by decide) 3 rfl,Lh y 4 (by decide) 15 rfl];have b:((2 ^ 2:Nat):Int)=4:=rfl;have a:((2 ^ 4:Nat):Int)=16:=rfl;rw[b,a];simp only[oh,oz,um,Nv y 25 (by decide)];unfold jb;repeat' split
 all_goals first
  |(rw[DD (by omega)];done)
  |(rw[yI (by omega)];done)
  |(congr 2;unfold ieq;rw[Kc];simp;omega)
theorem QD (y:Int) (a:av (aH (-9223372036854775808) y) (aH y 9223372036854775807)=true):ak vE 67 [.int .i64 y] (.bool (jb y)):=QC y
theorem Pq:dP vE ZW:=by
 unfold ZW;refine dP.cons (fun args r h=>?_) Vh;all_goals (revert h;intro h;first|unfold Ve at h)
 all_goals (split at h;rotate_left; · cases h)
 all_goals (simp only[aF,bP] at h;obtain⟨a,rfl⟩:=h)
 ·exact QD _ a
theorem st' (x y:Option V):sel true x y=x:=rfl
theorem sf' (x y:Option V):sel false x y=y:=rfl
theorem TM (y m:Int) (b:Fits y):ak vE 54 [.int .i64 y,.int .i64 m] (.int .i64 (o8 y m)):=by
 refine aG qU Pq 5 2 ?_
 (rw[QA];(conv=>zeta))
 have a:=Kw b;by_cases d:1≤m∧m≤12
 ·have c:m=1∨m=2∨m=3∨m=4∨m=5∨m=6∨m=7∨m=8∨m=9∨m=10∨m=11∨m=12:=by omega
  rcases c with rfl|rfl|rfl|rfl|rfl|rfl|rfl|rfl|rfl|rfl|rfl|rfl;all_goals
   simp only[ieq,Int.reduceBEq,st',sf',a];unfold o8
   cases jb y<;>rfl
 ·have g: ∀k:Int,1≤k→k≤12→ieq m k=false:=fun k f e=>bJ (by omega)
  have hl:o8 y m=0:=by unfold o8;rw[if_neg (by omega),if_neg (by omega),if_neg (by omega)]
  simp only[g 1 (by decide) (by decide),g 2 (by decide) (by decide),g 3 (by decide) (by decide),g 4 (by decide) (by decide),g 5 (by decide) (by decide),g 6 (by decide) (by decide),g 7 (by decide) (by decide),g 8 (by decide) (by decide),g 9 (by decide) (by decide),g 10 (by decide) (by decide),g 11 (by decide) (by decide),g 12 (by decide) (by decide),st',sf',hl]
theorem TN (y m:Int) (a:av (aH (-9223372036854775808) y) (aH y 9223372036854775807)=true):ak vE 54 [.int .i64 y,.int .i64 m] (.int .i64 (o8 y m)):=TM y m (Vg a)
theorem Ps:dP vE ZX:=by
 unfold ZX;refine dP.cons (fun args r h=>?_) Pq;all_goals (revert h;intro h;first|unfold YB at h)
 all_goals (split at h;rotate_left; · cases h)
 all_goals (simp only[aF,bP] at h;obtain⟨a,rfl⟩:=h)
 ·exact TN _ _ a
theorem Nw (y m d:Int):ak vE 39 [.agg [.int .i64 y,.int .i64 m,.int .i64 d]] (.bool (eX y m d)):=by
 refine aG qU Ps 5 2 ?_
 (rw[JS];(conv=>zeta))
 unfold eX;simp only[oh,ax,um,ay];repeat' split
 all_goals first
  |(rw[yI (by omega)];done)
  |(exfalso;omega)
  |(congr 2;unfold aH;rw[Kc];simp;omega)
theorem Dl (y m d:Int) (a:true=true):ak vE 39 [.agg [.int .i64 y,.int .i64 m,.int .i64 d]] (.bool (eX y m d)):=Nw y m d
theorem Ja:dP vE X7:=by
 unfold X7;refine dP.cons (fun args r h=>?_) Ps;all_goals (revert h;intro h;first|unfold Pp at h)
 all_goals (split at h;rotate_left; · cases h)
 all_goals (simp only[aF,bP] at h;obtain⟨a,rfl⟩:=h)
 ·exact Dl _ _ _ rfl
theorem iL {y m d:Int}:eX y m d=true↔-40000≤y∧y≤40000∧valid y m d:=by
 unfold eX valid;rw[Iy]
theorem JV (y m d:Int) (h:eX y m d=true):ak vE 66 [.agg [.int .i64 y,.int .i64 m,.int .i64 d]] (.int .i64 (jM y m d)):=by
 refine aG qU Ja 5 2 ?_
 (rw[Ij];(conv=>zeta))
 obtain⟨j,k,c⟩:=iL.1 h;obtain⟨m1,g⟩:=jZ c;have i:1≤d∧d≤31:=by have:=qp y m m1 g;unfold valid at c;omega
 have a:=Bg c;have e:bD .i64 m 3=m-3:=eU (by omega);have f:bD .i64 y 1=y-1:=eU (by omega);rw[e,f];unfold Ea at a;by_cases b:m<3
 ·rw[if_pos b,if_pos b] at a
  rw[ai (bV (by omega)),Kw (show Fits (y-1) by unfold Fits;omega)];show some _=some _;unfold fq fr;congr 2
  rw[←a];simp(disch:=omega) only[bQ,eU,jo,rM];omega
 ·rw[if_neg b,if_neg b] at a
  rw[aD (bC (by omega)),Kw (show Fits y by unfold Fits;omega)];show some _=some _;unfold fq fr;congr 2
  rw[←a];simp(disch:=omega) only[bQ,eU,jo,rM];omega
theorem JW (y m d:Int) (a:eX y m d=true):ak vE 66 [.agg [.int .i64 y,.int .i64 m,.int .i64 d]] (.int .i64 (jM y m d)):=JV y m d a
theorem oK (n:Int):0≤dR n∧dR n≤399∧0≤dL n∧dL n≤365∧(n+719468)%146097=365*dR n+dR n/4-dR n/100+dL n∧0≤dT n∧dT n≤11∧1≤dD n∧valid (dY n) (dM n) (dD n)∧jM (dY n) (dM n) (dD n)=n:=by
 obtain⟨y,L,s,v,h3,r,u,p,t⟩:=JR ((n+719468)%146097) (by omega) (by omega);have c:dR n=y:=s;have f:dL n=L:=by unfold dL;rw[c];omega
 obtain⟨m,D,l,q,w,z,x,o⟩:=Ii L u p;have d:dT n=m:=by unfold dT;rw[f];exact l
 have k:dD n=D:=by unfold dD;rw[f,d];exact q
 have h:dM n=if m+3>12 then m+3-12 else m+3:=by unfold dM;rw[d]
 have i:dY n=(n+719468)/146097*400+y+(if m+3>12 then 1 else 0):=by unfold dY;rw[c,d]
 have a:L=365→jb (dY n)=true:=by
  intro hL;have:=t hL;rw[nK] at this⊢;have b:m=11:=by omega
  rw[i,if_pos (by omega)];omega
 have j:valid (dY n) (dM n) (dD n):=by
  refine⟨by omega,?_⟩;rw[k,h];exact o (dY n) a
 refine⟨by omega,by omega,by omega,by omega,by rw[c,f];exact r,by omega,by omega,by omega,j,?_⟩;rw[←Bg j];unfold Ea;rw[k,h,i];by_cases b:m+3>12
 ·simp only[if_pos b]
  rw[if_pos (by omega),if_pos (by omega)];have e:((n+719468)/146097*400+y+1-1)/400=(n+719468)/146097:=by omega
  have g:((n+719468)/146097*400+y+1-1)%400=y:=by omega
  rw[e,g,show m+3-12+9=m by omega];omega
 ·simp only[if_neg b]
  rw[if_neg (by omega),if_neg (by omega)];have e:((n+719468)/146097*400+y+0)/400=(n+719468)/146097:=by omega
  have g:((n+719468)/146097*400+y+0)%400=y:=by omega
  rw[e,g,show m+3-3=m by omega];omega
theorem Ny (n:Int) (h: -16000000≤n∧n≤16000000):ak vE 38 [.int .i64 n] (.agg [.int .i64 (dY n),.int .i64 (dM n),.int .i64 (dD n)]):=by
 refine aG qU Ja 5 2 ?_
 (rw[JU];(conv=>zeta))
 obtain⟨C,v,t,A,x,B,u,s,z,p⟩:=oK n;have e:aY .i64 n 719468=n+719468:=bQ (by omega);rw[e];have f:fr (n+719468) 146097=(n+719468)%146097:=rfl;have eq:fq (n+719468) 146097=(n+719468)/146097:=rfl;have w:0≤(n+719468)%146097∧(n+719468)%146097<146097:=by omega
 have y: -200≤(n+719468)/146097∧(n+719468)/146097≤200:=by omega
 rw[f,eq];have d:(iC .i64 (bD .i64 (aY .i64 (bD .i64 ((n+719468)%146097) (iC .i64 ((n+719468)%146097) 1460)) (iC .i64 ((n+719468)%146097) 36524)) (iC .i64 ((n+719468)%146097) 146096)) 365)=dR n:=by
  unfold dR;generalize (n+719468)%146097=r at*;simp(disch:=omega) only[bQ,eU,jo,rM]
 rw[d];have o:(bD .i64 ((n+719468)%146097) (bD .i64 (aY .i64 (iB .i64 365 (dR n)) (iC .i64 (dR n) 4)) (iC .i64 (dR n) 100)))=dL n:=by
  unfold dL;generalize (n+719468)%146097=r at*;generalize dR n=q at*;simp(disch:=omega) only[bQ,eU,jo,rM]
 rw[o];have i:(iC .i64 (aY .i64 (iB .i64 5 (dL n)) 2) 153)=dT n:=by
  unfold dT;simp(disch:=omega) only[bQ,eU,jo,rM]
 rw[i];have j:(aY .i64 (bD .i64 (dL n) (iC .i64 (aY .i64 (iB .i64 153 (dT n)) 2) 5)) 1)=dD n:=by
  unfold dD;simp(disch:=omega) only[bQ,eU,jo,rM]
 rw[j];have k:aY .i64 (dT n) 3=dT n+3:=bQ (by omega);have l:iB .i64 ((n+719468)/146097) 400=(n+719468)/146097*400:=jo (by omega);have g:aY .i64 ((n+719468)/146097*400) (dR n)=(n+719468)/146097*400+dR n:=bQ (by omega);rw[k,l,g];have m:av (av (aH (-9223372036854775808) (n+719468)) (aH (n+719468) 9223372036854775807)) (av (aZ 0 146097) (aH 146097 1000000))=true:=by
  rw[Kw (show Fits (n+719468) by unfold Fits;omega)];rfl
 rw[ai m];have b:dM n=if dT n+3>12 then dT n+3-12 else dT n+3:=rfl
 have a:dY n=(n+719468)/146097*400+dR n+(if dT n+3>12 then 1 else 0):=rfl;by_cases c:dT n+3>12
 ·rw[if_pos c] at b a
  rw[ai (bV (by omega)),b,a,eU (by omega),bQ (by omega)]
 ·rw[if_neg c] at b a
  rw[aD (bC (by omega)),b,a,Int.add_zero]
theorem QE (n:Int) (a:av (aH (-16000000) n) (aH n 16000000)=true):ak vE 38 [.int .i64 n] (.agg [.int .i64 (dY n),.int .i64 (dM n),.int .i64 (dD n)]):=Ny n (by rw[ay,ax,ax] at a;exact a)
theorem Pt:dP vE ZY:=by
 unfold ZY;refine dP.cons (fun args r h=>?_) (dP.cons (fun args r h=>?_) Ja);all_goals (revert h;intro h;first|unfold Le at h|unfold Vf at h)
 all_goals (split at h;rotate_left; · cases h)
 all_goals (simp only[aF,bP] at h;obtain⟨a,rfl⟩:=h)
 ·exact JW _ _ _ a
 ·exact QE _ a
def Co (y m d:Int):Int×Int:=if eX y m d=true then(jM y m d,0) else(0,1)
theorem QF (y m d:Int):ak vE 52 [.agg [.int .i64 y,.int .i64 m,.int .i64 d]] (.tup [.int .i64 (Co y m d).1,.int .i64 (Co y m d).2]):=by
 refine aG qU Pt 5 3 ?_;rw[Nr];unfold Co
 cases eX y m d<;>rfl
def fo (n:Int):Bool:=decide (ic (-40000)≤n∧n<ic 40001)
def wU (n:Int):Int×Int×Int×Int:=if fo n=true then(dY n,dM n,dD n,0) else(0,0,0,1)
def YC (p:Int×Int×Int×Int):V:=.tup [.agg [.int .i64 p.1,.int .i64 p.2.1,.int .i64 p.2.2.1],.int .i64 p.2.2.2]
theorem Gn:ic (-40000)= -15329228:=by decide
theorem Gp:ic 40001=13890538:=by decide
theorem Bh (n:Int):fo n=true↔-40000≤dY n∧dY n≤40000:=by
 obtain⟨_,_,_,_,_,_,_,_,c,b⟩:=oK n;have h:=Np c;rw[b] at h;unfold fo;rw[Iy];constructor
 ·intro d
  constructor
  ·apply Int.not_lt.1
   intro a;have:=uw (show dY n+1≤ -40000 by omega);omega
  ·apply Int.not_lt.1
   intro a;have:=uw (show 40001≤dY n by omega);omega
 ·intro d
  have f:=uw (show -40000≤dY n by omega);have e:=uw (show dY n+1≤40001 by omega);omega
theorem QG (n:Int):ak vE 26 [.int .i64 n] (YC (wU n)):=by
 refine aG qU Pt 5 3 ?_
 (rw[Ns];(conv=>zeta))
 have e:=Bh n;have b:fo n=true→-16000000≤n∧n≤16000000:=by
  unfold fo;rw[Iy,Gn,Gp];omega
 have a:eX (dY n) (dM n) (dD n)=fo n:=by
  rw[Kc,iL,e];exact⟨fun h=>⟨h.1,h.2.1⟩,fun h=>⟨h.1,h.2,(oK n).2.2.2.2.2.2.2.2.1⟩⟩
 unfold wU YC;rw[a];by_cases c:n< -16000000
 ·have:fo n=false:=by cases h:fo n;rfl;have:=b h;omega
  rw[ai (bV c),this];rfl
 ·by_cases d:16000000<n
  ·have:fo n=false:=by cases h:fo n;rfl;have:=b h;omega
   rw[aD (bC (by omega)),ai (bV d),this];rfl
  ·rw[aD (bC (by omega)),aD (bC (by omega)),ai (by rw[ay,ax,ax];omega)]
   cases fo n<;>rfl
end Nt.Ev.YtcmockbdkppglaaDoor
