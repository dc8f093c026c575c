/-
  The plain law of the calendar: days, years, months. Civil: equations of functions, as the evaluator prints them. Days of the calendar: what the program's functions and the document's answer.
-/
import Derived.Test.YtplklcejbmfgdaaGreatDoorME
set_option linter.unusedVariables false
set_option linter.unusedSimpArgs false
set_option linter.unusedSectionVars false
namespace Nt.Civil
def uJ (y:Int):Bool:=decide (y%4=0∧(y%100≠0∨y%400=0))
def xu (y m:Int):Int:=if m=2 then(if uJ y=true then 29 else 28) else if m=4∨m=6∨m=9∨m=11 then 30 else if 1≤m∧m≤12 then 31 else 0
def Tp (y:Int):Int:=y/4-y/100+y/400
def Tq (y:Int):Int:=365*(y-1970)+Tp (y-1)-Tp 1969
def valid (y m d:Int):Prop:=1≤d∧d≤xu y m
theorem Qi (y:Int):uJ y=true↔(y%4=0∧(y%100≠0∨y%400=0)):=by unfold uJ;rw[decide_eq_true_eq]
theorem Iy (y:Int):Tq (y+1)=Tq y+365+(if uJ y=true then 1 else 0):=by
 unfold Tq Tp;split
 ·rename_i h;rw[Qi] at h;omega
 ·rename_i h;rw[Qi] at h;omega
end Nt.Civil
namespace Nt.Ev.YtplklcejbmfgdaaGreatDoor
set_option maxRecDepth 100000
open Go Nt.Num Go.Proofs.YtplklcejbmfgdaaGreatDoor
open Nt.Civil
noncomputable def vE:Env:=⟨Go.Proofs.Tryz.prog,fun _=>none⟩
def fq (a b:Int):Int:=a/b
def fr (a b:Int):Int:=a%b
noncomputable def divS:aG:=fun a=>match a with|[.int .i64 a,.int .i64 b]=>some (ai (ai (ak (-9223372036854775808) a) (ak a 9223372036854775807)) (ai (aU 0 b) (ak b 1000000)),.tup [.int .i64 (fq a b),.int .i64 (fr a b),.int .i64 0])|_=>none
noncomputable def vS:List (Nat×aG):=(204,divS)::[]
noncomputable def leapS:aG:=fun a=>match a with|[.int .i64 y]=>some (ai (ak (-9223372036854775808) y) (ak y 9223372036854775807),.bool (uJ y))|_=>none
noncomputable def vS1:List (Nat×aG):=(95,leapS)::vS
theorem Za (F:Nat) (y:Int) (K:V→Option V):
 bW vE (bT vE vS F 2) F 95 [V.int .i64 y] K=
 sel (ieq (jY .and .i64 y 3) 0) (sel (aK (ieq (y7 y 25) 0)) (K (V.bool true)) (K (V.bool (ieq (jY .and .i64 y 15) 0)))) (K (V.bool false)):=by kernel_rfl
theorem vLen_top (F:Nat) (y m:Int) (K:V→Option V):
 bW vE (bT vE vS1 F 2) F 73 [V.int .i64 y,V.int .i64 m] K=
 let B:=sel (ieq m 2) (sel (ai (ak (-9223372036854775808) y) (ak y 9223372036854775807)) (sel (uJ y) (K (V.int .i64 29)) (K (V.int .i64 28))) none) (K (V.int .i64 0));let C:=K (V.int .i64 31);let D:=K (V.int .i64 30);let A:=sel (ieq m 4) (sel (ieq m 4) D B) (sel (ieq m 6) (sel (ieq m 6) D B) (sel (ieq m 9) (sel (ieq m 9) D B) (sel (ieq m 11) D B)));sel (ieq m 1) (sel (ieq m 1) C A) (sel (ieq m 3) (sel (ieq m 3) C A) (sel (ieq m 5) (sel (ieq m 5) C A) (sel (ieq m 7) (sel (ieq m 7) C A) (sel (ieq m 8) (sel (ieq m 8) C A) (sel (ieq m 10) (sel (ieq m 10) C A) (sel (ieq m 12) C A)))))):=by kernel_rfl
open Go.RowKit Nt
theorem vE_ok:tY vE:=⟨by kernel_rfl,by kernel_rfl⟩
theorem fitsV {m:Int} (h:ai (ak (-9223372036854775808) m) (ak m 9223372036854775807)=true):Fits m:=by rw[aJ,ay,ay] at h;exact h
theorem bandV {m:Int} (h:Fits m):ai (ak (-9223372036854775808) m) (ak m 9223372036854775807)=true:=by rw[aJ,ay,ay];exact h
theorem divs_pos (a b:Int) (hb:0<b):LV a b=(a/b,a%b,0):=by
 have h1:=Int.mul_tdiv_add_tmod a b;have h2:=Int.mul_ediv_add_emod a b;have h3:=Int.emod_nonneg a (show b≠0 by omega);have h4:=Int.emod_lt_of_pos a hb;have h5:=M0 a b (by omega);rw[KZ a b (by omega) (by omega)];have key: ∀q r:Int,b*q+r=a→0≤r→r<b→q=a/b∧r=a%b:=fun q r e r0 r1=>by
  have e1:a/b=q:=by
   rw[←e,Int.add_comm,Int.add_mul_ediv_left _ _ (by omega),Int.ediv_eq_zero_of_lt r0 r1];omega
  refine⟨e1.symm,?_⟩;rw[e1] at h2;omega
 split
 ·rename_i hc
  obtain⟨k1,k2⟩:=key (a.tdiv b-1) (a.tmod b+b) (by rw[Int.mul_sub];omega) (by omega) (by omega);rw[k1,k2]
 ·rename_i hc
  obtain⟨k1,k2⟩:=key (a.tdiv b) (a.tmod b) h1 (by omega) (by omega);rw[k1,k2]
theorem Zb {a b:Int} (hc:ai (ai (ak (-9223372036854775808) a) (ak a 9223372036854775807)) (ai (aU 0 b) (ak b 1000000))=true):Fits a∧Fits b∧0<b:=by
 obtain⟨h1,h2⟩:=aR hc;rw[aJ,bf,ay] at h2;exact⟨fitsV h1,by unfold Fits;omega,h2.1⟩
theorem divS_ok (a b:Int) (hc:ai (ai (ak (-9223372036854775808) a) (ak a 9223372036854775807)) (ai (aU 0 b) (ak b 1000000))=true):af vE 204 [.int .i64 a,.int .i64 b] (.tup [.int .i64 (fq a b),.int .i64 (fr a b),.int .i64 0]):=by
 obtain⟨ha,hb,h0⟩:=Zb hc;refine bP fun G w vs hG hg hp=>?_
 obtain⟨x,y,rfl,hx,hy⟩:=jD hp;unfold aO at hx hy;subst hx;subst hy;refine(n_div a b w ha hb).mono ?_;rintro e w' ⟨rfl,hw⟩;rw[divs_pos a b h0];exact⟨_,rfl,Uc hw,Yo (pI _ _) (pI _ _) (pI _ _)⟩
theorem vS_ok:bn vE vS:=by
 unfold vS;refine bn.cons (fun args r h=>?_) bn.nil;all_goals (revert h;intro h;first|unfold divS at h)
 all_goals (split at h;rotate_left; · cases h)
 all_goals (simp only[Option.some.injEq,Prod.mk.injEq] at h;obtain⟨hc,rfl⟩:=h)
 ·exact divS_ok _ _ hc
theorem Wl (y:Int) (k:Nat) (hk:k≤8) (m:Int) (hm:m=((2 ^ k-1:Nat):Int)):jY .and .i64 y m=y%((2 ^ k:Nat):Int):=by
 subst hm;have hp:2 ^ k≤2 ^ 8:=Nat.pow_le_pow_right (by decide) hk;have h0:0<2 ^ k:=Nat.pow_pos (by decide);have e:((BitVec.ofInt IntKind.i64.bits y&&& BitVec.ofInt IntKind.i64.bits ((2 ^ k-1:Nat):Int)).toNat:Int)=y%((2 ^ k:Nat):Int):=by
  rw[BitVec.toNat_and];have h1:(BitVec.ofInt IntKind.i64.bits ((2 ^ k-1:Nat):Int)).toNat=2 ^ k-1:=by
   rw[BitVec.ofInt_natCast,BitVec.toNat_ofNat,Nat.mod_eq_of_lt];have:(2:Nat) ^ 8<2 ^ IntKind.i64.bits:=by decide
   omega
  rw[h1,Nat.and_two_pow_sub_one_eq_mod,BitVec.toNat_ofInt];have h64:((2 ^ IntKind.i64.bits:Nat):Int)=18446744073709551616:=by decide
  rw[h64];have hd:((2 ^ k:Nat):Int) ∣ 18446744073709551616:=by
   have:(2 ^ k:Nat) ∣ 2 ^ 64:=Nat.pow_dvd_pow 2 (by omega);exact Int.natCast_dvd_natCast.2 this
  have hz:0≤y%18446744073709551616:=by omega
  have e5: ∀a b:Nat,((a%b:Nat):Int)=(a:Int)%(b:Int):=fun _ _=>rfl
  rw[e5,Int.toNat_of_nonneg hz,Int.emod_emod_of_dvd _ hd]
 unfold jY;simp only;rw[e];have h2:=Int.emod_nonneg y (show((2 ^ k:Nat):Int)≠0 by omega);have h3:=Int.emod_lt_of_pos y (show(0:Int)<((2 ^ k:Nat):Int) by omega);exact IntWalk.i64_in _ (by omega)
theorem Zc (y k:Int) (hk:0<k):(y7 y k=0)=(y%k=0):=by
 unfold y7;refine propext ⟨fun h=>?_,fun h=>?_⟩
 ·exact Int.emod_eq_zero_of_dvd (Int.dvd_of_tmod_eq_zero h)
 ·exact Int.tmod_eq_zero_of_dvd (Int.dvd_of_emod_eq_zero h)
theorem vLeap_ev (y:Int):af vE 95 [.int .i64 y] (.bool (uJ y)):=by
 refine aj vE_ok vS_ok 5 2 ?_;rw[Za,Wl y 2 (by decide) 3 rfl,Wl y 4 (by decide) 15 rfl];have e1:((2 ^ 2:Nat):Int)=4:=rfl;have e2:((2 ^ 4:Nat):Int)=16:=rfl;rw[e1,e2];simp only[bV,aL,bZ,Zc y 25 (by decide)];unfold uJ;repeat' split
 all_goals first
  |(rw[decide_eq_true (by omega)];done)
  |(rw[decide_eq_false (by omega)];done)
  |(congr 2;unfold ieq;rw[Bool.eq_iff_iff];simp;omega)
theorem leapS_ok (y:Int) (hc:ai (ak (-9223372036854775808) y) (ak y 9223372036854775807)=true):af vE 95 [.int .i64 y] (.bool (uJ y)):=vLeap_ev y
theorem vS1_ok:bn vE vS1:=by
 unfold vS1;refine bn.cons (fun args r h=>?_) vS_ok;all_goals (revert h;intro h;first|unfold leapS at h)
 all_goals (split at h;rotate_left; · cases h)
 all_goals (simp only[Option.some.injEq,Prod.mk.injEq] at h;obtain⟨hc,rfl⟩:=h)
 ·exact leapS_ok _ hc
theorem st' (x y:Option V):sel true x y=x:=rfl
theorem sf' (x y:Option V):sel false x y=y:=rfl
theorem vLen_ev (y m:Int) (hy:Fits y):af vE 73 [.int .i64 y,.int .i64 m] (.int .i64 (xu y m)):=by
 refine aj vE_ok vS1_ok 5 2 ?_
 (rw[vLen_top];(conv=>zeta))
 have hf:=bandV hy;by_cases hm:1≤m∧m≤12
 ·have hc:m=1∨m=2∨m=3∨m=4∨m=5∨m=6∨m=7∨m=8∨m=9∨m=10∨m=11∨m=12:=by omega
  rcases hc with rfl|rfl|rfl|rfl|rfl|rfl|rfl|rfl|rfl|rfl|rfl|rfl;all_goals
   simp only[ieq,Int.reduceBEq,st',sf',hf];unfold xu
   cases uJ y<;>rfl
 ·have g: ∀k:Int,1≤k→k≤12→ieq m k=false:=fun k h1 h2=>bQ (by omega)
  have hl:xu y m=0:=by unfold xu;rw[if_neg (by omega),if_neg (by omega),if_neg (by omega)]
  simp only[g 1 (by decide) (by decide),g 2 (by decide) (by decide),g 3 (by decide) (by decide),g 4 (by decide) (by decide),g 5 (by decide) (by decide),g 6 (by decide) (by decide),g 7 (by decide) (by decide),g 8 (by decide) (by decide),g 9 (by decide) (by decide),g 10 (by decide) (by decide),g 11 (by decide) (by decide),g 12 (by decide) (by decide),st',sf',hl]
end Nt.Ev.YtplklcejbmfgdaaGreatDoor
