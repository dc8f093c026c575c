/-
  The plain law of the calendar: days, years, months. Civil: equations of functions, as the evaluator prints them. Days of the calendar: what the program's functions and the document's answer.
-/
import Derived.Test.YtpbgegnlkdfjgaaGreatDoorME
set_option linter.unusedVariables false
set_option linter.unusedSimpArgs false
set_option linter.unusedSectionVars false
namespace Nt.Civil
def um (y:Int):Bool:=decide (y%4=0∧(y%100≠0∨y%400=0))
def pu (y m:Int):Int:=if m=2 then(if um y=true then 29 else 28) else if m=4∨m=6∨m=9∨m=11 then 30 else if 1≤m∧m≤12 then 31 else 0
def valid (y m d:Int):Prop:=1≤d∧d≤pu y m
end Nt.Civil
namespace Nt.Ev.YtpbgegnlkdfjgaaGreatDoor
set_option maxRecDepth 100000
open Go Nt.Num Go.Proofs.YtpbgegnlkdfjgaaGreatDoor
open Nt.Civil
noncomputable def vE:Env:=⟨Go.Proofs.Tryz.prog,fun _=>none⟩
def fr (a b:Int):Int:=a%b
noncomputable def vS:List (Nat×aL):=[]
noncomputable def Zm:aL:=fun a=>match a with|[.int .i64 y]=>some (av (ak (-9223372036854775808) y) (ak y 9223372036854775807),.bool (um y))|_=>none
noncomputable def vS1:List (Nat×aL):=(174,Zm)::(159,Zm)::vS
theorem Xx (F:Nat) (y:Int) (K:V→Option V):
 bD vE (bB vE vS F 2) F 174 [V.int .i64 y] K=
 sel (ieq (jW .and .i64 y 3) 0) (sel (aB (ieq (NY y 25) 0)) (K (V.bool true)) (K (V.bool (ieq (jW .and .i64 y 15) 0)))) (K (V.bool false)):=by kernel_rfl
theorem Xy (F:Nat) (y:Int) (K:V→Option V):
 bD vE (bB vE vS F 2) F 159 [V.int .i64 y] K=
 let A:=K (V.bool (ieq (NY y 400) 0));sel (ieq (NY y 4) 0) (sel (aB (ieq (NY y 100) 0)) (K (V.bool true)) A) A:=by kernel_rfl
theorem abK (F:Nat) (y m:Int) (K:V→Option V):
 bD vE (bB vE vS1 F 2) F 154 [V.int .i64 y,V.int .i64 m] K=
 let B:=sel (ieq m 2) (sel (av (ak (-9223372036854775808) y) (ak y 9223372036854775807)) (sel (um y) (K (V.int .i64 29)) (K (V.int .i64 28))) none) (K (V.int .i64 0));let C:=K (V.int .i64 31);let D:=K (V.int .i64 30);let A:=sel (ieq m 4) (sel (ieq m 4) D B) (sel (ieq m 6) (sel (ieq m 6) D B) (sel (ieq m 9) (sel (ieq m 9) D B) (sel (ieq m 11) D B)));sel (ieq m 1) (sel (ieq m 1) C A) (sel (ieq m 3) (sel (ieq m 3) C A) (sel (ieq m 5) (sel (ieq m 5) C A) (sel (ieq m 7) (sel (ieq m 7) C A) (sel (ieq m 8) (sel (ieq m 8) C A) (sel (ieq m 10) (sel (ieq m 10) C A) (sel (ieq m 12) C A)))))):=by kernel_rfl
theorem abL (F:Nat) (y m:Int) (K:V→Option V):
 bD vE (bB vE vS1 F 2) F 130 [V.int .i64 y,V.int .i64 m] K=
 let C:=V.int .i64 31;let D:=V.int .i64 30;let E:=nP .i64 m 1;let G:=K (V.int .i64 0);let A:=[C,V.int .i64 28,C,D,C,D,C,C,D,C,D,C];let B:=sel (av (ak 0 E) (aK E (ax A))) (K (V.int .i64 (asInt (aD (aY A E) 0)))) (none);sel (aK m 1) G (sel (aK 12 m) G (sel (ieq m 2) (sel (av (ak (-9223372036854775808) y) (ak y 9223372036854775807)) (sel (um y) (K (V.int .i64 29)) B) none) B)):=by kernel_rfl
open Go.RowKit Nt
theorem Ux:vT vE:=⟨by kernel_rfl,by kernel_rfl⟩
theorem bandV {m:Int} (h:Fits m):av (ak (-9223372036854775808) m) (ak m 9223372036854775807)=true:=by rw[aC,aA,aA];exact h
theorem Zn:bF vE vS:=by
 unfold vS;refine bF.nil
theorem Va (y:Int) (k:Nat) (hk:k≤8) (m:Int) (hm:m=((2 ^ k-1:Nat):Int)):jW .and .i64 y m=y%((2 ^ k:Nat):Int):=by
 subst hm;have hp:2 ^ k≤2 ^ 8:=Nat.pow_le_pow_right (by decide) hk;have h0:0<2 ^ k:=Nat.pow_pos (by decide);have e:((BitVec.ofInt IntKind.i64.bits y&&& BitVec.ofInt IntKind.i64.bits ((2 ^ k-1:Nat):Int)).toNat:Int)=y%((2 ^ k:Nat):Int):=by
  rw[BitVec.toNat_and];have h1:(BitVec.ofInt IntKind.i64.bits ((2 ^ k-1:Nat):Int)).toNat=2 ^ k-1:=by
   rw[BitVec.ofInt_natCast,BitVec.toNat_ofNat,Nat.mod_eq_of_lt];have:(2:Nat) ^ 8<2 ^ IntKind.i64.bits:=by decide
   omega
  rw[h1,Nat.and_two_pow_sub_one_eq_mod,BitVec.toNat_ofInt];have h64:((2 ^ IntKind.i64.bits:Nat):Int)=18446744073709551616:=by decide
  rw[h64];have hd:((2 ^ k:Nat):Int) ∣ 18446744073709551616:=by
   have:(2 ^ k:Nat) ∣ 2 ^ 64:=Nat.pow_dvd_pow 2 (by omega);exact Int.natCast_dvd_natCast.2 this
  have hz:0≤y%18446744073709551616:=by omega
  have e5: ∀a b:Nat,((a%b:Nat):Int)=(a:Int)%(b:Int):=fun _ _=>rfl
  rw[e5,Int.toNat_of_nonneg hz,Int.emod_emod_of_dvd _ hd]
 unfold jW;simp only;rw[e];have h2:=Int.emod_nonneg y (show((2 ^ k:Nat):Int)≠0 by omega);have h3:=Int.emod_lt_of_pos y (show(0:Int)<((2 ^ k:Nat):Int) by omega);exact IntWalk.i64_in _ (by omega)
theorem yX (y k:Int) (hk:0<k):(NY y k=0)=(y%k=0):=by
 unfold NY;refine propext ⟨fun h=>?_,fun h=>?_⟩
 ·exact Int.emod_eq_zero_of_dvd (Int.dvd_of_tmod_eq_zero h)
 ·exact Int.tmod_eq_zero_of_dvd (Int.dvd_of_emod_eq_zero h)
theorem abM (y:Int):af vE 174 [.int .i64 y] (.bool (um y)):=by
 refine ai Ux Zn 5 2 ?_;rw[Xx,Va y 2 (by decide) 3 rfl,Va y 4 (by decide) 15 rfl];have e1:((2 ^ 2:Nat):Int)=4:=rfl;have e2:((2 ^ 4:Nat):Int)=16:=rfl;rw[e1,e2];simp only[bI,aH,bE,yX y 25 (by decide)];unfold um;repeat' split
 all_goals first
  |(rw[decide_eq_true (by omega)];done)
  |(rw[decide_eq_false (by omega)];done)
  |(congr 2;unfold ieq;rw[Bool.eq_iff_iff];simp;omega)
theorem abN (y:Int):af vE 159 [.int .i64 y] (.bool (um y)):=by
 refine ai Ux Zn 5 2 ?_
 (rw[Xy];(conv=>zeta))
 have e4:ieq (NY y 400) 0=decide (y%400=0):=by
  rw[Bool.eq_iff_iff,aH,yX y 400 (by decide),decide_eq_true_eq]
 rw[e4];simp only[bI,aH,bE,yX y 4 (by decide),yX y 100 (by decide)];unfold um;repeat' split
 all_goals first
  |(rw[decide_eq_true (by omega)];done)
  |(rw[decide_eq_false (by omega)];done)
  |(congr 2;rw[Bool.eq_iff_iff];simp;omega)
theorem abO (y:Int) (hc:av (ak (-9223372036854775808) y) (ak y 9223372036854775807)=true):af vE 174 [.int .i64 y] (.bool (um y)):=abM y
theorem qa (y:Int) (hc:av (ak (-9223372036854775808) y) (ak y 9223372036854775807)=true):af vE 159 [.int .i64 y] (.bool (um y)):=abN y
theorem aab:bF vE vS1:=by
 unfold vS1;refine bF.cons (fun args r h=>?_) (bF.cons (fun args r h=>?_) Zn);all_goals (revert h;intro h;first|unfold Zm at h)
 all_goals (split at h;rotate_left; · cases h)
 all_goals (simp only[Option.some.injEq,Prod.mk.injEq] at h;obtain⟨hc,rfl⟩:=h)
 ·exact abO _ hc
 ·exact qa _ hc
theorem st' (x y:Option V):sel true x y=x:=rfl
theorem sf' (x y:Option V):sel false x y=y:=rfl
theorem vLen_ev (y m:Int) (hy:Fits y):af vE 154 [.int .i64 y,.int .i64 m] (.int .i64 (pu y m)):=by
 refine ai Ux aab 5 2 ?_
 (rw[abK];(conv=>zeta))
 have hf:=bandV hy;by_cases hm:1≤m∧m≤12
 ·have hc:m=1∨m=2∨m=3∨m=4∨m=5∨m=6∨m=7∨m=8∨m=9∨m=10∨m=11∨m=12:=by omega
  rcases hc with rfl|rfl|rfl|rfl|rfl|rfl|rfl|rfl|rfl|rfl|rfl|rfl;all_goals
   simp only[ieq,Int.reduceBEq,st',sf',hf];unfold pu
   cases um y<;>rfl
 ·have g: ∀k:Int,1≤k→k≤12→ieq m k=false:=fun k h1 h2=>bf (by omega)
  have hl:pu y m=0:=by unfold pu;rw[if_neg (by omega),if_neg (by omega),if_neg (by omega)]
  simp only[g 1 (by decide) (by decide),g 2 (by decide) (by decide),g 3 (by decide) (by decide),g 4 (by decide) (by decide),g 5 (by decide) (by decide),g 6 (by decide) (by decide),g 7 (by decide) (by decide),g 8 (by decide) (by decide),g 9 (by decide) (by decide),g 10 (by decide) (by decide),g 11 (by decide) (by decide),g 12 (by decide) (by decide),st',sf',hl]
theorem rLen_ev (y m:Int) (hy:Fits y):af vE 130 [.int .i64 y,.int .i64 m] (.int .i64 (pu y m)):=by
 refine ai Ux aab 5 2 ?_
 (rw[abL];(conv=>zeta))
 have hf:=bandV hy;by_cases h1:m<1
 ·have hl:pu y m=0:=by unfold pu;rw[if_neg (by omega),if_neg (by omega),if_neg (by omega)]
  rw[aj (bq h1),hl]
 by_cases h2:12<m
 ·have hl:pu y m=0:=by unfold pu;rw[if_neg (by omega),if_neg (by omega),if_neg (by omega)]
  rw[aG (bu (by omega)),aj (bq h2),hl]
 rw[aG (bu (by omega)),aG (bu (by omega)),hf];have hc:m=1∨m=2∨m=3∨m=4∨m=5∨m=6∨m=7∨m=8∨m=9∨m=10∨m=11∨m=12:=by omega
 rcases hc with rfl|rfl|rfl|rfl|rfl|rfl|rfl|rfl|rfl|rfl|rfl|rfl<;>unfold pu<;>cases um y<;>rfl
end Nt.Ev.YtpbgegnlkdfjgaaGreatDoor
