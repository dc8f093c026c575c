/-
  Year: equations of functions, as the evaluator prints them. Years: what the program's functions and the document's answer. YearLaw: equations of functions, as the evaluator prints them. Years: the statements YearTells and YearBack.
-/
import Derived.Test.YtpbgegnlkdfjgaaGreatDoorME
import Derived.Test.YtpbgegnlkdfjgaaGreatDoorMC
set_option linter.unusedVariables false
set_option linter.unusedSimpArgs false
set_option linter.unusedSectionVars false
namespace Nt.Ev.YtpbgegnlkdfjgaaGreatDoor
set_option maxRecDepth 100000
open Go Nt.Num Go.Proofs.YtpbgegnlkdfjgaaGreatDoor
noncomputable def yE:Env:=⟨Go.Proofs.Tryz.prog,fun _=>none⟩
noncomputable def R4:aL:=fun a=>match a with|[.str s]=>some (ak (ah s) 1000,.tup [.int .i64 (eU s),.int .i64 (nrW s)])|_=>none
noncomputable def R5:aL:=fun a=>match a with|[.str s,.sl e [.str] o ws]=>some (av (ak (ah s) 1000) (mV ws),.tup [.int .i64 (kH s ws),.int .i64 (mO s ws)])|_=>none
noncomputable def idxS:aL:=fun a=>match a with|[.str s,.int .u8 c]=>some (true,.int .i64 (wo s c))|_=>none
noncomputable def yS:List (Nat×aL):=(142,R4)::(85,R4)::(31,R5)::(22,R5)::(43,idxS)::[]
theorem WU (F:Nat) (s:List UInt8) (K:V→Option V):
 bD yE (bB yE yS F 4) F 113 [V.str s] K=
 let B:=[V.str [109,105,110,105,109,117,109],V.str [109,97,120,105,109,117,109],V.str [111,110,108,121]];let D:=V.int .i64 0;let H:=ak (ah s) 1000;let C:=sel (aB (ieq (nrW s) 0)) (K (V.tup [D,V.int .i64 (nrW s)])) (K (V.tup [V.int .i64 (eU s),D]));let E:=K (V.tup [D,V.int .i64 1]);let G:=K (V.tup [D,V.int .i64 3]);let A:=sel (av H (mV B)) (sel (aB (ieq (mO s B) 0)) G (sel (aB (ieq (kH s B) 0)) G (K (V.tup [V.int .i64 (-32767),D])))) (none);sel (seq s []) A (sel (av (ak 0 0) (aK 0 (ah s))) (sel (aK (wo [45,48,49,50,51,52,53,54,55,56,57] (sat s 0)) 0) A (sel H (sel (ieq (nrW s) 0) (sel (ak (-32767) (eU s)) (sel (aB (ak (eU s) 32767)) E C) E) C) none)) none):=by kernel_rfl
theorem WV (F:Nat) (s:List UInt8) (K:V→Option V):
 bD yE (bB yE yS F 4) F 61 [V.str s] K=
 let C:=[V.str [109,105,110,105,109,117,109],V.str [109,97,120,105,109,117,109],V.str [111,110,108,121]];let E:=V.int .i64 0;let G:=av (ak 0 0) (aK 0 (ah s));let J:=ak (ah s) 1000;let D:=sel (aB (ieq (nrW s) 0)) (K (V.tup [E,V.int .i64 (nrW s)])) (K (V.tup [V.int .i64 (eU s),E]));let H:=K (V.tup [E,V.int .i64 3]);let I:=K (V.tup [E,V.int .i64 1]);let A:=sel (av J (mV C)) (sel (aB (ieq (mO s C) 0)) H (sel (aB (ieq (kH s C) 0)) H (K (V.tup [V.int .i64 (-32767),E])))) (none);let B:=sel J (sel (ieq (nrW s) 0) (sel (ak (-32767) (eU s)) (sel (aB (ak (eU s) 32767)) I D) I) D) (none);sel (aB (seq s [])) (sel G (sel (ieq (sat s 0) 45) B (sel G (sel (ak 48 (sat s 0)) (sel G (sel (ak (sat s 0) 57) B A) none) A) none)) none) A:=by kernel_rfl
theorem yTo_top (F:Nat) (s:List UInt8) (n:Int) (K:V→Option V):
 bD yE (bB yE yS F 4) F 114 [V.str s,V.int .i64 n] K=
 let A:=[V.str [109,105,110,105,109,117,109],V.str [109,97,120,105,109,117,109],V.str [111,110,108,121]];let G:=V.int .i64 0;let P:=ieq (nrW s) 0;let Q:=ak (ah s) 1000;let E:=K (V.tup [G,V.int .i64 14]);let H:=V.int .i64 (mO s A);let I:=ieq (mO s A) 0;let J:=K (V.tup [G,V.int .i64 (nrW s)]);let M:=K (V.tup [G,V.int .i64 1]);let O:=K (V.tup [G,V.int .i64 3]);let C:=sel (aB P) (sel P (sel (aK 0 n) E J) J) (sel (aK (eU s) n) E (K (V.tup [V.int .i64 (eU s),G])));let L:=K (V.tup [V.int .i64 32767,H]);let N:=K (V.tup [V.int .i64 n,H]);let B:=sel I (sel (ieq (kH s A) 2) (sel I (sel (aK n n) E N) N) O) O;let D:=sel (av Q (mV A)) (sel I (sel (ieq (kH s A) 1) (sel I (sel (aK 32767 n) E L) L) B) B) (none);sel (seq s []) D (sel (av (ak 0 0) (aK 0 (ah s))) (sel (aK (wo [45,48,49,50,51,52,53,54,55,56,57] (sat s 0)) 0) D (sel Q (sel P (sel (ak (-32767) (eU s)) (sel (aB (ak (eU s) 32767)) M C) M) C) none)) none):=by kernel_rfl
theorem rTo_top (F:Nat) (s:List UInt8) (n:Int) (K:V→Option V):
 bD yE (bB yE yS F 4) F 62 [V.str s,V.int .i64 n] K=
 let B:=[V.str [109,105,110,105,109,117,109],V.str [109,97,120,105,109,117,109],V.str [111,110,108,121]];let D:=V.int .i64 0;let L:=av (ak 0 0) (aK 0 (ah s));let O:=ieq (nrW s) 0;let R:=ak (ah s) 1000;let E:=K (V.tup [D,V.int .i64 (mO s B)]);let H:=ieq (mO s B) 0;let I:=K (V.tup [D,V.int .i64 14]);let P:=K (V.tup [D,D]);let Q:=K (V.tup [D,V.int .i64 1]);let J:=sel (aB O) (K (V.tup [D,V.int .i64 (nrW s)])) P;let M:=sel (aB H) E (K (V.tup [V.int .i64 32767,D]));let N:=sel (aB H) E (K (V.tup [V.int .i64 n,D]));let S:=sel (aB H) E P;let A:=sel (av R (mV B)) (sel (ieq (kH s B) 0) (K (V.tup [D,V.int .i64 3])) (sel (ieq (kH s B) 1) (sel H (sel (aK 32767 n) I M) M) (sel (ieq (kH s B) 2) (sel H (sel (aK n n) I N) N) (sel H (sel (aK 0 n) I S) S)))) (none);let C:=sel (aB O) (sel O (sel (aK 0 n) I J) J) (sel (aK (eU s) n) I (K (V.tup [V.int .i64 (eU s),D])));let G:=sel R (sel O (sel (ak (-32767) (eU s)) (sel (aB (ak (eU s) 32767)) Q C) Q) C) (none);sel (aB (seq s [])) (sel L (sel (ieq (sat s 0) 45) G (sel L (sel (ak 48 (sat s 0)) (sel L (sel (ak (sat s 0) 57) G A) none) A) none)) none) A:=by kernel_rfl
open Nt
theorem Ut:vT yE:=⟨by kernel_rfl,by kernel_rfl⟩
theorem toY {f:Nat} {args:List V} {r:V} (h:af nE f args r):af yE f args r:=af.env (E:=nE) rfl (fun n v h=>by cases h) h
theorem Me {s:List UInt8} (h:ak (ah s) 1000=true):s.length≤1000:=by rw[aA,au] at h;omega
theorem WW (s:List UInt8) (hc:ak (ah s) 1000=true):af yE 142 [.str s] (.tup [.int .i64 (eU s),.int .i64 (nrW s)]):=toY (MH s (Me hc))
theorem o5 (s:List UInt8) (hc:ak (ah s) 1000=true):af yE 85 [.str s] (.tup [.int .i64 (eU s),.int .i64 (nrW s)]):=toY (MI s (Me hc))
theorem WX (s:List UInt8) (e:Nat) (o:Option Nat) (ws:List V) (hc:av (ak (ah s) 1000) (mV ws)=true):af yE 31 [.str s,.sl e [.str] o ws] (.tup [.int .i64 (kH s ws),.int .i64 (mO s ws)]):=by
 obtain⟨h1,h2⟩:=aV hc;exact toY (Ho s e o ws (Me h1) h2)
theorem oK (s:List UInt8) (e:Nat) (o:Option Nat) (ws:List V) (hc:av (ak (ah s) 1000) (mV ws)=true):af yE 22 [.str s,.sl e [.str] o ws] (.tup [.int .i64 (kH s ws),.int .i64 (mO s ws)]):=by
 obtain⟨h1,h2⟩:=aV hc;exact toY (Hq s e o ws (Me h1) h2)
theorem idxS_ok (s:List UInt8) (c:Int) (hc:true=true):af yE 43 [.str s,.int .u8 c] (.int .i64 (wo s c)):=toY (Zh s c)
theorem Uu:bF yE yS:=by
 unfold yS;refine bF.cons (fun args r h=>?_) (bF.cons (fun args r h=>?_) (bF.cons (fun args r h=>?_) (bF.cons (fun args r h=>?_) (bF.cons (fun args r h=>?_) bF.nil))));all_goals (revert h;intro h;first|unfold R4 at h|unfold R5 at h|unfold idxS at h)
 all_goals (split at h;rotate_left; · cases h)
 all_goals (simp only[Option.some.injEq,Prod.mk.injEq] at h;obtain⟨hc,rfl⟩:=h)
 ·exact WW _ hc
 ·exact o5 _ hc
 ·exact WX _ _ _ _ hc
 ·exact oK _ _ _ _ hc
 ·exact idxS_ok _ _ rfl
def LB (c:UInt8):Bool:=decide (c.toNat=45)||(decide (48≤c.toNat)&&decide (c.toNat≤57))
def numeral:List UInt8→Bool
 |[]=>false
 |c::_=>LB c
theorem FI (c:UInt8):aK (wo [45,48,49,50,51,52,53,54,55,56,57] ((c.toNat:Nat):Int)) 0= !LB c:=by
 have h: ∀n:Fin 256,aK (wo [45,48,49,50,51,52,53,54,55,56,57] ((n.val:Nat):Int)) 0= !LB (UInt8.ofNat n):=by decide+kernel
 have:=h ⟨c.toNat,c.toNat_lt⟩;simpa using this
def Cw:List V:=[V.str [109,105,110,105,109,117,109],V.str [109,97,120,105,109,117,109],V.str [111,110,108,121]]
def J7 (s:List UInt8):Int×Int:=if nrW s=0 then(if -32767≤eU s∧eU s≤32767 then(eU s,0) else(0,1)) else(0,nrW s)
def wX (s:List UInt8):Int×Int:=if numeral s=true then J7 s else if mO s Cw=0∧kH s Cw=0 then(-32767,0) else(0,3)
def Ai (s:List UInt8) (n:Int):Int×Int:=if numeral s=true then J7 s else if mO s Cw=0 then(if kH s Cw=1 then(32767,0) else if kH s Cw=2 then(n,0) else(0,3)) else(0,3)
def Oc (s:List UInt8) (n:Int):Int×Int:=if(Ai s n).2=0∧(Ai s n).1<n then(0,14) else Ai s n
def E5 (p:Int×Int):V:=.tup [.int .i64 p.1,.int .i64 p.2]
theorem yG (s:List UInt8) (ws:List V):mO s ws=0∨mO s ws=3:=by
 unfold mO;rcases Words.mt_err ⟨s.toArray⟩ (QW ws) with h|h<;>rw[h]
 ·exact .inl rfl
 ·exact .inr rfl
theorem CW (s:List UInt8) (ws:List V):0≤kH s ws∧(mO s ws=0→kH s ws<ws.length)∧(mO s ws≠0→kH s ws=0):=by
 unfold kH mO;refine⟨by omega,fun h=>?_,fun h=>?_⟩
 ·have:=(Words.mt_told ⟨s.toArray⟩ (QW ws) (Words.mt ⟨s.toArray⟩ (QW ws)).1 (by rw[show(Words.mt ⟨s.toArray⟩ (QW ws))=((Words.mt ⟨s.toArray⟩ (QW ws)).1,(Words.mt ⟨s.toArray⟩ (QW ws)).2) from rfl];congr 1;omega)).2.1
  unfold QW at this⊢;rw[List.length_map] at this;omega
 ·have:=Words.mt_not ⟨s.toArray⟩ (QW ws) (Words.mt ⟨s.toArray⟩ (QW ws)).1 (Words.mt ⟨s.toArray⟩ (QW ws)).2 rfl (by omega)
  omega
theorem Mf:mV Cw=true:=by decide
theorem yT (c:UInt8) (l:List UInt8):ah (c::l)=(l.length:Int)+1:=by unfold ah;simp
theorem BO (c:UInt8) (l:List UInt8):sat (c::l) 0=(c.toNat:Int):=rfl
theorem BP (c:UInt8) (l:List UInt8):seq (c::l) []=false:=by unfold seq;rfl
theorem abe (s:List UInt8) (hs:s.length≤1000):af yE 113 [.str s] (E5 (wX s)):=by
 refine ai Ut Uu 5 4 ?_
 (rw[WU];(conv=>zeta))
 rw[show[V.str [109,105,110,105,109,117,109],V.str [109,97,120,105,109,117,109],V.str [111,110,108,121]]=Cw from rfl,Mf]
 cases s with
 |nil=>
  have h2:ak (ah []) 1000=true:=rfl;have h3:seq [] []=true:=rfl;simp only[h2,h3,bI,aC,bE,aH,if_true,and_self];unfold wX numeral E5;simp only[Bool.false_eq_true,if_false];repeat' split
  all_goals first|rfl|(exfalso;simp_all;done)
 |cons c l=>
  have h1:aK 0 (ah (c::l))=true:=bq (by rw[yT];omega);have h2:ak (ah (c::l)) 1000=true:=bA (by rw[au];omega);simp only[h1,h2,BP,BO,FI];unfold wX numeral J7 E5;simp only[bI,aC,bE,aH,aA,if_true,and_self,Bool.false_eq_true,if_false];repeat' split
  all_goals first|rfl|(exfalso;simp_all;done)|(exfalso;omega)
set_option maxHeartbeats 2000000 in
theorem abf (s:List UInt8) (hs:s.length≤1000):af yE 61 [.str s] (E5 (wX s)):=by
 refine ai Ut Uu 5 4 ?_
 (rw[WV];(conv=>zeta))
 rw[show[V.str [109,105,110,105,109,117,109],V.str [109,97,120,105,109,117,109],V.str [111,110,108,121]]=Cw from rfl,Mf]
 cases s with
 |nil=>
  have h2:ak (ah []) 1000=true:=rfl;have h3:seq [] []=true:=rfl;have hw:=yG [] Cw;obtain⟨hb1,hb2,hb3⟩:=CW [] Cw;rw[show Cw.length=3 from rfl] at hb2;unfold wX numeral E5;simp only[h2,h3,bI,aC,bE,aH,aU,if_true,and_self,Bool.false_eq_true,if_false,not_true_eq_false];repeat' split
  all_goals first|rfl|(exfalso;omega)|(simp only[Option.some.injEq,V.tup.injEq,List.cons.injEq,V.int.injEq,true_and,and_true];omega)|(exfalso;simp_all;done)|(simp_all;done)
 |cons c l=>
  have h1:aK 0 (ah (c::l))=true:=bq (by rw[yT];omega);have h2:ak (ah (c::l)) 1000=true:=bA (by rw[au];omega);have h4:ieq (c.toNat:Int) 45=decide (c.toNat=45):=by unfold ieq;rw[Bool.eq_iff_iff];simp;omega
  have h5:ak 48 (c.toNat:Int)=decide (48≤c.toNat):=by unfold ak;rw[Bool.eq_iff_iff];simp;omega
  have h6:ak (c.toNat:Int) 57=decide (c.toNat≤57):=by unfold ak;rw[Bool.eq_iff_iff];simp;omega
  have hw:=yG (c::l) Cw;obtain⟨hb1,hb2,hb3⟩:=CW (c::l) Cw;rw[show Cw.length=3 from rfl] at hb2;simp only[h1,h2,BP,BO,FI,h4,h5,h6];unfold wX E5;rw[show numeral (c::l)=LB c from rfl,show LB c=(decide (c.toNat=45)||(decide (48≤c.toNat)&&decide (c.toNat≤57))) from rfl];clear h4 h5 h6 h1 h2;generalize decide (c.toNat=45)=q1;generalize decide (48≤c.toNat)=q2;generalize decide (c.toNat≤57)=q3
  cases q1<;>cases q2<;>cases q3<;>simp only[bI,aC,bE,aH,aA,aU,if_true,and_self,Bool.false_eq_true,if_false,not_true_eq_false,not_false_eq_true,Bool.or_false,Bool.or_true,Bool.false_or,Bool.true_or,Bool.and_false,Bool.and_true,Bool.and_self,Bool.or_self]
  all_goals (try unfold J7)
  all_goals (repeat' split)
  all_goals first|rfl|(exfalso;omega)|(simp only[Option.some.injEq,V.tup.injEq,List.cons.injEq,V.int.injEq,true_and,and_true];omega)|(exfalso;simp_all;done)|(simp_all;done)
set_option maxHeartbeats 2000000 in
theorem yTo_ev (s:List UInt8) (n:Int) (hs:s.length≤1000):af yE 114 [.str s,.int .i64 n] (E5 (Oc s n)):=by
 refine ai Ut Uu 5 4 ?_
 (rw[yTo_top];(conv=>zeta))
 rw[show[V.str [109,105,110,105,109,117,109],V.str [109,97,120,105,109,117,109],V.str [111,110,108,121]]=Cw from rfl,Mf]
 cases s with
 |nil=>
  have h2:ak (ah []) 1000=true:=rfl;have h3:seq [] []=true:=rfl;have hw:=yG [] Cw;obtain⟨hb1,hb2,hb3⟩:=CW [] Cw;rw[show Cw.length=3 from rfl] at hb2;unfold Oc Ai numeral E5;simp only[h2,h3,bI,aC,bE,aH,aU,if_true,and_self,Bool.false_eq_true,if_false,not_true_eq_false];repeat' split
  all_goals first|rfl|(exfalso;omega)|(simp only[Option.some.injEq,V.tup.injEq,List.cons.injEq,V.int.injEq,true_and,and_true];omega)|(exfalso;simp_all;done)|(simp_all;done)
 |cons c l=>
  have h1:aK 0 (ah (c::l))=true:=bq (by rw[yT];omega);have h2:ak (ah (c::l)) 1000=true:=bA (by rw[au];omega);have h4:ieq (c.toNat:Int) 45=decide (c.toNat=45):=by unfold ieq;rw[Bool.eq_iff_iff];simp;omega
  have h5:ak 48 (c.toNat:Int)=decide (48≤c.toNat):=by unfold ak;rw[Bool.eq_iff_iff];simp;omega
  have h6:ak (c.toNat:Int) 57=decide (c.toNat≤57):=by unfold ak;rw[Bool.eq_iff_iff];simp;omega
  have hw:=yG (c::l) Cw;obtain⟨hb1,hb2,hb3⟩:=CW (c::l) Cw;rw[show Cw.length=3 from rfl] at hb2;simp only[h1,h2,BP,BO,FI,h4,h5,h6];unfold Oc Ai E5;rw[show numeral (c::l)=LB c from rfl];clear h4 h5 h6 h1 h2;generalize LB c=q
  cases q<;>simp only[Bool.not_true,Bool.not_false,bI,aC,bE,aH,aA,aU,if_true,and_self,Bool.false_eq_true,if_false,not_true_eq_false,not_false_eq_true,Bool.or_false,Bool.or_true,Bool.false_or,Bool.true_or,Bool.and_false,Bool.and_true,Bool.and_self,Bool.or_self]
  all_goals (try unfold J7)
  all_goals (repeat' split)
  all_goals first|rfl|(exfalso;omega)|(simp only[Option.some.injEq,V.tup.injEq,List.cons.injEq,V.int.injEq,true_and,and_true];omega)|(exfalso;simp_all;done)|(simp_all;done)
set_option maxHeartbeats 2000000 in
theorem rTo_ev (s:List UInt8) (n:Int) (hs:s.length≤1000):af yE 62 [.str s,.int .i64 n] (E5 (Oc s n)):=by
 refine ai Ut Uu 5 4 ?_
 (rw[rTo_top];(conv=>zeta))
 rw[show[V.str [109,105,110,105,109,117,109],V.str [109,97,120,105,109,117,109],V.str [111,110,108,121]]=Cw from rfl,Mf]
 cases s with
 |nil=>
  have h2:ak (ah []) 1000=true:=rfl;have h3:seq [] []=true:=rfl;have hw:=yG [] Cw;obtain⟨hb1,hb2,hb3⟩:=CW [] Cw;rw[show Cw.length=3 from rfl] at hb2;unfold Oc Ai numeral E5;simp only[h2,h3,bI,aC,bE,aH,aU,if_true,and_self,Bool.false_eq_true,if_false,not_true_eq_false];repeat' split
  all_goals first|rfl|(exfalso;omega)|(simp only[Option.some.injEq,V.tup.injEq,List.cons.injEq,V.int.injEq,true_and,and_true];omega)|(exfalso;simp_all;done)|(simp_all;done)
 |cons c l=>
  have h1:aK 0 (ah (c::l))=true:=bq (by rw[yT];omega);have h2:ak (ah (c::l)) 1000=true:=bA (by rw[au];omega);have h4:ieq (c.toNat:Int) 45=decide (c.toNat=45):=by unfold ieq;rw[Bool.eq_iff_iff];simp;omega
  have h5:ak 48 (c.toNat:Int)=decide (48≤c.toNat):=by unfold ak;rw[Bool.eq_iff_iff];simp;omega
  have h6:ak (c.toNat:Int) 57=decide (c.toNat≤57):=by unfold ak;rw[Bool.eq_iff_iff];simp;omega
  have hw:=yG (c::l) Cw;obtain⟨hb1,hb2,hb3⟩:=CW (c::l) Cw;rw[show Cw.length=3 from rfl] at hb2;simp only[h1,h2,BP,BO,FI,h4,h5,h6];unfold Oc Ai E5;rw[show numeral (c::l)=LB c from rfl,show LB c=(decide (c.toNat=45)||(decide (48≤c.toNat)&&decide (c.toNat≤57))) from rfl];clear h4 h5 h6 h1 h2;generalize decide (c.toNat=45)=q1;generalize decide (48≤c.toNat)=q2;generalize decide (c.toNat≤57)=q3
  cases q1<;>cases q2<;>cases q3<;>simp only[bI,aC,bE,aH,aA,aU,if_true,and_self,Bool.false_eq_true,if_false,not_true_eq_false,not_false_eq_true,Bool.or_false,Bool.or_true,Bool.false_or,Bool.true_or,Bool.and_false,Bool.and_true,Bool.and_self,Bool.or_self]
  all_goals (try unfold J7)
  all_goals (repeat' split)
  all_goals first|rfl|(exfalso;omega)|(simp only[Option.some.injEq,V.tup.injEq,List.cons.injEq,V.int.injEq,true_and,and_true];omega)|(exfalso;simp_all;done)|(simp_all;done)
end Nt.Ev.YtpbgegnlkdfjgaaGreatDoor
