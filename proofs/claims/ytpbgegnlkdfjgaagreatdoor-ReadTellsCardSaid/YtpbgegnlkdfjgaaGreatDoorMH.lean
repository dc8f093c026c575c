/-
  Clock: equations of functions, as the evaluator prints them. Times of day: what the program's functions and the document's answer. ClockLaw: equations of functions, as the evaluator prints them. Times of day: the statements ClockTells and ClockBack.
-/
import Derived.Test.YtpbgegnlkdfjgaaGreatDoorMF
import Derived.Test.YtpbgegnlkdfjgaaGreatDoorME
import Derived.Shelf.Strings.SlTrimAscii
set_option linter.unusedVariables false
set_option linter.unusedSimpArgs false
set_option linter.unusedSectionVars false
namespace Nt.Ev.YtpbgegnlkdfjgaaGreatDoor
set_option maxRecDepth 100000
open Go Nt.Num Go.Proofs.YtpbgegnlkdfjgaaGreatDoor
variable [uT]
def Q0 (s:List UInt8):Int:=(aJ.read s).1
def zU (s:List UInt8):Int:=(aJ.read s).2
def nL (l:List UInt8):Bool:=l.all fun c=>decide (c.toNat<128)
def wY (s c:List UInt8):List UInt8:=Lib.trimRightS s c
noncomputable def R7:aL:=fun a=>match a with|[.str s]=>some (ak (ah s) 1000,.tup [.int .i64 (Q0 s),.int .i64 (zU s)])|_=>none
noncomputable def Z0:aL:=fun a=>match a with|[.str s,.str c]=>some (av (ak (ah s) 1000) (av (ak (ah c) 1000) (nL c)),.str (wY s c))|_=>none
noncomputable def cS:List (Nat×aL):=(104,R7)::(56,R7)::(175,Z0)::[]
def uU (x:Int):Int:=if x=119∨x=87 then 0 else if x=115∨x=83 then 1 else if x=117∨x=85∨x=103∨x=71∨x=122∨x=90 then 2 else 3
def bsP (s:List UInt8):List UInt8×Int:=match s.getLast? with|none=>(s,0)|some c=>if uU (c.toNat:Int)=3 then(s,0) else(s.dropLast,uU (c.toNat:Int))
def JJ (s:List UInt8):List UInt8:=(bsP s).1
def NV (s:List UInt8):Int:=(bsP s).2
noncomputable def Z4:aL:=fun a=>match a with|[.str s]=>some (ak (ah s) 1000,.tup [.str (JJ s),.int .i64 (NV s)])|_=>none
noncomputable def cS2:List (Nat×aL):=(155,Z4)::cS
noncomputable def Ht (F:Nat) (ns:List Nat) (n:Nat) (x0 x2:List UInt8) (x3:Int) (Ru Rv Rw:List UInt8) (x8:Int) (K:V→Option V):Option V:=
 dN aE cS F 2 155 [1,0,1,0] ns K n (iY 28 [(0,V.str x0),(2,V.str x2),(3,V.int .i64 x3),(7,V.agg [V.str Ru,V.str Rv,V.str Rw]),(8,V.int .i64 x8)] [])
theorem Xg (F:Nat) (s:List UInt8) (K:V→Option V):
 bD aE (bB aE cS F 2) F 155 [V.str s] K=
 Ht F [] F s [] 0 [119,87] [115,83] [117,85,103,71,122,90] 0 K:=by kernel_rfl
theorem nO (F n:Nat) (x0 x2:List UInt8) (x3:Int) (Ru Rv Rw:List UInt8) (x8:Int) (K:V→Option V):
 Ht F [] (n+1) x0 x2 x3 Ru Rv Rw x8 K=
 let B:=Ht F [] n x0 x2 x3 Ru Rv Rw (bP .i64 x8 1) K;let C:=nP .i64 (ah x0) 1;let D:=ak (ah x0) 1000;let A:=sel (av (ak 0 C) (ak C (ah x0))) (K (V.tup [V.str (bU x0 0 C),V.int .i64 x8])) (none);sel (aK x8 3) (sel (ieq x8 0) (sel (av D (av (ak (ah Ru) 1000) (nL Ru))) (sel (aK (ah (wY x0 Ru)) (ah x0)) A B) none) (sel (ieq x8 1) (sel (av D (av (ak (ah Rv) 1000) (nL Rv))) (sel (aK (ah (wY x0 Rv)) (ah x0)) A B) none) (sel (ieq x8 2) (sel (av D (av (ak (ah Rw) 1000) (nL Rw))) (sel (aK (ah (wY x0 Rw)) (ah x0)) A B) none) none))) (K (V.tup [V.str x0,V.int .i64 0])):=by kernel_rfl
theorem QJ (F:Nat) (s:List UInt8) (K:V→Option V):
 bD aE (bB aE cS F 3) F 65 [V.str s] K=
 let E:=nP .i64 (ah s) 1;let M:=V.int .i64 0;let G:=V.agg [M,M];let I:=bU s 0 E;let Y:=ieq (sat s E) 119;let Z:=ieq (sat s E) 117;let J:=K (V.tup [G,V.int .i64 1]);let L:=K (V.tup [G,V.int .i64 (zU I)]);let N:=ieq (zU I) 0;let O:=sel (aB (ieq (zU s) 0)) (K (V.tup [G,V.int .i64 (zU s)])) (K (V.tup [V.agg [V.int .i64 (Q0 s),M],M]));let P:=V.int .i64 (Q0 I);let U:=aK 172800 (Q0 I);let W:=ak (ah I) 1000;let X:=aK (Q0 I) 0;let C:=sel (ak (ah s) 1000) (sel (ieq (zU s) 0) (sel (aK (Q0 s) 0) J (sel (aK 172800 (Q0 s)) J O)) O) (none);let R:=sel (aB N) L (K (V.tup [V.agg [P,V.int .i64 2],M]));let S:=sel (aB N) L (K (V.tup [V.agg [P,V.int .i64 1],M]));let T:=sel (aB N) L (K (V.tup [V.agg [P,M],M]));let B:=sel W (sel N (sel X J (sel U J R)) R) (none);let D:=sel W (sel N (sel X J (sel U J S)) S) (none);let H:=sel W (sel N (sel X J (sel U J T)) T) (none);let A:=sel Z (sel Z B C) (sel (ieq (sat s E) 85) (sel (ieq (sat s E) 85) B C) (sel (ieq (sat s E) 103) (sel (ieq (sat s E) 103) B C) (sel (ieq (sat s E) 71) (sel (ieq (sat s E) 71) B C) (sel (ieq (sat s E) 122) (sel (ieq (sat s E) 122) B C) (sel (ieq (sat s E) 90) B C)))));let Q:=sel (ieq (sat s E) 115) (sel (ieq (sat s E) 115) D A) (sel (ieq (sat s E) 83) D A);sel (aK 0 (ah s)) (sel (av (ak 0 E) (aK E (ah s))) (sel (av (ak 0 E) (ak E (ah s))) (sel Y (sel Y H Q) (sel (ieq (sat s E) 87) H Q)) none) none) C:=by kernel_rfl
theorem TH (F:Nat) (n b:Int) (K:V→Option V):
 bD aE (bB aE cS F 2) F 156 [V.agg [V.int .i64 n,V.int .i64 b]] K=
 let B:=K (V.bool false);let A:=sel (ak 0 n) (K (V.bool (ak n 172800))) B;sel (ieq b 0) (sel (ieq b 0) A B) (sel (ieq b 1) (sel (ieq b 1) A B) (sel (ieq b 2) A B)):=by kernel_rfl
theorem Xh (F:Nat) (s:List UInt8) (K:V→Option V):
 bD aE (bB aE cS2 F 3) F 120 [V.str s] K=
 let C:=V.int .i64 0;let D:=Q0 (JJ s);let B:=K (V.tup [V.agg [C,C],V.int .i64 1]);let A:=sel (ak 0 D) (sel (aB (ak D 172800)) B (K (V.tup [V.agg [V.int .i64 D,V.int .i64 (NV s)],C]))) B;sel (ak (ah s) 1000) (sel (ak (ah (JJ s)) 1000) (sel (aB (ieq (zU (JJ s)) 0)) (K (V.tup [V.agg [C,C],V.int .i64 (zU (JJ s))])) (sel (ieq (NV s) 0) (sel (ieq (NV s) 0) A B) (sel (ieq (NV s) 1) (sel (ieq (NV s) 1) A B) (sel (ieq (NV s) 2) A B)))) none) none:=by kernel_rfl
open Nt
theorem toAk {f:Nat} {args:List V} {r:V} (h:af nE f args r):af aE f args r:=af.env (E:=nE) rfl (fun n v h=>by cases h) h
theorem YS {s:List UInt8} (h:ak (ah s) 1000=true):s.length≤1000:=by rw[aA,au] at h;omega
open Go.Lib in
theorem trimR_c (s c:List UInt8) (hs:s.length≤1000) (hc:c.length≤1000) (ha:nL c=true):af nE 175 [.str s,.str c] (.str (wY s c)):=by
 refine bJ fun G w vs hG hg hp=>?_
 obtain⟨x,y,rfl,hx,hy⟩:=jo hp;unfold aP at hx hy;subst hx;subst hy;have hasc: ∀(j:Nat) b,(⟨c.toArray⟩:ByteArray).data.toList[j]? =some b→b.toNat<128:=fun j b hb=>by
  unfold nL at ha;rw[List.all_eq_true] at ha;have:=ha b (List.mem_of_getElem? hb);simpa using this
 refine(Go.Proofs.Any.strings_TrimRight_laid Go.Proofs.Tryz.lays162 (by kernel_rfl) ⟨s.toArray⟩ ⟨c.toArray⟩ w (by rw[yF];omega) (by rw[yF];omega) hasc).mono ?_;rintro e w' ⟨rfl,hb⟩;exact⟨_,rfl,hb,MF _⟩
theorem Xi (s:List UInt8) (hc:ak (ah s) 1000=true):af aE 104 [.str s] (.tup [.int .i64 (Q0 s),.int .i64 (zU s)]):=Pj s (YS hc)
theorem o6 (s:List UInt8) (hc:ak (ah s) 1000=true):af aE 56 [.str s] (.tup [.int .i64 (Q0 s),.int .i64 (zU s)]):=Pk s (YS hc)
theorem Xj (s c:List UInt8) (hc:av (ak (ah s) 1000) (av (ak (ah c) 1000) (nL c))=true):af aE 175 [.str s,.str c] (.str (wY s c)):=by
 obtain⟨h1,h2⟩:=aV hc;obtain⟨h2,h3⟩:=aV h2;exact toAk (trimR_c s c (YS h1) (YS h2) h3)
theorem Uw:bF aE cS:=by
 unfold cS;refine bF.cons (fun args r h=>?_) (bF.cons (fun args r h=>?_) (bF.cons (fun args r h=>?_) bF.nil));all_goals (revert h;intro h;first|unfold R7 at h|unfold Z0 at h)
 all_goals (split at h;rotate_left; · cases h)
 all_goals (simp only[Option.some.injEq,Prod.mk.injEq] at h;obtain⟨hc,rfl⟩:=h)
 ·exact Xi _ hc
 ·exact o6 _ hc
 ·exact Xj _ _ hc
theorem Dx (l:List UInt8) (c:UInt8) (cs:List UInt8):aK (ah (wY (l++[c]) cs)) (ah (l++[c]))=cs.contains c:=by
 unfold wY Lib.trimRightS;rw[List.reverse_append,List.reverse_singleton,List.singleton_append,List.dropWhile_cons]
 cases hc:cs.contains c with
 |true=>
  rw[if_pos rfl];refine bq ?_;rw[au,au,List.length_reverse,List.length_append];have:=(List.dropWhile_suffix (l:=l.reverse) fun x=>cs.contains x).sublist.length_le;rw[List.length_reverse] at this;simp only[List.length_singleton];omega
 |false=>
  rw[if_neg (by decide)];refine bu ?_;simp[ah]
theorem Hu (l:List UInt8) (c:UInt8) (h:(l++[c]).length≤1000):nP .i64 (ah (l++[c])) 1=(l.length:Int):=by
 rw[au] at*;rw[wV (by omega)];simp
theorem K9 (l:List UInt8) (c:UInt8):bU (l++[c]) 0 (l.length:Int)=l:=by
 unfold bU;simp
theorem abw (l:List UInt8) (c:UInt8):sat (l++[c]) (l.length:Int)=(c.toNat:Int):=by
 unfold sat;simp
theorem yU (l:List UInt8) (c:UInt8):ah (l++[c])=(l.length:Int)+1:=by unfold ah;simp
theorem Hw (l:List UInt8) (c:UInt8):bsP (l++[c])=if uU (c.toNat:Int)=3 then(l++[c],0) else(l,uU (c.toNat:Int)):=by
 unfold bsP;simp
theorem abx (c:UInt8):([119,87]:List UInt8).contains c=decide (uU (c.toNat:Int)=0)∧([115,83]:List UInt8).contains c=decide (uU (c.toNat:Int)=1)∧([117,85,103,71,122,90]:List UInt8).contains c=decide (uU (c.toNat:Int)=2):=by
 have h: ∀n:Fin 256,([119,87]:List UInt8).contains (UInt8.ofNat n)=decide (uU ((n.val:Nat):Int)=0)∧([115,83]:List UInt8).contains (UInt8.ofNat n)=decide (uU ((n.val:Nat):Int)=1)∧([117,85,103,71,122,90]:List UInt8).contains (UInt8.ofNat n)=decide (uU ((n.val:Nat):Int)=2):=by decide+kernel
 have:=h ⟨c.toNat,c.toNat_lt⟩;simpa using this
theorem Z5 (x:Int):uU x=0∨uU x=1∨uU x=2∨uU x=3:=by
 unfold uU
 (repeat' split)<;>omega
theorem aby (s:List UInt8) (hs:s.length≤1000):af aE 155 [.str s] (.tup [.str (JJ s),.int .i64 (NV s)]):=by
 refine ai Bf Uw 5 2 ?_;rw[Xg];have h1:ak (ah s) 1000=true:=bA (by rw[au];omega);have a0:av (ak (ah s) 1000) (av (ak (ah [119,87]) 1000) (nL [119,87]))=true:=by rw[h1];rfl
 have a1:av (ak (ah s) 1000) (av (ak (ah [115,83]) 1000) (nL [115,83]))=true:=by rw[h1];rfl
 have a2:av (ak (ah s) 1000) (av (ak (ah [117,85,103,71,122,90]) 1000) (nL [117,85,103,71,122,90]))=true:=by rw[h1];rfl
 have i1:bP .i64 0 1=1:=rfl;have i2:bP .i64 1 1=2:=rfl;have i3:bP .i64 2 1=3:=rfl;have st: ∀x y:Option V,sel true x y=x:=fun _ _=>rfl
 have sf: ∀x y:Option V,sel false x y=y:=fun _ _=>rfl
 have l0:aK 0 3=true:=rfl;have l1:aK 1 3=true:=rfl;have l2:aK 2 3=true:=rfl;have l3:aK 3 3=false:=rfl;have e00:ieq 0 0=true:=rfl;have e10:ieq 1 0=false:=rfl;have e11:ieq 1 1=true:=rfl;have e20:ieq 2 0=false:=rfl;have e21:ieq 2 1=false:=rfl;have e22:ieq 2 2=true:=rfl
 (rw[nO];(conv=>zeta);rw[nO];(conv=>zeta);rw[nO];(conv=>zeta);rw[nO];(conv=>zeta))
 simp only[a0,a1,a2,i1,i2,i3,l0,l1,l2,l3,e00,e10,e11,e20,e21,e22,st,sf];rcases List.eq_nil_or_concat s with rfl|⟨l,c,rfl⟩
 ·rfl
 ·rw[List.concat_eq_append] at*
  have b:av (ak 0 (nP .i64 (ah (l++[c])) 1)) (ak (nP .i64 (ah (l++[c])) 1) (ah (l++[c])))=true:=by
   rw[Hu l c hs,aC,aA,aA,yU];omega
  obtain⟨c0,c1,c2⟩:=abx c;rw[Dx,Dx,Dx,c0,c1,c2,b,Hu l c hs,K9];unfold JJ NV;rw[Hw];have hcl:=Z5 (c.toNat:Int);generalize uU (c.toNat:Int)=q at*;rcases hcl with rfl|rfl|rfl|rfl<;>rfl
theorem Xk (s:List UInt8) (hc:ak (ah s) 1000=true):af aE 155 [.str s] (.tup [.str (JJ s),.int .i64 (NV s)]):=aby s (YS hc)
theorem cS2_ok:bF aE cS2:=by
 unfold cS2;refine bF.cons (fun args r h=>?_) Uw;all_goals (revert h;intro h;first|unfold Z4 at h)
 all_goals (split at h;rotate_left; · cases h)
 all_goals (simp only[Option.some.injEq,Prod.mk.injEq] at h;obtain⟨hc,rfl⟩:=h)
 ·exact Xk _ hc
def Gi (s:List UInt8):Int×Int×Int:=if zU (JJ s)=0 then(if 0≤Q0 (JJ s)∧Q0 (JJ s)≤172800 then(Q0 (JJ s),NV s,0) else(0,0,1)) else(0,0,zU (JJ s))
def resC (p:Int×Int×Int):V:=.tup [.agg [.int .i64 p.1,.int .i64 p.2.1],.int .i64 p.2.2]
theorem bs_len (s:List UInt8):(JJ s).length≤s.length∧(NV s=0∨NV s=1∨NV s=2):=by
 rcases List.eq_nil_or_concat s with rfl|⟨l,c,rfl⟩
 ·exact⟨by simp[JJ,bsP],.inl rfl⟩
 ·rw[List.concat_eq_append]
  unfold JJ NV;rw[Hw];have hcl:=Z5 (c.toNat:Int);split
  ·exact⟨by simp,.inl rfl⟩
  ·exact⟨by simp,by simp only;omega⟩
theorem abg (s:List UInt8) (hs:s.length≤1000):af aE 120 [.str s] (resC (Gi s)):=by
 refine ai Bf cS2_ok 5 3 ?_
 (rw[Xh];(conv=>zeta))
 obtain⟨h1,h2⟩:=bs_len s;have h3:ak (ah s) 1000=true:=bA (by rw[au];omega);have h4:ak (ah (JJ s)) 1000=true:=bA (by rw[au];omega);unfold Gi resC;simp only[h3,h4,bI,aC,bE,aH,aA,aU,if_true,and_self,Bool.false_eq_true,if_false];generalize Q0 (JJ s)=a at*;generalize zU (JJ s)=b at*;generalize NV s=q at*;repeat' split
 all_goals first|rfl|(exfalso;omega)
set_option maxHeartbeats 4000000 in
theorem Tv (s:List UInt8) (hs:s.length≤1000):af aE 65 [.str s] (resC (Gi s)):=by
 refine ai Bf Uw 5 3 ?_
 (rw[QJ];(conv=>zeta))
 rcases List.eq_nil_or_concat s with rfl|⟨l,c,rfl⟩
 ·rfl
 ·rw[List.concat_eq_append] at*
  have h1:aK 0 (ah (l++[c]))=true:=bq (by rw[yU];omega);have h2:av (ak 0 (l.length:Int)) (aK (l.length:Int) (ah (l++[c])))=true:=by rw[aC,aA,aU,yU];omega
  have h3:av (ak 0 (l.length:Int)) (ak (l.length:Int) (ah (l++[c])))=true:=by rw[aC,aA,aA,yU];omega
  have h4:ak (ah (l++[c])) 1000=true:=bA (by rw[au];omega);have h5:ak (ah l) 1000=true:=bA (by simp at hs;rw[au];omega);have st: ∀x y:Option V,sel true x y=x:=fun _ _=>rfl
  have sf: ∀x y:Option V,sel false x y=y:=fun _ _=>rfl
  simp only[Hu l c hs,K9,abw,h1,h2,h3,h4,h5,st,sf];unfold Gi resC JJ NV;rw[Hw];generalize (c.toNat:Int)=x;by_cases hx:x=119∨x=87∨x=115∨x=83∨x=117∨x=85∨x=103∨x=71∨x=122∨x=90
  ·rcases hx with rfl|rfl|rfl|rfl|rfl|rfl|rfl|rfl|rfl|rfl
   all_goals
    simp only[ieq,Int.reduceBEq,st,sf,uU,Int.reduceEq,false_or,or_false,if_true,if_false,or_true,true_or];simp only[bI,bE,aA,aU,beq_iff_eq];generalize Q0 l=a at*;generalize zU l=b at*;repeat' split
    all_goals first|rfl|(exfalso;omega)
  ·have g1:ieq x 119=false:=bf (by omega)
   have g2:ieq x 87=false:=bf (by omega);have g3:ieq x 115=false:=bf (by omega);have g4:ieq x 83=false:=bf (by omega);have g5:ieq x 117=false:=bf (by omega);have g6:ieq x 85=false:=bf (by omega);have g7:ieq x 103=false:=bf (by omega);have g8:ieq x 71=false:=bf (by omega);have g9:ieq x 122=false:=bf (by omega);have g10:ieq x 90=false:=bf (by omega);have hcl:uU x=3:=by unfold uU;rw[if_neg (by omega),if_neg (by omega),if_neg (by omega)]
   simp only[g1,g2,g3,g4,g5,g6,g7,g8,g9,g10,st,sf,hcl,if_true];simp only[bI,bE,aA,aU,aH];generalize Q0 (l++[c])=a at*;generalize zU (l++[c])=b at*;repeat' split
   all_goals first|rfl|(exfalso;omega)
def Mc (n b:Int):Bool:=decide (0≤n∧n≤172800∧0≤b∧b≤2)
theorem WR (n b:Int):af aE 156 [.agg [.int .i64 n,.int .i64 b]] (.bool (Mc n b)):=by
 refine ai Bf Uw 5 2 ?_
 (rw[TH];(conv=>zeta))
 unfold Mc;simp only[bI,aA,aH];repeat' split
 all_goals first|(rw[decide_eq_false (by omega)];done)|(congr 2;unfold ak;rw[Bool.eq_iff_iff];simp;omega)
end Nt.Ev.YtpbgegnlkdfjgaaGreatDoor
