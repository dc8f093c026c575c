/-
  Clock: equations of functions, as the evaluator prints them. Times of day: what the program's functions and the document's answer.
-/
import Derived.Test.YtknhlobahpgkeaaGreatDoorMF
import Derived.Test.YtknhlobahpgkeaaGreatDoorME
set_option linter.all false
set_option maxRecDepth 100000
namespace Nt.Ev.YtknhlobahpgkeaaGreatDoor
open Go Nt.Num Go.Proofs.YtknhlobahpgkeaaGreatDoor
variable [kM]
def YB (s:af):Int:=(aQ.read s).1
def Fb (s:af):Int:=(aQ.read s).2
def txL (n:Int):af:=(aQ.text n).1
def E5 (n:Int):Int:=(aQ.text n).2
def mV (l:af):Bool:=l.all fun c=>decide (c.toNat<128)
def vP (s c:af):af:=Lib.trimRightS s c
noncomputable def cReadS:aC:=fun a=>match a with|[.str s]=>some (av (aA s) 1000,.tup [.int .i64 (YB s),.int .i64 (Fb s)])|_=>none
noncomputable def cTextS:aC:=fun a=>match a with|[.int .i64 n]=>some (ak (av (-9223372036854775808) n) (av n 9223372036854775807),.tup [.str (txL n),.int .i64 (E5 n)])|_=>none
noncomputable def trimRS:aC:=fun a=>match a with|[.str s,.str c]=>some (ak (av (aA s) 1000) (ak (av (aA c) 1000) (mV c)),.str (vP s c))|_=>none
noncomputable def cS:List (Nat×aC):=(121,cReadS)::(31,cTextS)::(184,trimRS)::[]
def nA (x:Int):Int:=if x=119∨x=87 then 0 else if x=115∨x=83 then 1 else if x=117∨x=85∨x=103∨x=71∨x=122∨x=90 then 2 else 3
def bsP (s:af):af×Int:=match s.getLast? with|none=>(s,0)|some c=>if nA (c.toNat:Int)=3 then(s,0) else(s.dropLast,nA (c.toNat:Int))
def DY (s:af):af:=(bsP s).1
def Gi (s:af):Int:=(bsP s).2
noncomputable def cBaseS:aC:=fun a=>match a with|[.str s]=>some (av (aA s) 1000,.tup [.str (DY s),.int .i64 (Gi s)])|_=>none
noncomputable def cS2:List (Nat×aC):=(163,cBaseS)::cS
noncomputable def Iq:=fun F f n d h g b a c e K=>(gH aE cS F 2 163 [1,0,1,0] f K n (kD 28 [(0,V.str d),(2,V.str h),(3,V.int .i64 g),(7,V.agg [V.str b,V.str a,V.str c]),(8,V.int .i64 e)] []):Option V)
theorem adr (F s) (K:V→Option V):
 bA aE (bu aE cS F 2) F 163 [V.str s] K=
 Iq F [] F s [] 0 [119,87] [115,83] [117,85,103,71,122,90] 0 K:=by kernel_rfl
theorem ng (F n d g f b a c e K):
 Iq F [] (n+1) d g f b a c e K=
 let B:=Iq F [] n d g f b a c (bJ .i64 e 1) K;let C:=dw .i64 (aA d) 1;let D:=av (aA d) 1000;let A:=sel (ak (av 0 C) (av C (aA d))) (K (V.tup [V.str (dN d 0 C),V.int .i64 e])) (none);sel (aW e 3) (sel (ieq e 0) (sel (ak D (ak (av (aA b) 1000) (mV b))) (sel (aW (aA (vP d b)) (aA d)) A B) none) (sel (ieq e 1) (sel (ak D (ak (av (aA a) 1000) (mV a))) (sel (aW (aA (vP d a)) (aA d)) A B) none) (sel (ieq e 2) (sel (ak D (ak (av (aA c) 1000) (mV c))) (sel (aW (aA (vP d c)) (aA d)) A B) none) none))) (K (V.tup [V.str d,V.int .i64 0])):=by kernel_rfl
theorem Vv (F n b) (K:V→Option V):
 bA aE (bu aE cS F 2) F 51 [V.agg [V.int .i64 n,V.int .i64 b]] K=
 let B:=K (V.bool false);let A:=sel (av 0 n) (K (V.bool (av n 172800))) B;sel (ieq b 0) (sel (ieq b 0) A B) (sel (ieq b 1) (sel (ieq b 1) A B) (sel (ieq b 2) A B)):=by kernel_rfl
theorem SG (F n b) (K:V→Option V):
 bA aE (bu aE cS F 2) F 30 [V.agg [V.int .i64 n,V.int .i64 b]] K=
 let B:=K (V.tup [V.str [],V.int .i64 4]);let C:=V.int .i64 (E5 n);let A:=sel (av 0 n) (sel (aL (av n 172800)) B (sel (ak (av (-9223372036854775808) n) (av n 9223372036854775807)) (sel (ieq b 0) (sel (fu (txL n) []) (K (V.tup [V.str (dU (txL n) []),C])) none) (sel (ieq b 1) (sel (fu (txL n) [115]) (K (V.tup [V.str (dU (txL n) [115]),C])) none) (sel (ieq b 2) (sel (fu (txL n) [117]) (K (V.tup [V.str (dU (txL n) [117]),C])) none) none))) none)) B;sel (ieq b 0) (sel (ieq b 0) A B) (sel (ieq b 1) (sel (ieq b 1) A B) (sel (ieq b 2) A B)):=by kernel_rfl
theorem ads (F s) (K:V→Option V):
 bA aE (bu aE cS2 F 3) F 134 [V.str s] K=
 let C:=V.int .i64 0;let D:=YB (DY s);let B:=K (V.tup [V.agg [C,C],V.int .i64 1]);let A:=sel (av 0 D) (sel (aL (av D 172800)) B (K (V.tup [V.agg [V.int .i64 D,V.int .i64 (Gi s)],C]))) B;sel (av (aA s) 1000) (sel (av (aA (DY s)) 1000) (sel (aL (ieq (Fb (DY s)) 0)) (K (V.tup [V.agg [C,C],V.int .i64 (Fb (DY s))])) (sel (ieq (Gi s) 0) (sel (ieq (Gi s) 0) A B) (sel (ieq (Gi s) 1) (sel (ieq (Gi s) 1) A B) (sel (ieq (Gi s) 2) A B)))) none) none:=by kernel_rfl
open Nt
theorem toAk {f:Nat} {args:ah} {r:V} (h:aj nE f args r):aj aE f args r:=aj.env (E:=nE) rfl (fun n v h=>by cases h) h
theorem lenA {s:af} (h:av (aA s) 1000=true):s.length≤1000:=by rw[aB,aI] at h;omega
theorem fitsA {m:Int} (h:ak (av (-9223372036854775808) m) (av m 9223372036854775807)=true):Fits m:=by rw[aM,aB,aB] at h;exact h
open Go.Lib in
theorem trimR_c (s c:af) (hs:s.length≤1000) (hc:c.length≤1000) (ha:mV c=true):aj nE 184 [.str s,.str c] (.str (vP s c)):=by
 refine bX fun G w vs hG hg hp=>?_
 obtain⟨x,y,rfl,hx,hy⟩:=iQ hp;unfold aV at hx hy;subst hx;subst hy;have hasc: ∀(j:Nat) b,(⟨c.toArray⟩:ByteArray).data.toList[j]? =some b→b.toNat<128:=fun j b hb=>by unfold mV at ha;rw[l8] at ha;have:=ha b (F9 hb);simpa using this
 refine(Go.Proofs.Any.strings_TrimRight_laid Go.Proofs.Tryz.lays162 (by kernel_rfl) ⟨s.toArray⟩ ⟨c.toArray⟩ w (by rw[wZ];omega) (by rw[wZ];omega) hasc).mono ?_;rintro e w' ⟨rfl,hb⟩;exact⟨_,rfl,hb,NM _⟩
theorem adt (s:af) (a:av (aA s) 1000=true):aj aE 121 [.str s] (.tup [.int .i64 (YB s),.int .i64 (Fb s)]):=QI s (lenA a)
theorem adu (n:Int) (a:ak (av (-9223372036854775808) n) (av n 9223372036854775807)=true):aj aE 31 [.int .i64 n] (.tup [.str (txL n),.int .i64 (E5 n)]):=QK n (fitsA a).1 (fitsA a).2
theorem adv (s c:af) (e:ak (av (aA s) 1000) (ak (av (aA c) 1000) (mV c))=true):aj aE 184 [.str s,.str c] (.str (vP s c)):=by obtain⟨b,a⟩:=aO e;obtain⟨a,d⟩:=aO a;exact toAk (trimR_c s c (lenA b) (lenA a) d)
theorem Wx:bf aE cS:=by
 unfold cS;refine bf.cons (fun args r h=>?_) (bf.cons (fun args r h=>?_) (bf.cons (fun args r h=>?_) bf.nil));all_goals (revert h;intro h;first|unfold cReadS at h|unfold cTextS at h|unfold trimRS at h)
 all_goals (split at h;rotate_left; · cases h)
 all_goals (simp only[aR,bM] at h;obtain⟨a,rfl⟩:=h)
 ·exact adt _ a
 ·exact adu _ a
 exact adv _ _ a
theorem DD (l:af) (c:UInt8) (a:af):aW (aA (vP (l++[c]) a)) (aA (l++[c]))=a.contains c:=by
 unfold vP Lib.trimRightS;rw[List.reverse_append,List.reverse_singleton,abH,abm]
 cases b:a.contains c with
 |true=>rw[if_pos rfl];refine bH ?_;rw[aI,aI,List.length_reverse,iH];have:=(List.dropWhile_suffix (l:=l.reverse) fun x=>a.contains x).sublist.length_le;rw[List.length_reverse] at this;simp only[vg];omega
 |false=>rw[if_neg (by decide)];refine bF ?_;simp[aA]
theorem QV (l:af) (c:UInt8) (h:(l++[c]).length≤1000):dw .i64 (aA (l++[c])) 1=(l.length:Int):=by rw[aI] at*;rw[dO (by omega)];simp
theorem adw (l:af) (c:UInt8):dN (l++[c]) 0 (l.length:Int)=l:=by unfold dN;simp
theorem adx (l:af) (c:UInt8):aA (l++[c])=(l.length:Int)+1:=by unfold aA;simp
theorem sj (l:af) (c:UInt8):bsP (l++[c])=if nA (c.toNat:Int)=3 then(l++[c],0) else(l,nA (c.toNat:Int)):=by unfold bsP;simp
theorem cont_cls (c:UInt8):([119,87]:af).contains c=decide (nA (c.toNat:Int)=0)∧([115,83]:af).contains c=decide (nA (c.toNat:Int)=1)∧([117,85,103,71,122,90]:af).contains c=decide (nA (c.toNat:Int)=2):=by
 have h: ∀n:Fin 256,([119,87]:af).contains (UInt8.ofNat n)=decide (nA ((n.val:Nat):Int)=0)∧([115,83]:af).contains (UInt8.ofNat n)=decide (nA ((n.val:Nat):Int)=1)∧([117,85,103,71,122,90]:af).contains (UInt8.ofNat n)=decide (nA ((n.val:Nat):Int)=2):=by decide+kernel
 have:=h ⟨c.toNat,c.toNat_lt⟩;simpa using this
theorem cls_le (x:Int):nA x=0∨nA x=1∨nA x=2∨nA x=3:=by
 unfold nA
 (repeat' split)<;>omega
theorem cBase_ev (s:af) (k:s.length≤1000):aj aE 163 [.str s] (.tup [.str (DY s),.int .i64 (Gi s)]):=by
 refine au AQ Wx 5 2 ?_;rw[adr];have d:av (aA s) 1000=true:=bg (by rw[aI];omega);have z:ak (av (aA s) 1000) (ak (av (aA [119,87]) 1000) (mV [119,87]))=true:=by rw[d];rfl
 have A:ak (av (aA s) 1000) (ak (av (aA [115,83]) 1000) (mV [115,83]))=true:=by rw[d];rfl
 have B:ak (av (aA s) 1000) (ak (av (aA [117,85,103,71,122,90]) 1000) (mV [117,85,103,71,122,90]))=true:=by rw[d];rfl
 have w:bJ .i64 0 1=1:=rfl;have m:bJ .i64 1 1=2:=rfl;have u:bJ .i64 2 1=3:=rfl;have v: ∀x y:Option V,sel true x y=x:=fun _ _=>rfl
 have n: ∀x y:Option V,sel false x y=y:=fun _ _=>rfl
 have t:aW 0 3=true:=rfl;have C:aW 1 3=true:=rfl;have l2:aW 2 3=true:=rfl;have p:aW 3 3=false:=rfl;have f:ieq 0 0=true:=rfl;have g:ieq 1 0=false:=rfl;have a:ieq 1 1=true:=rfl;have h:ieq 2 0=false:=rfl;have i:ieq 2 1=false:=rfl;have e:ieq 2 2=true:=rfl
 (rw[ng];(conv=>zeta);rw[ng];(conv=>zeta);rw[ng];(conv=>zeta);rw[ng];(conv=>zeta))
 simp only[z,A,B,w,m,u,t,C,l2,p,f,g,a,h,i,e,v,n];rcases List.eq_nil_or_concat s with rfl|⟨l,c,rfl⟩
 ·rfl
 rw[List.concat_eq_append] at*;have b:ak (av 0 (dw .i64 (aA (l++[c])) 1)) (av (dw .i64 (aA (l++[c])) 1) (aA (l++[c])))=true:=by rw[QV l c k,aM,aB,aB,adx];omega
 obtain⟨c0,o,r⟩:=cont_cls c;rw[DD,DD,DD,c0,o,r,b,QV l c k,adw];unfold DY Gi;rw[sj];have j:=cls_le (c.toNat:Int);generalize nA (c.toNat:Int)=q at*;rcases j with rfl|rfl|rfl|rfl<;>rfl
theorem ady (s:af) (a:av (aA s) 1000=true):aj aE 163 [.str s] (.tup [.str (DY s),.int .i64 (Gi s)]):=cBase_ev s (lenA a)
theorem cS2_ok:bf aE cS2:=by
 unfold cS2;refine bf.cons (fun args r h=>?_) Wx;all_goals (revert h;intro h;first|unfold cBaseS at h)
 all_goals (split at h;rotate_left; · cases h)
 all_goals (simp only[aR,bM] at h;obtain⟨a,rfl⟩:=h)
 ·exact ady _ a
def uH (s:af):Int×Int×Int:=if Fb (DY s)=0 then(if 0≤YB (DY s)∧YB (DY s)≤172800 then(YB (DY s),Gi s,0) else(0,0,1)) else(0,0,Fb (DY s))
def resC (p:Int×Int×Int):V:=.tup [.agg [.int .i64 p.1,.int .i64 p.2.1],.int .i64 p.2.2]
theorem bs_len (s:af):(DY s).length≤s.length∧(Gi s=0∨Gi s=1∨Gi s=2):=by
 rcases List.eq_nil_or_concat s with rfl|⟨l,c,rfl⟩
 ·exact⟨by simp[DY,bsP],.inl rfl⟩
 rw[List.concat_eq_append];unfold DY Gi;rw[sj];have a:=cls_le (c.toNat:Int);split
 ·exact⟨by simp,.inl rfl⟩
 exact⟨by simp,by simp only;omega⟩
theorem cRead_ev (s:af) (g:s.length≤1000):aj aE 134 [.str s] (resC (uH s)):=by
 refine au AQ cS2_ok 5 3 ?_
 (rw[ads];(conv=>zeta))
 obtain⟨f,e⟩:=bs_len s;have d:av (aA s) 1000=true:=bg (by rw[aI];omega);have c:av (aA (DY s)) 1000=true:=bg (by rw[aI];omega);unfold uH resC;simp only[d,c,bK,aM,bW,aN,aB,bq,if_true,ac5,JP,Cu];generalize YB (DY s)=a at*;generalize Fb (DY s)=b at*;generalize Gi s=q at*;repeat' split
 all_goals first|rfl|(exfalso;omega)
def dJ (n b:Int):Bool:=decide (0≤n∧n≤172800∧0≤b∧b≤2)
theorem Z0 (n b:Int):aj aE 51 [.agg [.int .i64 n,.int .i64 b]] (.bool (dJ n b)):=by
 refine au AQ Wx 5 2 ?_
 (rw[Vv];(conv=>zeta))
 unfold dJ;simp only[bK,aB,aN];repeat' split
 all_goals first|(rw[uZ (by omega)];done)|(congr 2;unfold av;rw[uF];simp;omega)
def letC (b:Int):af:=if b=0 then[] else if b=1 then[115] else[117]
def GA (n b:Int):af×Int:=if dJ n b=true then(txL n++letC b,0) else([],4)
theorem Xk (n:Int) (h:0≤n∧n≤172800):E5 n=0∧(txL n).length≤10:=by
 unfold E5 txL aQ.text;rw[if_neg (by omega)];by_cases a:n=0
 ·subst a;exact⟨rfl,by decide⟩
 rw[if_neg a];refine⟨rfl,?_⟩;have:=rZ 3 (n.natAbs/3600) (by omega) (by decide);simp only[aQ.two];split<;>split<;>simp<;>omega
theorem Vo (n b:Int):aj aE 30 [.agg [.int .i64 n,.int .i64 b]] (.tup [.str (GA n b).1,.int .i64 (GA n b).2]):=by
 refine au AQ Wx 5 2 ?_
 (rw[SG];(conv=>zeta))
 unfold GA;by_cases a:dJ n b=true
 ·rw[if_pos a]
  unfold dJ at a;have a:=Fw a;obtain⟨i,l⟩:=Xk n (by omega);have f:av 0 n=true:=bg (by omega);have c:av n 172800=true:=bg (by omega);have g:ak (av (-9223372036854775808) n) (av n 9223372036854775807)=true:=by rw[aM,aB,aB];omega
  have e: ∀p:af,p.length≤10→fu (txL n) p=true:=fun p k=>by rw[gX];omega
  have g0:=e [] (by decide);have g1:=e [115] (by decide);have d:=e [117] (by decide);have j:b=0∨b=1∨b=2:=by omega
  rcases j with rfl|rfl|rfl
  ·simp only[f,c,g,g0,g1,d,i];rfl
  ·simp only[f,c,g,g0,g1,d,i];rfl
  simp only[f,c,g,g0,g1,d,i];rfl
 rw[if_neg a];unfold dJ at a;have a: ¬(0≤n∧n≤172800∧0≤b∧b≤2):=fun h=>a (u6 h)
 simp only[bK,aB,aN,bW];repeat' split
 all_goals first|rfl|(exfalso;omega)
theorem Vp (l:af) (x:UInt8) (n q:Int) (c:nA (x.toNat:Int)=q) (a:q≠3) (b:aQ.read l=(n,0)) (h:0≤n∧n≤172800):uH (l++[x])=(n,q,0):=by
 have f:DY (l++[x])=l:=by unfold DY;rw[sj,c,if_neg a]
 have d:Gi (l++[x])=q:=by unfold Gi;rw[sj,c,if_neg a]
 have g:YB l=n:=by unfold YB;rw[b]
 have e:Fb l=0:=by unfold Fb;rw[b]
 unfold uH;rw[f,d,g,e,if_pos rfl,if_pos h]
theorem Vq (l:af) (c:UInt8) (n:Int) (b:nA (c.toNat:Int)=3) (a:aQ.read (l++[c])=(n,0)) (h:0≤n∧n≤172800):uH (l++[c])=(n,0,0):=by
 have f:DY (l++[c])=l++[c]:=by unfold DY;rw[sj,b,if_pos rfl]
 have d:Gi (l++[c])=0:=by unfold Gi;rw[sj,b,if_pos rfl]
 have g:YB (l++[c])=n:=by unfold YB;rw[a]
 have e:Fb (l++[c])=0:=by unfold Fb;rw[a]
 unfold uH;rw[f,d,g,e,if_pos rfl,if_pos h]
end Nt.Ev.YtknhlobahpgkeaaGreatDoor
