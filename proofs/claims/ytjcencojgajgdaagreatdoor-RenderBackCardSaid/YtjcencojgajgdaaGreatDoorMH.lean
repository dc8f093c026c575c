/-
  Clock: equations of functions, as the evaluator prints them. Times of day: what the program's functions and the document's answer.
-/
import Derived.Test.YtjcencojgajgdaaGreatDoorMF
import Derived.Test.YtjcencojgajgdaaGreatDoorME
set_option linter.all false
set_option maxRecDepth 100000
namespace Nt.Ev.YtjcencojgajgdaaGreatDoor
open Go Nt.Num Go.Proofs.YtjcencojgajgdaaGreatDoor
variable [kH]
def ZC (s:af):Int:=(aQ.read s).1
def FL (s:af):Int:=(aQ.read s).2
def txL (n:Int):af:=(aQ.text n).1
def CO (n:Int):Int:=(aQ.text n).2
def mU (l:af):Bool:=l.all fun c=>decide (c.toNat<128)
def vO (s c:af):af:=Lib.trimRightS s c
noncomputable def cReadS:aD:=fun a=>match a with|[.str s]=>some (ax (aB s) 1000,.tup [.int .i64 (ZC s),.int .i64 (FL s)])|_=>none
noncomputable def cTextS:aD:=fun a=>match a with|[.int .i64 n]=>some (ak (ax (-9223372036854775808) n) (ax n 9223372036854775807),.tup [.str (txL n),.int .i64 (CO n)])|_=>none
noncomputable def trimRS:aD:=fun a=>match a with|[.str s,.str c]=>some (ak (ax (aB s) 1000) (ak (ax (aB c) 1000) (mU c)),.str (vO s c))|_=>none
noncomputable def cS:List (Nat×aD):=(141,cReadS)::(35,cTextS)::(201,trimRS)::[]
def ng (x:Int):Int:=if x=119∨x=87 then 0 else if x=115∨x=83 then 1 else if x=117∨x=85∨x=103∨x=71∨x=122∨x=90 then 2 else 3
def bsP (s:af):af×Int:=match s.getLast? with|none=>(s,0)|some c=>if ng (c.toNat:Int)=3 then(s,0) else(s.dropLast,ng (c.toNat:Int))
def Ed (s:af):af:=(bsP s).1
def G7 (s:af):Int:=(bsP s).2
noncomputable def cBaseS:aD:=fun a=>match a with|[.str s]=>some (ax (aB s) 1000,.tup [.str (Ed s),.int .i64 (G7 s)])|_=>none
noncomputable def cS2:List (Nat×aD):=(179,cBaseS)::cS
noncomputable def Ja:=fun F f n d h g b a c e K=>(bR aE cS F 2 179 [1,0,1,0] f K n (fB 28 [(0,V.str d),(2,V.str h),(3,V.int .i64 g),(7,V.agg [V.str b,V.str a,V.str c]),(8,V.int .i64 e)] []):Option V)
theorem aeu (F s) (K:V→Option V):
 bE aE (bC aE cS F 2) F 179 [V.str s] K=
 Ja F [] F s [] 0 [119,87] [115,83] [117,85,103,71,122,90] 0 K:=by kernel_rfl
theorem mY (F n d g f b a c e K):
 Ja F [] (n+1) d g f b a c e K=
 let B:=Ja F [] n d g f b a c (bg .i64 e 1) K;let C:=dB .i64 (aB d) 1;let D:=ax (aB d) 1000;let A:=sel (ak (ax 0 C) (ax C (aB d))) (K (V.tup [V.str (dQ d 0 C),V.int .i64 e])) (none);sel (aR e 3) (sel (ieq e 0) (sel (ak D (ak (ax (aB b) 1000) (mU b))) (sel (aR (aB (vO d b)) (aB d)) A B) none) (sel (ieq e 1) (sel (ak D (ak (ax (aB a) 1000) (mU a))) (sel (aR (aB (vO d a)) (aB d)) A B) none) (sel (ieq e 2) (sel (ak D (ak (ax (aB c) 1000) (mU c))) (sel (aR (aB (vO d c)) (aB d)) A B) none) none))) (K (V.tup [V.str d,V.int .i64 0])):=by kernel_rfl
theorem Wv (F n b) (K:V→Option V):
 bE aE (bC aE cS F 2) F 49 [V.agg [V.int .i64 n,V.int .i64 b]] K=
 let B:=K (V.bool false);let A:=sel (ax 0 n) (K (V.bool (ax n 172800))) B;sel (ieq b 0) (sel (ieq b 0) A B) (sel (ieq b 1) (sel (ieq b 1) A B) (sel (ieq b 2) A B)):=by kernel_rfl
theorem TP (F n b) (K:V→Option V):
 bE aE (bC aE cS F 2) F 34 [V.agg [V.int .i64 n,V.int .i64 b]] K=
 let B:=K (V.tup [V.str [],V.int .i64 4]);let C:=V.int .i64 (CO n);let A:=sel (ax 0 n) (sel (aL (ax n 172800)) B (sel (ak (ax (-9223372036854775808) n) (ax n 9223372036854775807)) (sel (ieq b 0) (sel (fC (txL n) []) (K (V.tup [V.str (dZ (txL n) []),C])) none) (sel (ieq b 1) (sel (fC (txL n) [115]) (K (V.tup [V.str (dZ (txL n) [115]),C])) none) (sel (ieq b 2) (sel (fC (txL n) [117]) (K (V.tup [V.str (dZ (txL n) [117]),C])) none) none))) none)) B;sel (ieq b 0) (sel (ieq b 0) A B) (sel (ieq b 1) (sel (ieq b 1) A B) (sel (ieq b 2) A B)):=by kernel_rfl
theorem aev (F s) (K:V→Option V):
 bE aE (bC aE cS2 F 3) F 154 [V.str s] K=
 let C:=V.int .i64 0;let D:=ZC (Ed s);let B:=K (V.tup [V.agg [C,C],V.int .i64 1]);let A:=sel (ax 0 D) (sel (aL (ax D 172800)) B (K (V.tup [V.agg [V.int .i64 D,V.int .i64 (G7 s)],C]))) B;sel (ax (aB s) 1000) (sel (ax (aB (Ed s)) 1000) (sel (aL (ieq (FL (Ed s)) 0)) (K (V.tup [V.agg [C,C],V.int .i64 (FL (Ed s))])) (sel (ieq (G7 s) 0) (sel (ieq (G7 s) 0) A B) (sel (ieq (G7 s) 1) (sel (ieq (G7 s) 1) A B) (sel (ieq (G7 s) 2) A B)))) none) none:=by kernel_rfl
open Nt
theorem toAk {f:Nat} {args:ah} {r:V} (h:aj nE f args r):aj aE f args r:=aj.env (E:=nE) rfl (fun n v h=>by cases h) h
theorem lenA {s:af} (h:ax (aB s) 1000=true):s.length≤1000:=by rw[aA,aJ] at h;omega
theorem fitsA {m:Int} (h:ak (ax (-9223372036854775808) m) (ax m 9223372036854775807)=true):Fits m:=by rw[aM,aA,aA] at h;exact h
open Go.Lib in
theorem trimR_c (s c:af) (hs:s.length≤1000) (hc:c.length≤1000) (ha:mU c=true):aj nE 201 [.str s,.str c] (.str (vO s c)):=by
 refine bZ fun G w vs hG hg hp=>?_
 obtain⟨x,y,rfl,hx,hy⟩:=iO hp;unfold aV at hx hy;subst hx;subst hy;have hasc: ∀(j:Nat) b,(⟨c.toArray⟩:ByteArray).data.toList[j]? =some b→b.toNat<128:=fun j b hb=>by unfold mU at ha;rw[lM] at ha;have:=ha b (GR hb);simpa using this
 refine(Go.Proofs.Any.strings_TrimRight_laid Go.Proofs.Tryz.lays162 (by kernel_rfl) ⟨s.toArray⟩ ⟨c.toArray⟩ w (by rw[xg];omega) (by rw[xg];omega) hasc).mono ?_;rintro e w' ⟨rfl,hb⟩;exact⟨_,rfl,hb,OI _⟩
theorem aew (s:af) (a:ax (aB s) 1000=true):aj aE 141 [.str s] (.tup [.int .i64 (ZC s),.int .i64 (FL s)]):=RJ s (lenA a)
theorem aex (n:Int) (a:ak (ax (-9223372036854775808) n) (ax n 9223372036854775807)=true):aj aE 35 [.int .i64 n] (.tup [.str (txL n),.int .i64 (CO n)]):=RN n (fitsA a).1 (fitsA a).2
theorem aey (s c:af) (e:ak (ax (aB s) 1000) (ak (ax (aB c) 1000) (mU c))=true):aj aE 201 [.str s,.str c] (.str (vO s c)):=by obtain⟨b,a⟩:=aN e;obtain⟨a,d⟩:=aN a;exact toAk (trimR_c s c (lenA b) (lenA a) d)
theorem XG:aZ aE cS:=by
 unfold cS;refine aZ.cons (fun args r h=>?_) (aZ.cons (fun args r h=>?_) (aZ.cons (fun args r h=>?_) aZ.nil));all_goals (revert h;intro h;first|unfold cReadS at h|unfold cTextS at h|unfold trimRS at h)
 all_goals (split at h;rotate_left; · cases h)
 all_goals (simp only[aT,bP] at h;obtain⟨a,rfl⟩:=h)
 ·exact aew _ a
 ·exact aex _ a
 exact aey _ _ a
theorem DY (l:af) (c:UInt8) (a:af):aR (aB (vO (l++[c]) a)) (aB (l++[c]))=a.contains c:=by
 unfold vO Lib.trimRightS;rw[List.reverse_append,List.reverse_singleton,abu,abm]
 cases b:a.contains c with
 |true=>rw[if_pos rfl];refine bu ?_;rw[aJ,aJ,List.length_reverse,iW];have:=(List.dropWhile_suffix (l:=l.reverse) fun x=>a.contains x).sublist.length_le;rw[List.length_reverse] at this;simp only[Ec];omega
 |false=>rw[if_neg (by decide)];refine bB ?_;simp[aB]
theorem RZ (l:af) (c:UInt8) (h:(l++[c]).length≤1000):dB .i64 (aB (l++[c])) 1=(l.length:Int):=by rw[aJ] at*;rw[dV (by omega)];simp
theorem aez (l:af) (c:UInt8):dQ (l++[c]) 0 (l.length:Int)=l:=by unfold dQ;simp
theorem aeA (l:af) (c:UInt8):aB (l++[c])=(l.length:Int)+1:=by unfold aB;simp
theorem rY (l:af) (c:UInt8):bsP (l++[c])=if ng (c.toNat:Int)=3 then(l++[c],0) else(l,ng (c.toNat:Int)):=by unfold bsP;simp
theorem cont_cls (c:UInt8):([119,87]:af).contains c=decide (ng (c.toNat:Int)=0)∧([115,83]:af).contains c=decide (ng (c.toNat:Int)=1)∧([117,85,103,71,122,90]:af).contains c=decide (ng (c.toNat:Int)=2):=by
 have h: ∀n:Fin 256,([119,87]:af).contains (UInt8.ofNat n)=decide (ng ((n.val:Nat):Int)=0)∧([115,83]:af).contains (UInt8.ofNat n)=decide (ng ((n.val:Nat):Int)=1)∧([117,85,103,71,122,90]:af).contains (UInt8.ofNat n)=decide (ng ((n.val:Nat):Int)=2):=by decide+kernel
 have:=h ⟨c.toNat,c.toNat_lt⟩;simpa using this
theorem cls_le (x:Int):ng x=0∨ng x=1∨ng x=2∨ng x=3:=by
 unfold ng
 (repeat' split)<;>omega
theorem cBase_ev (s:af) (k:s.length≤1000):aj aE 179 [.str s] (.tup [.str (Ed s),.int .i64 (G7 s)]):=by
 refine au AV XG 5 2 ?_;rw[aeu];have d:ax (aB s) 1000=true:=bn (by rw[aJ];omega);have z:ak (ax (aB s) 1000) (ak (ax (aB [119,87]) 1000) (mU [119,87]))=true:=by rw[d];rfl
 have A:ak (ax (aB s) 1000) (ak (ax (aB [115,83]) 1000) (mU [115,83]))=true:=by rw[d];rfl
 have B:ak (ax (aB s) 1000) (ak (ax (aB [117,85,103,71,122,90]) 1000) (mU [117,85,103,71,122,90]))=true:=by rw[d];rfl
 have w:bg .i64 0 1=1:=rfl;have m:bg .i64 1 1=2:=rfl;have u:bg .i64 2 1=3:=rfl;have v: ∀x y:Option V,sel true x y=x:=fun _ _=>rfl
 have n: ∀x y:Option V,sel false x y=y:=fun _ _=>rfl
 have t:aR 0 3=true:=rfl;have C:aR 1 3=true:=rfl;have l2:aR 2 3=true:=rfl;have p:aR 3 3=false:=rfl;have f:ieq 0 0=true:=rfl;have g:ieq 1 0=false:=rfl;have a:ieq 1 1=true:=rfl;have h:ieq 2 0=false:=rfl;have i:ieq 2 1=false:=rfl;have e:ieq 2 2=true:=rfl
 (rw[mY];(conv=>zeta);rw[mY];(conv=>zeta);rw[mY];(conv=>zeta);rw[mY];(conv=>zeta))
 simp only[z,A,B,w,m,u,t,C,l2,p,f,g,a,h,i,e,v,n];rcases List.eq_nil_or_concat s with rfl|⟨l,c,rfl⟩
 ·rfl
 rw[List.concat_eq_append] at*;have b:ak (ax 0 (dB .i64 (aB (l++[c])) 1)) (ax (dB .i64 (aB (l++[c])) 1) (aB (l++[c])))=true:=by rw[RZ l c k,aM,aA,aA,aeA];omega
 obtain⟨c0,o,r⟩:=cont_cls c;rw[DY,DY,DY,c0,o,r,b,RZ l c k,aez];unfold Ed G7;rw[rY];have j:=cls_le (c.toNat:Int);generalize ng (c.toNat:Int)=q at*;rcases j with rfl|rfl|rfl|rfl<;>rfl
theorem aeB (s:af) (a:ax (aB s) 1000=true):aj aE 179 [.str s] (.tup [.str (Ed s),.int .i64 (G7 s)]):=cBase_ev s (lenA a)
theorem cS2_ok:aZ aE cS2:=by
 unfold cS2;refine aZ.cons (fun args r h=>?_) XG;all_goals (revert h;intro h;first|unfold cBaseS at h)
 all_goals (split at h;rotate_left; · cases h)
 all_goals (simp only[aT,bP] at h;obtain⟨a,rfl⟩:=h)
 ·exact aeB _ a
def uI (s:af):Int×Int×Int:=if FL (Ed s)=0 then(if 0≤ZC (Ed s)∧ZC (Ed s)≤172800 then(ZC (Ed s),G7 s,0) else(0,0,1)) else(0,0,FL (Ed s))
def resC (p:Int×Int×Int):V:=.tup [.agg [.int .i64 p.1,.int .i64 p.2.1],.int .i64 p.2.2]
theorem bs_len (s:af):(Ed s).length≤s.length∧(G7 s=0∨G7 s=1∨G7 s=2):=by
 rcases List.eq_nil_or_concat s with rfl|⟨l,c,rfl⟩
 ·exact⟨by simp[Ed,bsP],.inl rfl⟩
 rw[List.concat_eq_append];unfold Ed G7;rw[rY];have a:=cls_le (c.toNat:Int);split
 ·exact⟨by simp,.inl rfl⟩
 exact⟨by simp,by simp only;omega⟩
theorem cRead_ev (s:af) (g:s.length≤1000):aj aE 154 [.str s] (resC (uI s)):=by
 refine au AV cS2_ok 5 3 ?_
 (rw[aev];(conv=>zeta))
 obtain⟨f,e⟩:=bs_len s;have d:ax (aB s) 1000=true:=bn (by rw[aJ];omega);have c:ax (aB (Ed s)) 1000=true:=bn (by rw[aJ];omega);unfold uI resC;simp only[d,c,bM,aM,bY,aO,aA,bq,if_true,ac7,GU,CK];generalize ZC (Ed s)=a at*;generalize FL (Ed s)=b at*;generalize G7 s=q at*;repeat' split
 all_goals first|rfl|(exfalso;omega)
def dO (n b:Int):Bool:=decide (0≤n∧n≤172800∧0≤b∧b≤2)
theorem aeb (n b:Int):aj aE 49 [.agg [.int .i64 n,.int .i64 b]] (.bool (dO n b)):=by
 refine au AV XG 5 2 ?_
 (rw[Wv];(conv=>zeta))
 unfold dO;simp only[bM,aA,aO];repeat' split
 all_goals first|(rw[uP (by omega)];done)|(congr 2;unfold ax;rw[uF];simp;omega)
def letC (b:Int):af:=if b=0 then[] else if b=1 then[115] else[117]
def Hz (n b:Int):af×Int:=if dO n b=true then(txL n++letC b,0) else([],4)
theorem Yk (n:Int) (h:0≤n∧n≤172800):CO n=0∧(txL n).length≤10:=by
 unfold CO txL aQ.text;rw[if_neg (by omega)];by_cases a:n=0
 ·subst a;exact⟨rfl,by decide⟩
 rw[if_neg a];refine⟨rfl,?_⟩;have:=rW 3 (n.natAbs/3600) (by omega) (by decide);simp only[aQ.two];split<;>split<;>simp<;>omega
theorem Wn (n b:Int):aj aE 34 [.agg [.int .i64 n,.int .i64 b]] (.tup [.str (Hz n b).1,.int .i64 (Hz n b).2]):=by
 refine au AV XG 5 2 ?_
 (rw[TP];(conv=>zeta))
 unfold Hz;by_cases a:dO n b=true
 ·rw[if_pos a]
  unfold dO at a;have a:=FY a;obtain⟨i,l⟩:=Yk n (by omega);have f:ax 0 n=true:=bn (by omega);have c:ax n 172800=true:=bn (by omega);have g:ak (ax (-9223372036854775808) n) (ax n 9223372036854775807)=true:=by rw[aM,aA,aA];omega
  have e: ∀p:af,p.length≤10→fC (txL n) p=true:=fun p k=>by rw[gV];omega
  have g0:=e [] (by decide);have g1:=e [115] (by decide);have d:=e [117] (by decide);have j:b=0∨b=1∨b=2:=by omega
  rcases j with rfl|rfl|rfl
  ·simp only[f,c,g,g0,g1,d,i];rfl
  ·simp only[f,c,g,g0,g1,d,i];rfl
  simp only[f,c,g,g0,g1,d,i];rfl
 rw[if_neg a];unfold dO at a;have a: ¬(0≤n∧n≤172800∧0≤b∧b≤2):=fun h=>a (uG h)
 simp only[bM,aA,aO,bY];repeat' split
 all_goals first|rfl|(exfalso;omega)
theorem Wo (l:af) (x:UInt8) (n q:Int) (c:ng (x.toNat:Int)=q) (a:q≠3) (b:aQ.read l=(n,0)) (h:0≤n∧n≤172800):uI (l++[x])=(n,q,0):=by
 have f:Ed (l++[x])=l:=by unfold Ed;rw[rY,c,if_neg a]
 have d:G7 (l++[x])=q:=by unfold G7;rw[rY,c,if_neg a]
 have g:ZC l=n:=by unfold ZC;rw[b]
 have e:FL l=0:=by unfold FL;rw[b]
 unfold uI;rw[f,d,g,e,if_pos rfl,if_pos h]
theorem Wp (l:af) (c:UInt8) (n:Int) (b:ng (c.toNat:Int)=3) (a:aQ.read (l++[c])=(n,0)) (h:0≤n∧n≤172800):uI (l++[c])=(n,0,0):=by
 have f:Ed (l++[c])=l++[c]:=by unfold Ed;rw[rY,b,if_pos rfl]
 have d:G7 (l++[c])=0:=by unfold G7;rw[rY,b,if_pos rfl]
 have g:ZC (l++[c])=n:=by unfold ZC;rw[a]
 have e:FL (l++[c])=0:=by unfold FL;rw[a]
 unfold uI;rw[f,d,g,e,if_pos rfl,if_pos h]
end Nt.Ev.YtjcencojgajgdaaGreatDoor
