/-
  Stamp: equations of functions, as the evaluator prints them. Stamps: Right, Secs, Of, Split, both sides.
-/
import Derived.Test.YtcmockbdkppglaaDoorMI
set_option linter.all false
set_option maxRecDepth 100000
namespace Nt.Ev.YtcmockbdkppglaaDoor
open Go Nt.Num Go.Proofs.YtcmockbdkppglaaDoor
open Nt.Civil
def X8 (y m d:Int):Int:=(Co y m d).1
def X9 (y m d:Int):Int:=(Co y m d).2
def Ya (n:Int):Int:=(wU n).1
def Yb (n:Int):Int:=(wU n).2.1
def Yc (n:Int):Int:=(wU n).2.2.1
def UW (n:Int):Int:=(wU n).2.2.2
noncomputable def Vi:aO:=fun a=>match a with|[.int .i64 a,.int .i64 b]=>some (av (av (aH (-9223372036854775808) a) (aH a 9223372036854775807)) (av (aZ 0 b) (aH b 1000000)),.tup [.int .i64 (fq a b),.int .i64 (fr a b),.int .i64 0])|_=>none
noncomputable def Li:aO:=fun a=>match a with|[.agg [.int .i64 y,.int .i64 m,.int .i64 d]]=>some (true,.bool (eX y m d))|_=>none
noncomputable def Pv:aO:=fun a=>match a with|[.agg [.int .i64 y,.int .i64 m,.int .i64 d]]=>some (true,.tup [.int .i64 (X8 y m d),.int .i64 (X9 y m d)])|_=>none
noncomputable def Pw:aO:=fun a=>match a with|[.int .i64 n]=>some (av (aH (-9223372036854775808) n) (aH n 9223372036854775807),.tup [.agg [.int .i64 (Ya n),.int .i64 (Yb n),.int .i64 (Yc n)],.int .i64 (UW n)])|_=>none
noncomputable def ZZ:List (Nat×aO):=(37,Vi)::(39,Li)::(52,Pv)::(26,Pw)::[]
def Cb (y m d h i s:Int):Bool:=eX y m d&&decide (0≤h∧h≤23∧0≤i∧i≤59∧0≤s∧s≤59)
noncomputable def Gq:aO:=fun a=>match a with|[.agg [.int .i64 y,.int .i64 m,.int .i64 d,.int .i64 h,.int .i64 i,.int .i64 s]]=>some (true,.bool (Cb y m d h i s))|_=>none
noncomputable def SH:List (Nat×aO):=(28,Gq)::ZZ
def bI (n k:Int):ah:=List.replicate (k.toNat-(Num.text n).length) 48++Num.text n
theorem Ik (F y m d h i s) (K:V→Option V):
 gF vE (fK vE ZZ F 2) F 28 [V.agg [V.int .i64 y,V.int .i64 m,V.int .i64 d,V.int .i64 h,V.int .i64 i,V.int .i64 s]] K=
 let A:=K (V.bool false);sel (eX y m d) (sel (aH 0 h) (sel (aZ h 24) (sel (aH 0 i) (sel (aZ i 60) (sel (aH 0 s) (K (V.bool (aZ s 60))) A) A) A) A) A) A:=by kernel_rfl
theorem JX (F y m d h i s) (K:V→Option V):
 gF vE (fK vE SH F 2) F 35 [V.agg [V.int .i64 y,V.int .i64 m,V.int .i64 d,V.int .i64 h,V.int .i64 i,V.int .i64 s]] K=
 sel (aS (Cb y m d h i s)) (K (V.tup [V.int .i64 0,V.int .i64 1])) (K (V.tup [V.int .i64 (aY .i64 (iB .i64 (X8 y m d) 86400) (aY .i64 (aY .i64 (iB .i64 h 3600) (iB .i64 i 60)) s)),V.int .i64 (X9 y m d)])):=by kernel_rfl
theorem QH (F t) (K:V→Option V):
 gF vE (fK vE SH F 3) F 14 [V.int .i64 t] K=
 let A:=V.int .i64 0;let B:=fq t 86400;let C:=fr t 86400;sel (av (av (aH (-9223372036854775808) t) (aH t 9223372036854775807)) (av (aZ 0 86400) (aH 86400 1000000))) (sel (av (aH (-9223372036854775808) B) (aH B 9223372036854775807)) (sel (aS (ieq (UW B) 0)) (K (V.tup [V.agg [A,A,A,A,A,A],V.int .i64 (UW B)])) (K (V.tup [V.agg [V.int .i64 (Ya B),V.int .i64 (Yb B),V.int .i64 (Yc B),V.int .i64 (iC .i64 C 3600),V.int .i64 (iC .i64 (DK C 3600) 60),V.int .i64 (DK C 60)],A]))) none) none:=by kernel_rfl
open Go.RowKit Nt
theorem QI (a b:Int) (c:av (av (aH (-9223372036854775808) a) (aH a 9223372036854775807)) (av (aZ 0 b) (aH b 1000000))=true):ak vE 37 [.int .i64 a,.int .i64 b] (.tup [.int .i64 (fq a b),.int .i64 (fr a b),.int .i64 0]):=Lg a b c
theorem JY (y m d:Int) (a:true=true):ak vE 39 [.agg [.int .i64 y,.int .i64 m,.int .i64 d]] (.bool (eX y m d)):=Dl y m d a
theorem Nz (y m d:Int) (a:true=true):ak vE 52 [.agg [.int .i64 y,.int .i64 m,.int .i64 d]] (.tup [.int .i64 (X8 y m d),.int .i64 (X9 y m d)]):=QF y m d
theorem NA (n:Int) (a:av (aH (-9223372036854775808) n) (aH n 9223372036854775807)=true):ak vE 26 [.int .i64 n] (.tup [.agg [.int .i64 (Ya n),.int .i64 (Yb n),.int .i64 (Yc n)],.int .i64 (UW n)]):=QG n
theorem Px:dP vE ZZ:=by
 unfold ZZ;refine dP.cons (fun args r h=>?_) (dP.cons (fun args r h=>?_) (dP.cons (fun args r h=>?_) (dP.cons (fun args r h=>?_) dP.nil)));all_goals (revert h;intro h;first|unfold Vi at h|unfold Li at h|unfold Pv at h|unfold Pw at h)
 all_goals (split at h;rotate_left; · cases h)
 all_goals (simp only[aF,bP] at h;obtain⟨a,rfl⟩:=h)
 ·exact QI _ _ a
 ·exact JY _ _ _ rfl
 ·exact Nz _ _ _ rfl
 ·exact NA _ a
theorem Bi (y m d h i s:Int):ak vE 28 [.agg [.int .i64 y,.int .i64 m,.int .i64 d,.int .i64 h,.int .i64 i,.int .i64 s]] (.bool (Cb y m d h i s)):=by
 refine aG qU Px 5 2 ?_
 (rw[Ik];(conv=>zeta))
 unfold Cb
 cases eX y m d
 ·rfl
 ·simp only[st',oh,ax,aU,On]
  repeat' split
  all_goals first|contradiction|(exfalso;simp_all;done)|(rw[yI (by omega)];done)|(congr 2;rw[Kc,Ka];simp only[ax,aU];omega)
theorem Il (y m d h i s:Int) (a:true=true):ak vE 28 [.agg [.int .i64 y,.int .i64 m,.int .i64 d,.int .i64 h,.int .i64 i,.int .i64 s]] (.bool (Cb y m d h i s)):=Bi y m d h i s
theorem Lj:dP vE SH:=by
 unfold SH;refine dP.cons (fun args r h=>?_) Px;all_goals (revert h;intro h;first|unfold Gq at h)
 all_goals (split at h;rotate_left; · cases h)
 all_goals (simp only[aF,bP] at h;obtain⟨a,rfl⟩:=h)
 ·exact Il _ _ _ _ _ _ rfl
def Ky (y m d h i s:Int):Int:=jM y m d*86400+h*3600+i*60+s
def Cq (y m d h i s:Int):Int×Int:=if Cb y m d h i s=true then(Ky y m d h i s,0) else(0,1)
theorem qw {y m d h i s:Int}:Cb y m d h i s=true↔eX y m d=true∧0≤h∧h≤23∧0≤i∧i≤59∧0≤s∧s≤59:=by
 unfold Cb;rw[bB,Ka]
theorem TP {y m d:Int} (h:eX y m d=true): -20000000≤jM y m d∧jM y m d≤20000000:=by
 obtain⟨e,f,a⟩:=iL.1 h;have c:=Dk a;have g:(0:Int)≤(if jb y=true then 1 else 0)∧(if jb y=true then(1:Int) else 0)≤1:=by split<;>omega
 have b: -19000000≤ic y∧ic y≤19000000:=by unfold ic zT;omega
 unfold jM;omega
theorem QJ {y m d:Int} (h:eX y m d=true):X8 y m d=jM y m d∧X9 y m d=0:=by
 unfold X8 X9 Co;rw[if_pos h];exact⟨rfl,rfl⟩
theorem NB (y m d h i s:Int):ak vE 35 [.agg [.int .i64 y,.int .i64 m,.int .i64 d,.int .i64 h,.int .i64 i,.int .i64 s]] (.tup [.int .i64 (Cq y m d h i s).1,.int .i64 (Cq y m d h i s).2]):=by
 refine aG qU Lj 5 2 ?_;rw[JX];unfold Cq
 cases c:Cb y m d h i s with
 |false=>rfl
 |true=>
  obtain⟨a,g⟩:=qw.1 c;obtain⟨b,e⟩:=QJ a;have f:=TP a;rw[aD (by rfl),b,e,if_pos rfl];simp(disch:=omega) only[bQ,jo];unfold Ky;rw[show jM y m d*86400+(h*3600+i*60+s)=jM y m d*86400+h*3600+i*60+s by omega]
def Fp (t:Int):List Int×Int:=if fo (t/86400)=true then([dY (t/86400),dM (t/86400),dD (t/86400),t%86400/3600,t%86400/60%60,t%86400%60],0) else([0,0,0,0,0,0],1)
def IL (p:List Int×Int):V:=.tup [.agg (p.1.map (V.int .i64)),.int .i64 p.2]
theorem Zg {n:Int} (h:fo n=true):Ya n=dY n∧Yb n=dM n∧Yc n=dD n∧UW n=0:=by
 unfold Ya Yb Yc UW wU;rw[if_pos h];exact⟨rfl,rfl,rfl,rfl⟩
theorem WL {n:Int} (h: ¬fo n=true):UW n=1:=by
 unfold UW wU;rw[if_neg h]
theorem TQ (t:Int) (g:Fits t):ak vE 14 [.int .i64 t] (IL (Fp t)):=by
 refine aG qU Lj 5 3 ?_;unfold Fits at g;have d:fq t 86400=t/86400:=rfl;have i:fr t 86400=t%86400:=rfl
 (rw[QH];(conv=>zeta);rw[ai (by simp only[ay,ax,aU];omega),d,i,ai (by simp only[ay,ax];omega)])
 unfold Fp;by_cases a:fo (t/86400)=true
 ·obtain⟨e,f,h,c⟩:=Zg a
  rw[e,f,h,c,aD (by rfl),if_pos a];have j:0≤t%86400∧t%86400<86400:=by omega
  generalize t%86400=r at*;have b:r%3600/60=r/60%60:=by omega
  simp(disch:=omega) only[rM,Gc];rw[b];rfl
 ·rw[WL a,ai (by rfl),if_neg a];rfl
theorem TR {m:Int} (h:av (aH (-9223372036854775808) m) (aH m 9223372036854775807)=true):Fits m:=by rw[ay,ax,ax] at h;exact h
def kC (y m d h i s:Int):ah:=
 if Cb y m d h i s=true then(if y<0 then 45::bI (-y) 4 else bI y 4)++45::bI m 2++45::bI d 2++84::bI h 2++58::bI i 2++58::bI s 2 else[]
theorem dB (n k:Int) (a: -1000000≤n∧n≤1000000) (b:0≤k∧k≤10):(bI n k).length≤40:=by
 have:=(Gi n (by unfold Fits;omega)).1;unfold bI;rw[nY,XJ];omega
noncomputable def Py:V:=.rptr [.int .u8,.int .u8,.int .u8,.int .u8,.int .u8] (.agg [.int .u8 45,.int .u8 45,.int .u8 84,.int .u8 58,.int .u8 58]) 0
noncomputable def uE:Env:=⟨Go.Proofs.Tryd.prog,fun g=>bif g==1 then some Py else none⟩
def Jb (s c:ah):ah:=Lib.trimS s c
noncomputable def Ll (l:ah):Bool:=l.all fun c=>decide (c.toNat<128)
def SI (s p:ah):Bool:=Lib.hasPrefix s p
def OA (s p:ah):ah:=Lib.trimPrefix s p
noncomputable def Vj:aO:=fun a=>match a with|[.str s,.str p]=>some (aH (aK s) 1000,.tup [.str (OA s p),.bool (SI s p)])|_=>none
noncomputable def Pz:aO:=fun a=>match a with|[.int .i64 n]=>some (av (aH (-9223372036854775808) n) (aH n 9223372036854775807),.str (text n))|_=>none
noncomputable def Lm:aO:=fun a=>match a with|[.agg [.int .i64 y,.int .i64 m,.int .i64 d,.int .i64 h,.int .i64 i,.int .i64 s]]=>some (true,.bool (Cb y m d h i s))|_=>none
noncomputable def PD:aO:=fun a=>match a with|[.str s,.str c]=>some (av (aH (aK s) 1000) (av (aH (aK c) 1000) (Ll c)),.str (Jb s c))|_=>none
noncomputable def PE:aO:=fun a=>match a with|[.str s]=>some (aH (aK s) 1000,.tup [.int .i64 (Sm s),.int .i64 (nrW s)])|_=>none
noncomputable def Xy:List (Nat×aO):=(64,Vj)::(42,Pz)::(28,Lm)::(63,PD)::(65,PE)::[]
noncomputable def Vk:aO:=fun a=>match a with|[.sl 5 [.int .u8] (some 1000001000) xs,.int .i64 n,.int .i64 k]=>some (av (av (aH (-1000000) n) (aH n 1000000)) (av (av (aH 0 k) (aH k 10)) (aH (aQ xs) 1000)),.out false (.sl 5 [.int .u8] (some 1000000000) (bT xs (aC (bI n k)))) [])|_=>none
def Fq (s:ah) (n:Int):Bool:=decide (n≤(s.length:Int))&&s.all isDigit
noncomputable def Vl:aO:=fun a=>match a with|[.str s,.int .i64 n]=>some (aH (aK s) 1000,.bool (Fq s n))|_=>none
noncomputable def VE:List (Nat×aO):=(GX+29,Vk)::(50,Vl)::Xy
def Yd (s:ah):Int×Int:=if(bare s).length<4∨(bare s).all isDigit=false∨(4<(bare s).length∧(bare s).getD 0 0=48)∨s=[45,48,48,48,48] then(0,4) else if 5<(bare s).length then(0,1) else(if minus s=true then -(val (bare s):Int) else(val (bare s):Int),0)
def Sn (s:ah):Int:=(Yd s).1
def Sq (s:ah):Int:=(Yd s).2
def Kz (s:ah):Int:=aY .i64 (iB .i64 (gP .i64 (bD .u8 (sat s 0) 48)) 10) (gP .i64 (bD .u8 (sat s 1) 48))
noncomputable def PG:aO:=fun a=>match a with|[.str s]=>some (aH (aK s) 1000,.tup [.int .i64 (Sn s),.int .i64 (Sq s)])|_=>none
noncomputable def Z0:List (Nat×aO):=(51,PG)::VE
noncomputable def yR:=fun F d n c e g f b a K=>(Eg uE Xy F 2 29 [V.sl 5 [Kd.int .u8] (some 1000001000) [],V.nilsl,V.nilsl] [1,1,0,1,0] d K n (ny 23 [(0,V.sl 5 [Kd.int .u8] (some 1000000000) c),(1,V.int .i64 e),(2,V.int .i64 g),(6,V.sl 5 [Kd.int .u8] (some 6) []),(7,V.str f),(13,V.int .i64 b),(14,V.int .i64 a)] []):Option V)
theorem QK (F L n k) (K:V→Option V):
 gF uE (fK uE Xy F 2) F 29 [V.sl 5 [Kd.int .u8] (some 1000001000) L,V.int .i64 n,V.int .i64 k] K=
 sel (av (aH (-9223372036854775808) n) (aH n 9223372036854775807)) (yR F [] F L n k (text n) (bD .i64 k (aK (text n))) 0 K) none:=by kernel_rfl
theorem uS (F n c e f d b a K):
 yR F [] (n+1) c e f d b a K=
 sel (aZ a b) (sel (fO c [V.int .u8 48]) (yR F [] n (bT c [V.int .u8 48]) e f d b (aY .i64 a 1) K) none) (sel (fO c (aC d)) (K (V.out false (V.sl 5 [Kd.int .u8] (some 1000000000) (bT c (aC d))) [])) none):=by kernel_rfl
theorem Im (F s n) (K:V→Option V):
 gF uE (fK uE Xy F 2) F 50 [V.str s,V.int .i64 n] K=
 sel (aH n (aK s)) (sel (av (aH (aK s) 1000) (av (aH (aK [48,49,50,51,52,53,54,55,56,57]) 1000) true)) (K (V.bool (seq (Jb s [48,49,50,51,52,53,54,55,56,57]) []))) none) (K (V.bool false)):=by kernel_rfl
noncomputable def dF:=fun F u n r f h k j m v t e b d a c s o l i p q g K=>(jP uE VE F 2 16 [1,1,1,1,1,1,0,1,0] u K n (ny 51 [(0,V.agg [V.int .i64 r,V.int .i64 f,V.int .i64 h,V.int .i64 k,V.int .i64 j,V.int .i64 m]),(1,V.box 1 0),(2,V.str []),(3,V.sl 5 [Kd.int .u8] (some 3) v),(4,V.int .i64 t),(35,V.agg [V.int .i64 e,V.int .i64 b,V.int .i64 d,V.int .i64 a,V.int .i64 c]),(36,V.int .i64 s)] [(1,[V.int .i64 o,V.int .i64 l,V.int .i64 i,V.int .i64 p,V.int .i64 q,V.int .i64 g])]):Option V)
theorem NC (F y m d h i s) (K:V→Option V):
 gF uE (fK uE VE F 2) F 16 [V.agg [V.int .i64 y,V.int .i64 m,V.int .i64 d,V.int .i64 h,V.int .i64 i,V.int .i64 s]] K=
 let A:=bD .i64 0 y;let B:=[V.int .u8 45];let C:=av (aH 0 4) (aH 4 10);sel (aS (Cb y m d h i s)) (K (V.str [])) (sel (aZ y 0) (sel (fO [] B) (sel (av (av (aH (-1000000) A) (aH A 1000000)) (av C (aH (aQ (bT [] B)) 1000))) (dF F [] F y m d h i s (bT (bT [] B) (aC (bI A 4))) A m d h i s 0 y m d h i s K) none) none) (sel (av (av (aH (-1000000) y) (aH y 1000000)) (av C (aH (aQ []) 1000))) (dF F [] F y m d h i s (bT [] (aC (bI y 4))) y m d h i s 0 y m d h i s K) none)):=by kernel_rfl
theorem gW (F n s g i l k o u t e b d a c f p m j q r h K):
 dF F [] (n+1) s g i l k o u t e b d a c f p m j q r h K=
 let A:=[V.int .u8 (asInt (aN (bq [V.int .u8 45,V.int .u8 45,V.int .u8 84,V.int .u8 58,V.int .u8 58] f) 0))];let C:=av (aH 0 f) (aZ f 5);let D:=aY .i64 f 1;let E:=bT u A;let G:=fO u A;let B:=av (av (aH 0 2) (aH 2 10)) (aH (aQ E) 1000);sel (aZ f 5) (sel (ieq f 0) (sel C (sel G (sel (av (av (aH (-1000000) e) (aH e 1000000)) B) (dF F [] n s g i l k o (bT E (aC (bI e 2))) t e b d a c D p m j q r h K) none) none) none) (sel (ieq f 1) (sel C (sel G (sel (av (av (aH (-1000000) b) (aH b 1000000)) B) (dF F [] n s g i l k o (bT E (aC (bI b 2))) t e b d a c D p m j q r h K) none) none) none) (sel (ieq f 2) (sel C (sel G (sel (av (av (aH (-1000000) d) (aH d 1000000)) B) (dF F [] n s g i l k o (bT E (aC (bI d 2))) t e b d a c D p m j q r h K) none) none) none) (sel (ieq f 3) (sel C (sel G (sel (av (av (aH (-1000000) a) (aH a 1000000)) B) (dF F [] n s g i l k o (bT E (aC (bI a 2))) t e b d a c D p m j q r h K) none) none) none) (sel (ieq f 4) (sel C (sel G (sel (av (av (aH (-1000000) c) (aH c 1000000)) B) (dF F [] n s g i l k o (bT E (aC (bI c 2))) t e b d a c D p m j q r h K) none) none) none) none))))) (K (V.str (eF u))):=by kernel_rfl
noncomputable def pP:=fun F d n a b h e g c f K=>(jP uE VE F 4 51 [1,1,1,1,1,1,0,1,0] d K n (ny 64 [(0,V.str a),(2,V.int .i64 0),(3,V.int .i64 0),(4,V.str b),(5,V.bool h),(6,V.int .i64 e),(7,V.int .i64 g),(8,V.int .i64 c),(9,V.int .i64 f)] []):Option V)
theorem ND (F s) (K:V→Option V):
 gF uE (fK uE VE F 4) F 51 [V.str s] K=
 let D:=K (V.tup [V.int .i64 0,V.int .i64 4]);let E:=OA s [45];let I:=K (V.tup [V.int .i64 0,V.int .i64 1]);let C:=aK E;let H:=imax (bD .i64 C 5) 0;let B:=dN E H C;let G:=fw [49] B;let A:=sel (seq s [45,48,48,48,48]) D (sel (av (aH 0 H) (aH H C)) (sel (jC [49] B) (sel (aH (aK G) 1000) (sel (aS (ieq (nrW G) 0)) I (sel (aZ 5 C) I (pP F [] F s E (SI s [45]) (Sm G) (nrW G) (Sm G) 1 K))) none) none) none);sel (aH (aK s) 1000) (sel (aH C 1000) (sel (aS (Fq E 4)) D (sel (aZ 4 C) (sel (av (aH 0 0) (aZ 0 C)) (sel (ieq (sat E 0) 48) D A) none) A)) none) none:=by kernel_rfl
theorem cO (F n d e c f g a b K):
 pP F [] (n+1) d e c f g a b K=
 let A:=iB .i64 b 10;let B:=bD .i64 a b;sel (aZ a A) (sel c (K (V.tup [V.int .i64 (bD .i64 0 B),V.int .i64 0])) (K (V.tup [V.int .i64 B,V.int .i64 0]))) (pP F [] n d e c f g a A K):=by kernel_rfl
noncomputable def dV:=fun F p n m q o r l f b e c i j h a k g d K=>(jP uE Z0 F 2 34 [1,1,1,1,1,0,1,0] p K n (ny 81 [(0,V.str m),(2,V.box 2 0),(3,V.int .i64 q),(4,V.int .i64 o),(5,V.box 5 0),(6,V.str r),(9,V.tup []),(10,V.tup []),(11,V.tup []),(21,V.agg [V.int .u8 45,V.int .u8 45,V.int .u8 84,V.int .u8 58,V.int .u8 58]),(22,V.int .i64 l)] [(5,[V.int .i64 f,V.int .i64 b,V.int .i64 e,V.int .i64 c,V.int .i64 i]),(2,[V.int .i64 j,V.int .i64 h,V.int .i64 a,V.int .i64 k,V.int .i64 g,V.int .i64 d])]):Option V)
theorem NE (F s) (K:V→Option V):
 gF uE (fK uE Z0 F 2) F 34 [V.str s] K=
 let A:=bD .i64 (aK s) 15;let B:=V.int .i64 0;sel (aZ A 0) (K (V.tup [V.agg [B,B,B,B,B,B],V.int .i64 4])) (sel (av (aH 0 A) (aH A (aK s))) (dV F [] F s 0 A (dN s A (aK s)) 0 0 0 0 0 0 0 0 0 0 0 0 K) none):=by kernel_rfl
theorem gX (F n p q o m a b c e d f l k g j i h K):
 dV F [] (n+1) p q o m a b c e d f l k g j i h K=
 let C:=aY .i64 (iB .i64 (gP .i64 (bD .u8 (sat m 1) 48)) 10) (gP .i64 (bD .u8 (sat m 2) 48));let D:=av (aH 0 3) (aH 3 (aK m));let G:=av (aH 0 0) (aZ 0 (aK m));let H:=dN m 3 (aK m);let I:=V.int .i64 0;let J:=aY .i64 a 1;let L:=dN p 0 o;let O:=sat m 0;let B:=V.agg [I,I,I,I,I,I];let E:=K (V.tup [B,V.int .i64 4]);let A:=sel (av D (av (aH 0 1) (aH 1 3))) (sel (aH (aK (dN m 1 3)) 1000) (sel (aS (Fq (dN m 1 3) 2)) E (sel (av (aH 0 1) (aZ 1 (aK m))) (sel (av (aH 0 2) (aZ 2 (aK m))) (sel (ieq a 0) (sel D (dV F [] n p q o H J C c e d f l k g j i h K) none) (sel (ieq a 1) (sel D (dV F [] n p q o H J b C e d f l k g j i h K) none) (sel (ieq a 2) (sel D (dV F [] n p q o H J b c C d f l k g j i h K) none) (sel (ieq a 3) (sel D (dV F [] n p q o H J b c e C f l k g j i h K) none) (sel (ieq a 4) (sel D (dV F [] n p q o H J b c e d C l k g j i h K) none) none))))) none) none)) none) (none);let M:=sel G (sel (aS (ieq O 45)) E A) (none);let N:=sel G (sel (aS (ieq O 58)) E A) (none);sel (aZ a 5) (sel (ieq a 0) M (sel (ieq a 1) M (sel (ieq a 2) (sel G (sel (aS (ieq O 84)) E A) none) (sel (ieq a 3) N (sel (ieq a 4) N none))))) (sel (av (aH 0 o) (aH o (aK p))) (sel (aH (aK L) 1000) (sel (aS (ieq (Sq L) 0)) (K (V.tup [B,V.int .i64 (Sq L)])) (sel (aS (Cb (Sn L) b c e d f)) (K (V.tup [B,V.int .i64 1])) (K (V.tup [V.agg [V.int .i64 (Sn L),V.int .i64 b,V.int .i64 c,V.int .i64 e,V.int .i64 d,V.int .i64 f],I])))) none) none):=by kernel_rfl
theorem FN:oU uE:=⟨by kernel_rfl,by kernel_rfl⟩
theorem toU {f:Nat} {args:af} {r:V} (h:ak vE f args r):ak uE f args r:=ak.env (E:=vE) rfl (fun n v h=>by cases h) h
theorem YD {f:Nat} {args:af} {r:V} (h:ak nE f args r):ak uE f args r:=ak.env (E:=nE) rfl (fun n v h=>by cases h) h
theorem FP {s:ah} (h:aH (aK s) 1000=true):s.length≤1000:=by rw[ax,aA] at h;omega
theorem QL (s p:ah) (f:aH (aK s) 1000=true):ak uE 64 [.str s,.str p] (.tup [.str (OA s p),.bool (SI s p)]):=by
 refine fJ fun G w vs d c b=>?_
 obtain⟨x,y,rfl,hx,a⟩:=rO b;unfold aJ at hx a;subst hx;subst a;refine(Go.Proofs.Tryd.strings_CutPrefix ⟨s.toArray⟩ ⟨p.toArray⟩ w).mono ?_;rintro e w' ⟨rfl,rfl⟩;exact⟨_,rfl,Below.refl _ _,Lc (Qv _) (Nj _)⟩
theorem NF (m:Int) (a:av (aH (-9223372036854775808) m) (aH m 9223372036854775807)=true):ak uE 42 [.int .i64 m] (.str (text m)):=YD (Qy m (TR a))
theorem JZ (y m d h i s:Int) (a:true=true):ak uE 28 [.agg [.int .i64 y,.int .i64 m,.int .i64 d,.int .i64 h,.int .i64 i,.int .i64 s]] (.bool (Cb y m d h i s)):=toU (Bi y m d h i s)
theorem NG (s c:ah) (i:av (aH (aK s) 1000) (av (aH (aK c) 1000) (Ll c))=true):ak uE 63 [.str s,.str c] (.str (Jb s c)):=by
 obtain⟨g,h3⟩:=aR i;obtain⟨d,h3⟩:=aR h3;have g:=FP g;have d:=FP d;refine fJ fun G w vs l k h=>?_
 obtain⟨x,y,rfl,hx,f⟩:=rO h;unfold aJ at hx f;subst hx;subst f;refine(Go.Proofs.Tryd.uR ⟨s.toArray⟩ ⟨c.toArray⟩ w (show s.toArray.size≤_ by simp;omega) (show c.toArray.size<_ by simp;omega) (fun j b a=>?_)).mono ?_
 ·have h3:(c.all fun c=>decide (c.toNat<128))=true:=h3
  have:=List.all_eq_true.1 h3 b (Bz a);exact B5 this
 ·rintro e w' ⟨rfl,a⟩
  exact⟨_,rfl,a,La _⟩
theorem NH (s:ah) (a:aH (aK s) 1000=true):ak uE 65 [.str s] (.tup [.int .i64 (Sm s),.int .i64 (nrW s)]):=YD (TJ s (FP a))
theorem Jc:dP uE Xy:=by
 unfold Xy;refine dP.cons (fun args r h=>?_) (dP.cons (fun args r h=>?_) (dP.cons (fun args r h=>?_) (dP.cons (fun args r h=>?_) (dP.cons (fun args r h=>?_) dP.nil))));all_goals (revert h;intro h;first|unfold Vj at h|unfold Pz at h|unfold Lm at h|unfold PD at h|unfold PE at h)
 all_goals (split at h;rotate_left; · cases h)
 all_goals (simp only[aF,bP] at h;obtain⟨a,rfl⟩:=h)
 ·exact QL _ _ a
 ·exact NF _ a
 ·exact JZ _ _ _ _ _ _ rfl
 ·exact NG _ _ a
 ·exact NH _ a
theorem fF (l:ah):(aC l).length=l.length:=by unfold aC;rw[vk]
theorem QM (F:Nat) (x k p:Int) (t:ah) (e:p≤10) (f:t.length≤30): ∀(n:Nat) (i:Int) (L:af),0≤i→p≤i+n→L.length+(p-i).toNat≤2000→
  yR F [] (n+1) L x k t p i some=some (.out false (.sl 5 [.int .u8] (some 1000000000) (bT L (aC (List.replicate (p-i).toNat 48++t)))) []):=by
 intro n;induction n with
 |zero=>
  intro i L b d a;rw[uS,aD (bC (by omega)),ai (by rw[dH,fF];omega),show(p-i).toNat=0 by omega];rfl
 |succ n c=>
  intro i L b d a;rw[uS];by_cases h:i<p
  ·rw[ai (bV h),ai (by rw[dH];simp only[iy,o5];omega),bQ (by omega)]
   rw[c (i+1) _ (by omega) (by omega) (by unfold bT;rw[nY];simp only[iy,o5];omega)];rw[show(p-i).toNat=(p-(i+1)).toNat+1 by omega,acC];unfold bT aC;simp
  ·rw[aD (bC (by omega)),ai (by rw[dH,fF];omega),show(p-i).toNat=0 by omega]
   rfl
theorem QN (L:af) (n k:Int) (a:av (av (aH (-1000000) n) (aH n 1000000)) (av (av (aH 0 k) (aH k 10)) (aH (aQ L) 1000))=true):qb uE 29 [.sl 5 [.int .u8] (some 1000001000) L,.int .i64 n,.int .i64 k] (.out false (.sl 5 [.int .u8] (some 1000000000) (bT L (aC (bI n k)))) []):=by
 simp only[ay,ax,aM] at a;refine qb.out (l7 FN Jc 12 2 ?_);have b:=(Gi n (by unfold Fits;omega)).1;rw[QK,ai (by rw[ay,ax,ax];omega),aA,eU (by omega)];rw[QM 12 n k (k-(text n).length) (text n) (by omega) (by omega) 11 0 L (by omega) (by omega) (by omega)];unfold bI;rw[show(k-((text n).length:Int)-0).toNat=k.toNat-(text n).length by omega]
theorem QO (s:ah) (n:Int) (a:aH (aK s) 1000=true):ak uE 50 [.str s,.int .i64 n] (.bool (Fq s n)):=by
 refine aG FN Jc 5 2 ?_;rw[Im,a];unfold Fq;by_cases h:n≤(s.length:Int)
 ·rw[ai (fU (by rw[aA];exact h)),ai (by decide),DD h]
  congr 2
  rw[On,Kc,tO];exact xV s
 ·rw[aD (FM (by rw[aA];omega)),yI h];rfl
theorem Jd:dP uE VE:=by
 unfold VE;refine dP.zC (fun args r h=>?_) (dP.cons (fun args r h=>?_) Jc);all_goals (revert h;intro h;first|unfold Vk at h|unfold Vl at h)
 all_goals (split at h;rotate_left; · cases h)
 all_goals (simp only[aF,bP] at h;obtain⟨a,rfl⟩:=h)
 ·exact QN _ _ _ a
 ·exact QO _ _ a
theorem nL (l w:ah) (c:UInt8):bT (bT (aC l) [V.int .u8 (c.toNat:Int)]) (aC w)=aC (l++c::w):=by
 unfold bT aC;simp
theorem EZ (l:ah):eF (aC l)=l:=by
 unfold eF aC;rw[RQ];conv=>rhs;rw[←ZO l]
 refine R8 fun c _=>?_
 show UInt8.ofNat ((c.toNat:Int).toNat)=c;rw[Md];simp
theorem QR (F n:Nat) (k o p q a r x m d h i s b0 b f j g c:Int) (l:ah) (K:V→Option V) (hl:l.length≤900) (hx:0≤m∧m≤1000):
  dF F [] (n+1) k o p q a r (aC l) x m d h i s 0 b0 b f j g c K=dF F [] n k o p q a r (aC (l++45::bI m 2)) x m d h i s 1 b0 b f j g c K:=by
 have e:asInt (aN (bq [V.int .u8 45,V.int .u8 45,V.int .u8 84,V.int .u8 58,V.int .u8 58] 0) 0)=((45:UInt8).toNat:Int):=rfl;have t:=dB m 2 (by omega) (by omega)
 (rw[gW];(conv=>zeta);rw[ai (bV (by decide)),ai (cZ rfl),e,nL])
 rw[ai (by rw[ay,ax,aU];decide),ai (by rw[dH,fF];simp only[iy,o5];omega)];rw[ai (by simp only[ay,ax,aM];unfold bT;rw[nY,fF];simp only[iy,o5];omega)];rfl
theorem QS (F n:Nat) (k o p q a r x m d h i s b0 b f j g c:Int) (l:ah) (K:V→Option V) (hl:l.length≤900) (hx:0≤d∧d≤1000):
  dF F [] (n+1) k o p q a r (aC l) x m d h i s 1 b0 b f j g c K=dF F [] n k o p q a r (aC (l++45::bI d 2)) x m d h i s 2 b0 b f j g c K:=by
 have e:asInt (aN (bq [V.int .u8 45,V.int .u8 45,V.int .u8 84,V.int .u8 58,V.int .u8 58] 1) 0)=((45:UInt8).toNat:Int):=rfl;have t:=dB d 2 (by omega) (by omega)
 (rw[gW];(conv=>zeta);rw[ai (bV (by decide)),aD (bJ (by decide)),ai (cZ rfl),e,nL])
 rw[ai (by rw[ay,ax,aU];decide),ai (by rw[dH,fF];simp only[iy,o5];omega)];rw[ai (by simp only[ay,ax,aM];unfold bT;rw[nY,fF];simp only[iy,o5];omega)];rfl
theorem QT (F n:Nat) (k o p q a r x m d h i s b0 b f j g c:Int) (l:ah) (K:V→Option V) (hl:l.length≤900) (hx:0≤h∧h≤1000):
  dF F [] (n+1) k o p q a r (aC l) x m d h i s 2 b0 b f j g c K=dF F [] n k o p q a r (aC (l++84::bI h 2)) x m d h i s 3 b0 b f j g c K:=by
 have e:asInt (aN (bq [V.int .u8 45,V.int .u8 45,V.int .u8 84,V.int .u8 58,V.int .u8 58] 2) 0)=((84:UInt8).toNat:Int):=rfl;have t:=dB h 2 (by omega) (by omega)
 (rw[gW];(conv=>zeta);rw[ai (bV (by decide)),aD (bJ (by decide)),aD (bJ (by decide)),ai (cZ rfl),e,nL])
 rw[ai (by rw[ay,ax,aU];decide),ai (by rw[dH,fF];simp only[iy,o5];omega)];rw[ai (by simp only[ay,ax,aM];unfold bT;rw[nY,fF];simp only[iy,o5];omega)];rfl
theorem QU (F n:Nat) (k o p q a r x m d h i s b0 b f j g c:Int) (l:ah) (K:V→Option V) (hl:l.length≤900) (hx:0≤i∧i≤1000):
  dF F [] (n+1) k o p q a r (aC l) x m d h i s 3 b0 b f j g c K=dF F [] n k o p q a r (aC (l++58::bI i 2)) x m d h i s 4 b0 b f j g c K:=by
 have e:asInt (aN (bq [V.int .u8 45,V.int .u8 45,V.int .u8 84,V.int .u8 58,V.int .u8 58] 3) 0)=((58:UInt8).toNat:Int):=rfl;have t:=dB i 2 (by omega) (by omega)
 (rw[gW];(conv=>zeta);rw[ai (bV (by decide)),aD (bJ (by decide)),aD (bJ (by decide)),aD (bJ (by decide)),ai (cZ rfl),e,nL])
 rw[ai (by rw[ay,ax,aU];decide),ai (by rw[dH,fF];simp only[iy,o5];omega)];rw[ai (by simp only[ay,ax,aM];unfold bT;rw[nY,fF];simp only[iy,o5];omega)];rfl
theorem QV (F n:Nat) (k o p q a r x m d h i s b0 b f j g c:Int) (l:ah) (K:V→Option V) (hl:l.length≤900) (hx:0≤s∧s≤1000):
  dF F [] (n+1) k o p q a r (aC l) x m d h i s 4 b0 b f j g c K=dF F [] n k o p q a r (aC (l++58::bI s 2)) x m d h i s 5 b0 b f j g c K:=by
 have e:asInt (aN (bq [V.int .u8 45,V.int .u8 45,V.int .u8 84,V.int .u8 58,V.int .u8 58] 4) 0)=((58:UInt8).toNat:Int):=rfl;have t:=dB s 2 (by omega) (by omega)
 (rw[gW];(conv=>zeta);rw[ai (bV (by decide)),aD (bJ (by decide)),aD (bJ (by decide)),aD (bJ (by decide)),aD (bJ (by decide)),ai (cZ rfl),e,nL])
 rw[ai (by rw[ay,ax,aU];decide),ai (by rw[dH,fF];simp only[iy,o5];omega)];rw[ai (by simp only[ay,ax,aM];unfold bT;rw[nY,fF];simp only[iy,o5];omega)];rfl
theorem QW (y m d h i s:Int):ak uE 16 [.agg [.int .i64 y,.int .i64 m,.int .i64 d,.int .i64 h,.int .i64 i,.int .i64 s]] (.str (kC y m d h i s)):=by
 refine aG FN Jd 8 2 ?_
 (rw[NC];(conv=>zeta))
 unfold kC
 cases g:Cb y m d h i s with
 |false=>rfl
 |true=>
  obtain⟨j,u⟩:=qw.1 g;obtain⟨q,w,a⟩:=iL.1 j;have c:=jZ a;have n:1≤d∧d≤31:=⟨a.1,by have:=qp y m c.1 c.2;have:=a.2;omega⟩
  have z:=dB m 2 (by omega) (by omega);have t:=dB d 2 (by omega) (by omega);have p:=dB h 2 (by omega) (by omega);have o:=dB i 2 (by omega) (by omega);have r:=dB s 2 (by omega) (by omega);have v:=dB y 4 (by omega) (by omega);have k:=dB (-y) 4 (by omega) (by omega);have e:bD .i64 0 y= -y:=by rw[eU (by omega)];omega
  have f: ∀(x:Int) (l:ah),l.length≤100→dF 8 [] 8 y m d h i s (aC l) x m d h i s 0 y m d h i s some=some (.str (l++45::bI m 2++45::bI d 2++84::bI h 2++58::bI i 2++58::bI s 2)):=by
   intro x l hl;rw[QR (hl:=by omega) (hx:=by omega),QS (hl:=by simp only[nY,iy];omega) (hx:=by omega),QT (hl:=by simp only[nY,iy];omega) (hx:=by omega),QU (hl:=by simp only[nY,iy];omega) (hx:=by omega),QV (hl:=by simp only[nY,iy];omega) (hx:=by omega)]
   (rw[gW];(conv=>zeta);rw[aD (bC (by decide)),EZ])
  rw[aD (by rfl),if_pos rfl,e];by_cases b:y<0
  ·rw[ai (bV b),if_pos b,ai (by rw[dH];decide),ai (by simp only[ay,ax];refine⟨⟨by omega,by omega⟩,⟨by omega,by omega⟩,by decide⟩)]
   rw[show bT (bT [] [V.int .u8 45]) (aC (bI (-y) 4))=aC (45::bI (-y) 4) from nL [] _ 45];rw[f _ _ (by rw[iy];omega)]
  ·rw[aD (bC (by omega)),if_neg b,ai (by simp only[ay,ax];refine⟨⟨by omega,by omega⟩,⟨by omega,by omega⟩,by decide⟩)]
   rw[show bT [] (aC (bI y 4))=aC (bI y 4) from rfl];rw[f _ _ (by omega)]
def IP (p:Int×Int):V:=.tup [.int .i64 p.1,.int .i64 p.2]
def Z4 (s d:ah) (b:Bool):Int×Int:=if d.length<4∨d.all isDigit=false∨(4<d.length∧d.getD 0 0=48)∨s=[45,48,48,48,48] then(0,4) else if 5<d.length then(0,1) else(if b=true then -(val d:Int) else(val d:Int),0)
theorem PI (s:ah):Yd s=Z4 s (bare s) (minus s):=rfl
theorem NI {d:ah} (a:d.all isDigit=true) (hl:d.length≤5) (i:Nat):val (d.take i)<100000:=by
 have c:=Pk d i;have b:=Pm d a d.length;rw[RP] at b;have h3:10 ^ d.length≤10 ^ 5:=R7 (by decide) hl;omega
theorem Ar: ∀(d:ah) (n:Nat),d.foldl (fun n c=>10*n+(c.toNat-48)) n=n*10 ^ d.length+val d
 |[],n=>by show n=n*10 ^ 0+0;omega
 |c::t,n=>by
  have e:=Ar t (10*n+(c.toNat-48));have b:=Ar t (10*0+(c.toNat-48));have a:val (c::t)=t.foldl (fun n c=>10*n+(c.toNat-48)) (10*0+(c.toNat-48)):=rfl;rw[a,b];show t.foldl (fun n c=>10*n+(c.toNat-48)) (10*n+(c.toNat-48))=_;rw[e,iy,Se,vo,vo,Nat.mul_zero,ZL,Nat.mul_comm 10 n,Nat.mul_assoc,Nat.mul_comm 10 (10 ^ t.length)];omega
theorem val_one (d:ah):val (49::d)=10 ^ d.length+val d:=by
 show d.foldl (fun n c=>10*n+(c.toNat-48)) 1=_;rw[Ar,RS]
theorem QX (d:ah) (a:d.all isDigit=true) (hl:d.length≤5):Num.read (49::d)=(((10 ^ d.length+val d:Nat):Int),0):=by
 have c:=NI a hl d.length;rw[RP] at c;have h3:10 ^ d.length≤10 ^ 5:=R7 (by decide) hl;have g:0<10 ^ d.length:=XT (by decide);have f:minus (49::d)=false:=rfl;have b:bare (49::d)=49::d:=rfl;have e:good (49::d)=true:=by
  unfold good;rw[b,Me,a];rfl
 unfold Num.read;rw[e,if_pos rfl,f,b,val_one,if_neg (show¬false=true by decide)];unfold told;rw[if_pos (by unfold Fits;omega)]
theorem J2 (s d:ah) (b:Bool) (w0 q:Int) (v L:Nat) (hL:L=4∨L=5) (i:v<10 ^ L):
  pP 12 [] 12 s d b q w0 ((10 ^ L+v:Nat):Int) 1 some=some (IP (if b=true then -(v:Int) else(v:Int),0)):=by
 have m1:iB .i64 1 10=10:=jo (by decide);have c:iB .i64 10 10=100:=jo (by decide);have f:iB .i64 100 10=1000:=jo (by decide);have j:iB .i64 1000 10=10000:=jo (by decide);have g:iB .i64 10000 10=100000:=jo (by decide);have k:iB .i64 100000 10=1000000:=jo (by decide);rcases hL with h|h
 ·subst h
  have e:((10 ^ 4+v:Nat):Int)=10000+(v:Int):=by omega
  have i:(v:Int)<10000:=by omega
  rw[e]
  (rw[cO];(conv=>zeta);rw[m1,aD (bC (by omega)),cO];(conv=>zeta);rw[c,aD (bC (by omega)),cO];(conv=>zeta);rw[f,aD (bC (by omega)),cO];(conv=>zeta);rw[j,aD (bC (by omega)),cO];(conv=>zeta);rw[g,ai (bV (by omega)),eU (a:=10000+(v:Int)) (by omega),eU (by omega)])
  cases b
  ·rw[aD rfl];unfold IP;rw[if_neg (by decide)];congr 4;omega
  ·rw[ai rfl];unfold IP;rw[if_pos rfl];congr 4;omega
 ·subst h
  have e:((10 ^ 5+v:Nat):Int)=100000+(v:Int):=by omega
  have i:(v:Int)<100000:=by omega
  rw[e]
  (rw[cO];(conv=>zeta);rw[m1,aD (bC (by omega)),cO];(conv=>zeta);rw[c,aD (bC (by omega)),cO];(conv=>zeta);rw[f,aD (bC (by omega)),cO];(conv=>zeta);rw[j,aD (bC (by omega)),cO];(conv=>zeta);rw[g,aD (bC (by omega)),cO];(conv=>zeta);rw[k,ai (bV (by omega)),eU (a:=100000+(v:Int)) (by omega),eU (by omega)])
  cases b
  ·rw[aD rfl];unfold IP;rw[if_neg (by decide)];congr 4;omega
  ·rw[ai rfl];unfold IP;rw[if_pos rfl];congr 4;omega
theorem NJ (s d:ah) (b:Bool) (hl:d.length≤1000) (a:d.all isDigit=true) (n:4≤d.length):
  sel (av (aH 0 (imax (bD .i64 (aK d) 5) 0)) (aH (imax (bD .i64 (aK d) 5) 0) (aK d)))
   (sel (jC [49] (dN d (imax (bD .i64 (aK d) 5) 0) (aK d)))
    (sel (aH (aK (fw [49] (dN d (imax (bD .i64 (aK d) 5) 0) (aK d)))) 1000)
     (sel (aS (ieq (nrW (fw [49] (dN d (imax (bD .i64 (aK d) 5) 0) (aK d)))) 0)) (some (V.tup [V.int .i64 0,V.int .i64 1]))
      (sel (aZ 5 (aK d)) (some (V.tup [V.int .i64 0,V.int .i64 1]))
       (pP 12 [] 12 s d b (Sm (fw [49] (dN d (imax (bD .i64 (aK d) 5) 0) (aK d)))) (nrW (fw [49] (dN d (imax (bD .i64 (aK d) 5) 0) (aK d)))) (Sm (fw [49] (dN d (imax (bD .i64 (aK d) 5) 0) (aK d)))) 1 some)))
     none)
    none)
   none=some (IP (if 5<d.length then(0,1) else(if b=true then -(val d:Int) else(val d:Int),0))):=by
 have h:imax (bD .i64 (aK d) 5) 0=((d.length-5:Nat):Int):=by
  rw[aA,eU (by omega)];unfold imax;omega
 rw[h,aA,kI];have l:((d.drop (d.length-5)).take (d.length-(d.length-5))).length≤5:=by rw[B6];omega
 generalize m:(d.drop (d.length-5)).take (d.length-(d.length-5))=z at l;have i:fw [49] z=49::z:=rfl;rw[i,ai (by rw[ay,ax,ax];omega),ai (by rw[Df];simp only[iy,o5];omega),ai (fU (by rw[aA,iy];omega))];by_cases f:5<d.length
 ·rw[if_pos f,ai (c:=aZ 5 _) (bV (by omega))]
  cases aS (ieq (nrW (49::z)) 0)<;>rfl
 ·have j:z=d:=by rw[←m,show d.length-5=0 by omega,Om,UQ,RP]
  rw[j];have e:=QX d a (by omega);have k:Sm (49::d)=((10 ^ d.length+val d:Nat):Int):=by unfold Sm;rw[e]
  have g:nrW (49::d)=0:=by unfold nrW;rw[e]
  rw[k,g,aD (by rfl),aD (bC (by omega)),if_neg f];refine J2 s d b 0 _ (val d) d.length (by omega) ?_;have:=Pm d a d.length;rw[RP] at this;exact this
theorem QY (s:ah) (o:s.length≤1000):ak uE 51 [.str s] (IP (Yd s)):=by
 refine aG FN Jd 12 4 ?_;have n:=Ap s;have k:SI s [45]=minus s:=kT s;have m:OA s [45]=bare s:=by unfold OA Lib.trimPrefix bare;rw[show Lib.hasPrefix s [45]=minus s from kT s];rfl
 (rw[ND];(conv=>zeta);rw[PI,k,m,ai (fU (by rw[aA];omega)),ai (fU (by rw[aA];omega))])
 generalize minus s=b;generalize bare s=d at*;have hl:d.length≤1000:=by omega
 have j:Fq d 4=(decide (4≤d.length)&&d.all isDigit):=by
  unfold Fq;congr 1
  rw[Kc,Ka,Ka];omega
 rw[j];unfold Z4;by_cases g:d.length<4
 ·rw[yI (by omega),ai (by rfl),if_pos (.inl g)];rfl
 rw[DD (by omega)]
 cases l:d.all isDigit with
 |false=>rw[ai (by rfl),if_pos (.inr (.inl rfl))];rfl
 |true=>
  rw[aD (c:=aS (true&&true)) (by rfl)];rw[NJ s d b hl l (by omega)];generalize (if 5<d.length then((0:Int),(1:Int)) else(if b=true then -(val d:Int) else(val d:Int),0))=q;by_cases a:s=[45,48,48,48,48]
  ·have e:seq s [45,48,48,48,48]=true:=by rw[tO];exact a
   rw[e,if_pos (.inr (.inr (.inr a)))];simp only[oh,Tw,if_true];repeat' split
   all_goals first|rfl|(exfalso;simp only[ay,ax,aU,aA] at*;omega)
  ·have e:seq s [45,48,48,48,48]=false:=by
    cases h:seq s [45,48,48,48,48] with
    |false=>rfl
    |true=>rw[tO] at h;exact absurd h a
   rw[e,aD rfl];by_cases i:4<d.length
   ·rw[ai (bV (by rw[aA];omega)),ai (by rw[ay,ax,aU,aA];omega)]
    by_cases f:d.getD 0 0=48
    ·rw[ai (cZ (by rw[show(0:Int)=((0:Nat):Int) from rfl,K7,f];rfl)),if_pos (.inr (.inr (.inl ⟨i,f⟩)))];rfl
    ·rw[aD (bJ (by
      rw[show(0:Int)=((0:Nat):Int) from rfl,K7];intro h;exact f (UInt8.toNat_inj.1 (by show _=48;omega))))]
     rw[if_neg (by
        rintro(h|h|⟨_,h⟩|h); · exact g h
        ·cases h
        ·exact f h
        ·exact a h)]
   ·rw[aD (bC (by rw[aA];omega))]
    rw[if_neg (by
       rintro(h|h|⟨h,_⟩|h); · exact g h
       ·cases h
       ·exact i h
       ·exact a h)]
theorem NK (s:ah) (a:aH (aK s) 1000=true):ak uE 51 [.str s] (.tup [.int .i64 (Sn s),.int .i64 (Sq s)]):=QY s (FP a)
theorem WM:dP uE Z0:=by
 unfold Z0;refine dP.cons (fun args r h=>?_) Jd;all_goals (revert h;intro h;first|unfold PG at h)
 all_goals (split at h;rotate_left; · cases h)
 all_goals (simp only[aF,bP] at h;obtain⟨a,rfl⟩:=h)
 ·exact NK _ a
def mr (x:ah) (c:UInt8):Bool:=(x.getD 0 0==c)&&(isDigit (x.getD 1 0)&&isDigit (x.getD 2 0))
def qH (x:ah):Int:=Kz (x.drop 1)
def sgnL:ah:=[45,45,84,58,58]
def rC (t:ah) (i:Nat):Bool:=mr (t.drop (3*i)) (sgnL.getD i 0)
def kM (t:ah) (i:Nat):Int:=qH (t.drop (3*i))
def V8 (t:ah):Bool:=rC t 0&&(rC t 1&&(rC t 2&&(rC t 3&&rC t 4)))
def z6:List Int:=[0,0,0,0,0,0]
def Z5 (y t:ah):List Int×Int:=
 if V8 t=true then(if Sq y=0 then(if Cb (Sn y) (kM t 0) (kM t 1) (kM t 2) (kM t 3) (kM t 4)=true then([Sn y,kM t 0,kM t 1,kM t 2,kM t 3,kM t 4],0) else(z6,1)) else(z6,Sq y)) else(z6,4)
def Sr (s:ah):List Int×Int:=if s.length<15 then(z6,4) else Z5 (s.take (s.length-15)) (s.drop (s.length-15))
theorem three {x:ah} (h:3≤x.length): ∃a b c r,x=a::b::c::r:=by
 match x,h with
 |a::b::c::r,_=>exact⟨a,b,c,r,rfl⟩
theorem zU (a:UInt8) (n:Nat) (b:n<256):ieq (a.toNat:Int) (n:Int)=(a==UInt8.ofNat n):=by
 rw[Kc,oz,fT];constructor
 ·intro h
  apply UInt8.toNat_inj.1
  rw[acH];omega
 ·intro h
  rw[h,acH];omega
set_option maxRecDepth 10000 in
theorem QZ (F n:Nat) (s x:ah) (x3 x4 b0 b1 b2 b3 b4 e0 e1 e2 e3 e4 e5:Int) (K:V→Option V) (h3:3≤x.length) (hl:x.length≤1000):
  dV F [] (n+1) s x3 x4 x 0 b0 b1 b2 b3 b4 e0 e1 e2 e3 e4 e5 K=if mr x 45=true then dV F [] n s x3 x4 (x.drop 3) 1 (qH x) b1 b2 b3 b4 e0 e1 e2 e3 e4 e5 K else K (V.tup [V.agg [V.int .i64 0,V.int .i64 0,V.int .i64 0,V.int .i64 0,V.int .i64 0,V.int .i64 0],V.int .i64 4]):=by
 obtain⟨a,b,c,r,rfl⟩:=three h3;have g0:sat (a::b::c::r) 0=(a.toNat:Int):=rfl;have g1:dN (a::b::c::r) 1 3=[b,c]:=rfl;have g3:dN (a::b::c::r) 3 (aK (a::b::c::r))=r:=by
  rw[aA,show(3:Int)=((3:Nat):Int) from rfl,kI];simp
 have g4:aY .i64 0 1=1:=bQ (by decide);have g5:Fq [b,c] 2=(isDigit b&&isDigit c):=by unfold Fq;simp
 have f3:av (aH 0 0) (aZ 0 (aK (a::b::c::r)))=true:=by rw[ay,ax,aU,aA];omega
 have f5:av (av (aH 0 3) (aH 3 (aK (a::b::c::r)))) (av (aH 0 1) (aH 1 3))=true:=by simp only[ay,ax,aA];omega
 have f8:av (aH 0 1) (aZ 1 (aK (a::b::c::r)))=true:=by rw[ay,ax,aU,aA];omega
 have f9:av (aH 0 2) (aZ 2 (aK (a::b::c::r)))=true:=by rw[ay,ax,aU,aA];omega
 have f10:av (aH 0 3) (aH 3 (aK (a::b::c::r)))=true:=by rw[ay,ax,ax,aA];omega
 have hv:qH (a::b::c::r)=aY .i64 (iB .i64 (gP .i64 (bD .u8 (sat (a::b::c::r) 1) 48)) 10) (gP .i64 (bD .u8 (sat (a::b::c::r) 2) 48)):=rfl;have hr:mr (a::b::c::r) 45=((a==45)&&(isDigit b&&isDigit c)):=rfl
 (rw[gX];(conv=>zeta);rw[ai (bV (by decide)),ai (cZ rfl),ai f3,g0,show ieq (a.toNat:Int) 45=(a==45) from zU a 45 (by decide),ai f5,g1,ai (c:=aH (aK [b,c]) 1000) (fU (by rw[aA,iy,iy,o5];decide)),g5,ai f8,ai f9,ai (cZ rfl),ai f10,g3,g4,←hv,hr])
 cases(a==45)<;>cases(isDigit b&&isDigit c)<;>rfl
set_option maxRecDepth 10000 in
theorem Q0 (F n:Nat) (s x:ah) (x3 x4 b0 b1 b2 b3 b4 e0 e1 e2 e3 e4 e5:Int) (K:V→Option V) (h3:3≤x.length) (hl:x.length≤1000):
  dV F [] (n+1) s x3 x4 x 1 b0 b1 b2 b3 b4 e0 e1 e2 e3 e4 e5 K=if mr x 45=true then dV F [] n s x3 x4 (x.drop 3) 2 b0 (qH x) b2 b3 b4 e0 e1 e2 e3 e4 e5 K else K (V.tup [V.agg [V.int .i64 0,V.int .i64 0,V.int .i64 0,V.int .i64 0,V.int .i64 0,V.int .i64 0],V.int .i64 4]):=by
 obtain⟨a,b,c,r,rfl⟩:=three h3;have g0:sat (a::b::c::r) 0=(a.toNat:Int):=rfl;have g1:dN (a::b::c::r) 1 3=[b,c]:=rfl;have g3:dN (a::b::c::r) 3 (aK (a::b::c::r))=r:=by
  rw[aA,show(3:Int)=((3:Nat):Int) from rfl,kI];simp
 have g4:aY .i64 1 1=2:=bQ (by decide);have g5:Fq [b,c] 2=(isDigit b&&isDigit c):=by unfold Fq;simp
 have f3:av (aH 0 0) (aZ 0 (aK (a::b::c::r)))=true:=by rw[ay,ax,aU,aA];omega
 have f5:av (av (aH 0 3) (aH 3 (aK (a::b::c::r)))) (av (aH 0 1) (aH 1 3))=true:=by simp only[ay,ax,aA];omega
 have f8:av (aH 0 1) (aZ 1 (aK (a::b::c::r)))=true:=by rw[ay,ax,aU,aA];omega
 have f9:av (aH 0 2) (aZ 2 (aK (a::b::c::r)))=true:=by rw[ay,ax,aU,aA];omega
 have f10:av (aH 0 3) (aH 3 (aK (a::b::c::r)))=true:=by rw[ay,ax,ax,aA];omega
 have hv:qH (a::b::c::r)=aY .i64 (iB .i64 (gP .i64 (bD .u8 (sat (a::b::c::r) 1) 48)) 10) (gP .i64 (bD .u8 (sat (a::b::c::r) 2) 48)):=rfl;have hr:mr (a::b::c::r) 45=((a==45)&&(isDigit b&&isDigit c)):=rfl
 (rw[gX];(conv=>zeta);rw[ai (bV (by decide)),aD (bJ (by decide)),ai (cZ rfl),ai f3,g0,show ieq (a.toNat:Int) 45=(a==45) from zU a 45 (by decide),ai f5,g1,ai (c:=aH (aK [b,c]) 1000) (fU (by rw[aA,iy,iy,o5];decide)),g5,ai f8,ai f9,aD (bJ (by decide)),ai (cZ rfl),ai f10,g3,g4,←hv,hr])
 cases(a==45)<;>cases(isDigit b&&isDigit c)<;>rfl
set_option maxRecDepth 10000 in
theorem Q5 (F n:Nat) (s x:ah) (x3 x4 b0 b1 b2 b3 b4 e0 e1 e2 e3 e4 e5:Int) (K:V→Option V) (h3:3≤x.length) (hl:x.length≤1000):
  dV F [] (n+1) s x3 x4 x 2 b0 b1 b2 b3 b4 e0 e1 e2 e3 e4 e5 K=if mr x 84=true then dV F [] n s x3 x4 (x.drop 3) 3 b0 b1 (qH x) b3 b4 e0 e1 e2 e3 e4 e5 K else K (V.tup [V.agg [V.int .i64 0,V.int .i64 0,V.int .i64 0,V.int .i64 0,V.int .i64 0,V.int .i64 0],V.int .i64 4]):=by
 obtain⟨a,b,c,r,rfl⟩:=three h3;have g0:sat (a::b::c::r) 0=(a.toNat:Int):=rfl;have g1:dN (a::b::c::r) 1 3=[b,c]:=rfl;have g3:dN (a::b::c::r) 3 (aK (a::b::c::r))=r:=by
  rw[aA,show(3:Int)=((3:Nat):Int) from rfl,kI];simp
 have g4:aY .i64 2 1=3:=bQ (by decide);have g5:Fq [b,c] 2=(isDigit b&&isDigit c):=by unfold Fq;simp
 have f3:av (aH 0 0) (aZ 0 (aK (a::b::c::r)))=true:=by rw[ay,ax,aU,aA];omega
 have f5:av (av (aH 0 3) (aH 3 (aK (a::b::c::r)))) (av (aH 0 1) (aH 1 3))=true:=by simp only[ay,ax,aA];omega
 have f8:av (aH 0 1) (aZ 1 (aK (a::b::c::r)))=true:=by rw[ay,ax,aU,aA];omega
 have f9:av (aH 0 2) (aZ 2 (aK (a::b::c::r)))=true:=by rw[ay,ax,aU,aA];omega
 have f10:av (aH 0 3) (aH 3 (aK (a::b::c::r)))=true:=by rw[ay,ax,ax,aA];omega
 have hv:qH (a::b::c::r)=aY .i64 (iB .i64 (gP .i64 (bD .u8 (sat (a::b::c::r) 1) 48)) 10) (gP .i64 (bD .u8 (sat (a::b::c::r) 2) 48)):=rfl;have hr:mr (a::b::c::r) 84=((a==84)&&(isDigit b&&isDigit c)):=rfl
 (rw[gX];(conv=>zeta);rw[ai (bV (by decide)),aD (bJ (by decide)),aD (bJ (by decide)),ai (cZ rfl),ai f3,g0,show ieq (a.toNat:Int) 84=(a==84) from zU a 84 (by decide),ai f5,g1,ai (c:=aH (aK [b,c]) 1000) (fU (by rw[aA,iy,iy,o5];decide)),g5,ai f8,ai f9,aD (bJ (by decide)),aD (bJ (by decide)),ai (cZ rfl),ai f10,g3,g4,←hv,hr])
 cases(a==84)<;>cases(isDigit b&&isDigit c)<;>rfl
set_option maxRecDepth 10000 in
theorem Q6 (F n:Nat) (s x:ah) (x3 x4 b0 b1 b2 b3 b4 e0 e1 e2 e3 e4 e5:Int) (K:V→Option V) (h3:3≤x.length) (hl:x.length≤1000):
  dV F [] (n+1) s x3 x4 x 3 b0 b1 b2 b3 b4 e0 e1 e2 e3 e4 e5 K=if mr x 58=true then dV F [] n s x3 x4 (x.drop 3) 4 b0 b1 b2 (qH x) b4 e0 e1 e2 e3 e4 e5 K else K (V.tup [V.agg [V.int .i64 0,V.int .i64 0,V.int .i64 0,V.int .i64 0,V.int .i64 0,V.int .i64 0],V.int .i64 4]):=by
 obtain⟨a,b,c,r,rfl⟩:=three h3;have g0:sat (a::b::c::r) 0=(a.toNat:Int):=rfl;have g1:dN (a::b::c::r) 1 3=[b,c]:=rfl;have g3:dN (a::b::c::r) 3 (aK (a::b::c::r))=r:=by
  rw[aA,show(3:Int)=((3:Nat):Int) from rfl,kI];simp
 have g4:aY .i64 3 1=4:=bQ (by decide);have g5:Fq [b,c] 2=(isDigit b&&isDigit c):=by unfold Fq;simp
 have f3:av (aH 0 0) (aZ 0 (aK (a::b::c::r)))=true:=by rw[ay,ax,aU,aA];omega
 have f5:av (av (aH 0 3) (aH 3 (aK (a::b::c::r)))) (av (aH 0 1) (aH 1 3))=true:=by simp only[ay,ax,aA];omega
 have f8:av (aH 0 1) (aZ 1 (aK (a::b::c::r)))=true:=by rw[ay,ax,aU,aA];omega
 have f9:av (aH 0 2) (aZ 2 (aK (a::b::c::r)))=true:=by rw[ay,ax,aU,aA];omega
 have f10:av (aH 0 3) (aH 3 (aK (a::b::c::r)))=true:=by rw[ay,ax,ax,aA];omega
 have hv:qH (a::b::c::r)=aY .i64 (iB .i64 (gP .i64 (bD .u8 (sat (a::b::c::r) 1) 48)) 10) (gP .i64 (bD .u8 (sat (a::b::c::r) 2) 48)):=rfl;have hr:mr (a::b::c::r) 58=((a==58)&&(isDigit b&&isDigit c)):=rfl
 (rw[gX];(conv=>zeta);rw[ai (bV (by decide)),aD (bJ (by decide)),aD (bJ (by decide)),aD (bJ (by decide)),ai (cZ rfl),ai f3,g0,show ieq (a.toNat:Int) 58=(a==58) from zU a 58 (by decide),ai f5,g1,ai (c:=aH (aK [b,c]) 1000) (fU (by rw[aA,iy,iy,o5];decide)),g5,ai f8,ai f9,aD (bJ (by decide)),aD (bJ (by decide)),aD (bJ (by decide)),ai (cZ rfl),ai f10,g3,g4,←hv,hr])
 cases(a==58)<;>cases(isDigit b&&isDigit c)<;>rfl
set_option maxRecDepth 10000 in
theorem Q7 (F n:Nat) (s x:ah) (x3 x4 b0 b1 b2 b3 b4 e0 e1 e2 e3 e4 e5:Int) (K:V→Option V) (h3:3≤x.length) (hl:x.length≤1000):
  dV F [] (n+1) s x3 x4 x 4 b0 b1 b2 b3 b4 e0 e1 e2 e3 e4 e5 K=if mr x 58=true then dV F [] n s x3 x4 (x.drop 3) 5 b0 b1 b2 b3 (qH x) e0 e1 e2 e3 e4 e5 K else K (V.tup [V.agg [V.int .i64 0,V.int .i64 0,V.int .i64 0,V.int .i64 0,V.int .i64 0,V.int .i64 0],V.int .i64 4]):=by
 obtain⟨a,b,c,r,rfl⟩:=three h3;have g0:sat (a::b::c::r) 0=(a.toNat:Int):=rfl;have g1:dN (a::b::c::r) 1 3=[b,c]:=rfl;have g3:dN (a::b::c::r) 3 (aK (a::b::c::r))=r:=by
  rw[aA,show(3:Int)=((3:Nat):Int) from rfl,kI];simp
 have g4:aY .i64 4 1=5:=bQ (by decide);have g5:Fq [b,c] 2=(isDigit b&&isDigit c):=by unfold Fq;simp
 have f3:av (aH 0 0) (aZ 0 (aK (a::b::c::r)))=true:=by rw[ay,ax,aU,aA];omega
 have f5:av (av (aH 0 3) (aH 3 (aK (a::b::c::r)))) (av (aH 0 1) (aH 1 3))=true:=by simp only[ay,ax,aA];omega
 have f8:av (aH 0 1) (aZ 1 (aK (a::b::c::r)))=true:=by rw[ay,ax,aU,aA];omega
 have f9:av (aH 0 2) (aZ 2 (aK (a::b::c::r)))=true:=by rw[ay,ax,aU,aA];omega
 have f10:av (aH 0 3) (aH 3 (aK (a::b::c::r)))=true:=by rw[ay,ax,ax,aA];omega
 have hv:qH (a::b::c::r)=aY .i64 (iB .i64 (gP .i64 (bD .u8 (sat (a::b::c::r) 1) 48)) 10) (gP .i64 (bD .u8 (sat (a::b::c::r) 2) 48)):=rfl;have hr:mr (a::b::c::r) 58=((a==58)&&(isDigit b&&isDigit c)):=rfl
 (rw[gX];(conv=>zeta);rw[ai (bV (by decide)),aD (bJ (by decide)),aD (bJ (by decide)),aD (bJ (by decide)),aD (bJ (by decide)),ai (cZ rfl),ai f3,g0,show ieq (a.toNat:Int) 58=(a==58) from zU a 58 (by decide),ai f5,g1,ai (c:=aH (aK [b,c]) 1000) (fU (by rw[aA,iy,iy,o5];decide)),g5,ai f8,ai f9,aD (bJ (by decide)),aD (bJ (by decide)),aD (bJ (by decide)),aD (bJ (by decide)),ai (cZ rfl),ai f10,g3,g4,←hv,hr])
 cases(a==58)<;>cases(isDigit b&&isDigit c)<;>rfl
theorem TS {s:ah} (h: ¬s.length<15):(s.drop (s.length-15)).length=15:=by rw[zk];omega
theorem Q8 (s:ah) (p:s.length≤1000):ak uE 34 [.str s] (IL (Sr s)):=by
 refine aG FN WM 8 2 ?_
 (rw[NE];(conv=>zeta);rw[aA,eU (by omega)])
 unfold Sr;by_cases h:s.length<15
 ·rw[ai (bV (by omega)),if_pos h];rfl
 have g:(s.length:Int)-15=((s.length-15:Nat):Int):=by omega
 rw[aD (bC (by omega)),ai (by rw[ay,ax,ax];omega),if_neg h,g,kI];have o:(s.drop (s.length-15)).take (s.length-(s.length-15))=s.drop (s.length-15):=by rw[J8 (by rw[zk];omega)]
 have hl:=TS h;rw[o];unfold Z5 V8;generalize s.drop (s.length-15)=t at*;have q:IL (z6,4)=(V.tup [V.agg [V.int .i64 0,V.int .i64 0,V.int .i64 0,V.int .i64 0,V.int .i64 0,V.int .i64 0],V.int .i64 4]):=rfl;rw[QZ (h3:=by omega) (hl:=by omega)];have b:rC t 0=mr t 45:=rfl;have l:kM t 0=qH t:=rfl;rw[←b,←l]
 cases rC t 0 with
 |false=>rw[if_neg (show¬false=true by decide),if_neg (by simp)];rfl
 |true=>
 rw[if_pos rfl,On,Q0 (h3:=by rw[zk];omega) (hl:=by rw[zk];omega)];have j:rC t 1=mr (t.drop 3) 45:=rfl;have k:kM t 1=qH (t.drop 3):=rfl;rw[←j,←k]
 cases rC t 1 with
 |false=>rw[if_neg (show¬false=true by decide),if_neg (by simp)];rfl
 |true=>
 rw[if_pos rfl,On,Q5 (h3:=by rw[zk,zk];omega) (hl:=by rw[zk,zk];omega),Ke];have n:rC t 2=mr (t.drop (3+3)) 84:=rfl;have e:kM t 2=qH (t.drop (3+3)):=rfl;rw[←n,←e]
 cases rC t 2 with
 |false=>rw[if_neg (show¬false=true by decide),if_neg (by simp)];rfl
 |true=>
 rw[if_pos rfl,On,Ke,Q6 (h3:=by rw[zk];omega) (hl:=by rw[zk];omega)];have m:rC t 3=mr (t.drop (3+3+3)) 58:=rfl;have d:kM t 3=qH (t.drop (3+3+3)):=rfl;rw[←m,←d]
 cases rC t 3 with
 |false=>rw[if_neg (show¬false=true by decide),if_neg (by simp)];rfl
 |true=>
 rw[if_pos rfl,On,Ke,Q7 (h3:=by rw[zk];omega) (hl:=by rw[zk];omega)];have c:rC t 4=mr (t.drop (3+3+3+3)) 58:=rfl;have f:kM t 4=qH (t.drop (3+3+3+3)):=rfl;rw[←c,←f]
 cases rC t 4 with
 |false=>rw[if_neg (show¬false=true by decide),if_neg (by simp)];rfl
 |true=>
 (rw[if_pos rfl,if_pos rfl,gX];(conv=>zeta);rw[aD (bC (by decide)),ai (by rw[ay,ax,ax,aA];omega)])
 have i:dN s 0 ((s.length-15:Nat):Int)=s.take (s.length-15):=by rw[show(0:Int)=((0:Nat):Int) from rfl,kI,Om,UQ]
 rw[i,ai (fU (by rw[aA,B6];omega))];generalize s.take (s.length-15)=y;by_cases a:Sq y=0
 ·rw[aD (by rw[cZ a];rfl),if_pos a]
  cases Cb (Sn y) (kM t 0) (kM t 1) (kM t 2) (kM t 3) (kM t 4)<;>rfl
 ·rw[ai (by rw[bJ a];rfl),if_neg a];rfl
theorem Lr: ∀(j:Nat) (l:ah),val (List.replicate j 48++l)=val l
 |0,_=>rfl
 |j+1,l=>by rw[acC];exact Lr j l
theorem Q9 (m:Nat):Num.text (m:Int)=mq m:=by
 unfold Num.text;rw[if_neg (by omega),Int.natAbs_natCast];rfl
theorem mR (n k m:Nat) (g:1≤k) (b:k≤m) (f:n<10 ^ m):(bI (n:Int) (k:Int)).all isDigit=true∧val (bI (n:Int) (k:Int))=n∧k≤(bI (n:Int) (k:Int)).length∧(bI (n:Int) (k:Int)).length≤m∧
  (k<(bI (n:Int) (k:Int)).length→1≤n→((bI (n:Int) (k:Int)).getD 0 0==48)=false):=by
 unfold bI;rw[Q9,Md];have d:=Am (n+1) n (by omega);have a:=Gl (n+1) n (by omega);have h3:=uq m n f (by omega);refine⟨?_,?_,?_,?_,?_⟩
 ·rw[acW,d.1,ac1]
  rw[jJ];intro x hx;rw[List.eq_of_mem_replicate hx];rfl
 ·rw[Lr,a]
 ·rw[nY,XJ];omega
 ·rw[nY,XJ];omega
 ·intro c e
  rw[nY,XJ] at c;rw[show k-(mq n).length=0 by omega];exact Di (n+1) n (by omega) e
def mZ (y:Int):ah:=if y<0 then 45::bI (-y) 4 else bI y 4
theorem NL:bI 0 4=[48,48,48,48]:=by decide
theorem NM {l:ah} (h:l.all isDigit=true):minus l=false:=by
 cases l with
 |nil=>rfl
 |cons c t=>
  rw[Me,bB] at h;show(c==45)=false
  cases a:c==45 with
  |false=>rfl
  |true=>
   rw[fT] at a;rw[a] at h;exact absurd h.1 (by decide)
theorem TT (y:Int) (h: -40000≤y∧y≤40000):Yd (mZ y)=(y,0):=by
 have d:=mR y.natAbs 4 5 (by decide) (by decide) (by omega);rw[PI];unfold mZ;have l:((4:Nat):Int)=4:=rfl;rw[l] at d;have m:bI (y.natAbs:Int) 4=[48,48,48,48]→y=0:=by
  intro f;have:=d.2.1;rw[f] at this;have e:val [48,48,48,48]=0:=by decide
  omega
 have j:4<(bI (y.natAbs:Int) 4).length→((bI (y.natAbs:Int) 4).getD 0 0==48)=false:=by
  intro a;by_cases c:y=0
  ·rw[c] at a
   rw[show((0:Int).natAbs:Int)=0 from rfl,NL] at a;exact absurd a (by decide)
  ·exact d.2.2.2.2 a (by omega)
 obtain⟨b,k,o,n,_⟩:=d;by_cases f:y<0
 ·rw[if_pos f,show -y=(y.natAbs:Int) by omega]
  generalize bI (y.natAbs:Int) 4=W at*;have g:minus (45::W)=true:=rfl;have i:bare (45::W)=W:=rfl;rw[g,i];unfold Z4;rw[if_neg,if_neg (by omega),if_pos rfl,k]
  ·congr 1;omega
  ·rintro(a|a|⟨a,c⟩|a)
   ·omega
   ·rw[b] at a;cases a
   ·have:=j a
    rw[c] at this;cases this
   ·have:=m (List.cons.inj a).2
    omega
 ·rw[if_neg f,show bI y 4=bI (y.natAbs:Int) 4 by rw[show((y.natAbs:Nat):Int)=y by omega]]
  generalize bI (y.natAbs:Int) 4=W at*;have g:=NM b;have i:bare W=W:=by unfold bare;rw[g];rfl
  rw[g,i];unfold Z4;rw[if_neg,if_neg (by omega),if_neg (by decide),k]
  ·congr 1;omega
  ·rintro(a|a|⟨a,c⟩|a)
   ·omega
   ·rw[b] at a;cases a
   ·have:=j a
    rw[c] at this;cases this
   ·rw[a] at b;cases b
theorem TU (b e:UInt8) (r:ah) (c:isDigit b=true) (a:isDigit e=true):Kz (b::e::r)=((val [b,e]:Nat):Int):=by
 unfold isDigit at c a;rw[bB,Ka,Ka] at c a;have d:sat (b::e::r) 0=(b.toNat:Int):=rfl;have g:sat (b::e::r) 1=(e.toNat:Int):=rfl;have f:val [b,e]=10*(10*0+(b.toNat-48))+(e.toNat-48):=rfl;unfold Kz;rw[d,g,f];simp(disch:=omega) only[WH,Ph,jo,bQ];omega
theorem ng (n:Int) (h:0≤n∧n<100): ∃b e,bI n 2=[b,e]∧isDigit b=true∧isDigit e=true∧ ∀r,Kz (b::e::r)=n:=by
 have d:=mR n.toNat 2 2 (by decide) (by decide) (by omega);rw[show((n.toNat:Nat):Int)=n by omega,show((2:Nat):Int)=2 from rfl] at d;obtain⟨a,c,h3,f,_⟩:=d;generalize bI n 2=W at*;match W,a,c,h3,f with
 |[b,e],a,c,_,_=>
  rw[Me,Me,bB,bB] at a;exact⟨b,e,rfl,a.1,a.2.1,fun r=>by rw[TU b e r a.1 a.2.1,c];omega⟩
theorem TV (y m d h i s:Int) (hB:Cb y m d h i s=true):Sr (kC y m d h i s)=([y,m,d,h,i,s],0):=by
 obtain⟨P,X⟩:=qw.1 hB;obtain⟨W,Z,a⟩:=iL.1 P;have B:=jZ a;have V:1≤d∧d≤31:=⟨a.1,by have:=qp y m B.1 B.2;have:=a.2;omega⟩
 obtain⟨m1,n,K,q,r,S⟩:=ng m (by omega);obtain⟨l,k,M,x,t,N⟩:=ng d (by omega);obtain⟨g,j,J,u,p,Q⟩:=ng h (by omega);obtain⟨f,i2,I,v,o,R⟩:=ng i (by omega);obtain⟨e,b,L,w,z,vs⟩:=ng s (by omega);have E:kC y m d h i s=mZ y++[45,m1,n,45,l,k,84,g,j,58,f,i2,58,e,b]:=by
  unfold kC mZ;rw[if_pos hB,K,M,J,I,L];simp
 have A:=TT y (by omega);rw[E];generalize mZ y=Y at*;generalize c:[45,m1,n,45,l,k,84,g,j,58,f,i2,58,e,b]=T;have hl:T.length=15:=by rw[←c];rfl
 unfold Sr;rw[nY,hl,if_neg (by omega),show Y.length+15-15=Y.length by omega,Sd,List.drop_left];unfold Z5;have F:V8 T=true:=by
  rw[←c];show(mr [45,m1,n,45,l,k,84,g,j,58,f,i2,58,e,b] 45&&(mr [45,l,k,84,g,j,58,f,i2,58,e,b] 45&&(mr [84,g,j,58,f,i2,58,e,b] 84&&(mr [58,f,i2,58,e,b] 58&&mr [58,e,b] 58))))=true;unfold mr;simp only[XN,ZC,q,r,x,t,u,p,v,o,w,z];rfl
 have H:kM T 0=m:=by rw[←c];exact S _
 have C:kM T 1=d:=by rw[←c];exact N _
 have O:kM T 2=h:=by rw[←c];exact Q _
 have G:kM T 3=i:=by rw[←c];exact R _
 have U:kM T 4=s:=by rw[←c];exact vs _
 have w0:Sq Y=0:=by unfold Sq;rw[A]
 have D:Sn Y=y:=by unfold Sn;rw[A]
 rw[if_pos F,if_pos w0,H,C,O,G,U,D,if_pos hB]
end Nt.Ev.YtcmockbdkppglaaDoor
