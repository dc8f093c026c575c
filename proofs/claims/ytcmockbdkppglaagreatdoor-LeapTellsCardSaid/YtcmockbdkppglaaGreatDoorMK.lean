/-
  Stamp: equations of functions, as the evaluator prints them. Stamps: Right, Secs, Of, Split, both sides.
-/
import Derived.Test.YtcmockbdkppglaaGreatDoorMI
set_option linter.all false
set_option maxRecDepth 100000
namespace Nt.Ev.YtcmockbdkppglaaGreatDoor
open Go Nt.Num Go.Proofs.YtcmockbdkppglaaGreatDoor
open Nt.Civil
def Yi (y m d:Int):Int:=(vC y m d).1
def ZR (y m d:Int):Int:=(vC y m d).2
def Yj (n:Int):Int:=(mH n).1
def Yk (n:Int):Int:=(mH n).2.1
def Yl (n:Int):Int:=(mH n).2.2.1
def QR (n:Int):Int:=(mH n).2.2.2
noncomputable def XK:aN:=fun a=>match a with|[.int .i64 a,.int .i64 b]=>some (au (au (aD (-9223372036854775808) a) (aD a 9223372036854775807)) (au (aU 0 b) (aD b 1000000)),.tup [.int .i64 (fq a b),.int .i64 (fr a b),.int .i64 0])|_=>none
noncomputable def XL:aN:=fun a=>match a with|[.int .i64 a,.int .i64 b]=>some (au (au (aD (-9223372036854775808) a) (aD a 9223372036854775807)) (au (aU 0 b) (aD b 1000000)),.tup [.int .i64 (fq a b),.int .i64 (fr a b),.int .i64 0])|_=>none
noncomputable def Gg:aN:=fun a=>match a with|[.agg [.int .i64 y,.int .i64 m,.int .i64 d]]=>some (true,.bool (dh y m d))|_=>none
noncomputable def KY:aN:=fun a=>match a with|[.agg [.int .i64 y,.int .i64 m,.int .i64 d]]=>some (true,.tup [.int .i64 (Yi y m d),.int .i64 (ZR y m d)])|_=>none
noncomputable def KZ:aN:=fun a=>match a with|[.int .i64 n]=>some (au (aD (-9223372036854775808) n) (aD n 9223372036854775807),.tup [.agg [.int .i64 (Yj n),.int .i64 (Yk n),.int .i64 (Yl n)],.int .i64 (QR n)])|_=>none
noncomputable def stS:List (Nat×aN):=(56,XK)::(64,XL)::(58,Gg)::(65,Gg)::(76,KY)::(81,KY)::(36,KZ)::(40,KZ)::[]
def xD (y m d h i s:Int):Bool:=dh y m d&&decide (0≤h∧h≤23∧0≤i∧i≤59∧0≤s∧s≤59)
noncomputable def Cm:aN:=fun a=>match a with|[.agg [.int .i64 y,.int .i64 m,.int .i64 d,.int .i64 h,.int .i64 i,.int .i64 s]]=>some (true,.bool (xD y m d h i s))|_=>none
noncomputable def Kz:List (Nat×aN):=(38,Cm)::(43,Cm)::stS
def dw (n k:Int):ah:=List.replicate (k.toNat-(Num.text n).length) 48++Num.text n
noncomputable def K3:aN:=fun a=>match a with|[.int .i64 n]=>some (au (aD (-9223372036854775808) n) (aD n 9223372036854775807),.str (text n))|_=>none
noncomputable def XM:aN:=fun a=>match a with|[.int .i64 n,.int .i64 k]=>some (au (au (aD (-1000000) n) (aD n 1000000)) (au (aD 0 k) (aD k 10)),.str (dw n k))|_=>none
noncomputable def Q6:List (Nat×aN):=(61,K3)::(66,K3)::Kz
noncomputable def Vr:List (Nat×aN):=(44,XM)::Q6
def zY (s:ah):Bool:=Ay s
noncomputable def XN:aN:=fun a=>match a with|[.str s]=>some (aD (aF s) 1000,.bool (zY s))|_=>none
noncomputable def Q7:List (Nat×aN):=(78,XN)::Vr
theorem J6 (F y m d h i s) (K:V→Option V):
 dn vE (cu vE stS F 2) F 38 [V.agg [V.int .i64 y,V.int .i64 m,V.int .i64 d,V.int .i64 h,V.int .i64 i,V.int .i64 s]] K=
 let A:=K (V.bool false);sel (dh y m d) (sel (aD 0 h) (sel (aU h 24) (sel (aD 0 i) (sel (aU i 60) (sel (aD 0 s) (K (V.bool (aU s 60))) A) A) A) A) A) A:=by kernel_rfl
theorem J7 (F y m d h i s) (K:V→Option V):
 dn vE (cu vE stS F 2) F 43 [V.agg [V.int .i64 y,V.int .i64 m,V.int .i64 d,V.int .i64 h,V.int .i64 i,V.int .i64 s]] K=
 let A:=K (V.bool false);sel (dh y m d) (sel (aD 0 h) (sel (aD h 23) (sel (aD 0 i) (sel (aD i 59) (sel (aD 0 s) (K (V.bool (aD s 59))) A) A) A) A) A) A:=by kernel_rfl
theorem Mj (F y m d h i s) (K:V→Option V):
 dn vE (cu vE Kz F 2) F 50 [V.agg [V.int .i64 y,V.int .i64 m,V.int .i64 d,V.int .i64 h,V.int .i64 i,V.int .i64 s]] K=
 sel (aT (xD y m d h i s)) (K (V.tup [V.int .i64 0,V.int .i64 1])) (K (V.tup [V.int .i64 (aV .i64 (fM .i64 (Yi y m d) 86400) (aV .i64 (aV .i64 (fM .i64 h 3600) (fM .i64 i 60)) s)),V.int .i64 (ZR y m d)])):=by kernel_rfl
theorem Mk (F y m d h i s) (K:V→Option V):
 dn vE (cu vE Kz F 2) F 54 [V.agg [V.int .i64 y,V.int .i64 m,V.int .i64 d,V.int .i64 h,V.int .i64 i,V.int .i64 s]] K=
 sel (aT (xD y m d h i s)) (K (V.tup [V.int .i64 0,V.int .i64 1])) (K (V.tup [V.int .i64 (aV .i64 (aV .i64 (aV .i64 (fM .i64 (Yi y m d) 86400) (fM .i64 h 3600)) (fM .i64 i 60)) s),V.int .i64 0])):=by kernel_rfl
theorem Tz (F t) (K:V→Option V):
 dn vE (cu vE Kz F 3) F 20 [V.int .i64 t] K=
 let A:=V.int .i64 0;let B:=fq t 86400;let C:=fr t 86400;sel (au (au (aD (-9223372036854775808) t) (aD t 9223372036854775807)) (au (aU 0 86400) (aD 86400 1000000))) (sel (au (aD (-9223372036854775808) B) (aD B 9223372036854775807)) (sel (aT (ieq (QR B) 0)) (K (V.tup [V.agg [A,A,A,A,A,A],V.int .i64 (QR B)])) (K (V.tup [V.agg [V.int .i64 (Yj B),V.int .i64 (Yk B),V.int .i64 (Yl B),V.int .i64 (gX .i64 C 3600),V.int .i64 (gX .i64 (qG C 3600) 60),V.int .i64 (qG C 60)],A]))) none) none:=by kernel_rfl
theorem TA (F t) (K:V→Option V):
 dn vE (cu vE Kz F 3) F 24 [V.int .i64 t] K=
 let A:=au (au (aD (-9223372036854775808) t) (aD t 9223372036854775807)) (au (aU 0 86400) (aD 86400 1000000));let B:=V.int .i64 0;let C:=fq t 86400;let D:=fr t 86400;sel A (sel (au (aD (-9223372036854775808) C) (aD C 9223372036854775807)) (sel (aT (ieq (QR C) 0)) (K (V.tup [V.agg [B,B,B,B,B,B],V.int .i64 (QR C)])) (sel A (K (V.tup [V.agg [V.int .i64 (Yj C),V.int .i64 (Yk C),V.int .i64 (Yl C),V.int .i64 (gX .i64 D 3600),V.int .i64 (qG (gX .i64 D 60) 60),V.int .i64 (qG D 60)],B])) none)) none) none:=by kernel_rfl
noncomputable def sG:=fun F b n a c d K=>(eB vE Q6 F 2 44 [1,1,0,0] b K n (iN 15 [(0,V.int .i64 a),(1,V.int .i64 c),(4,V.str []),(5,V.str d)] []):Option V)
theorem Ml (F n k) (K:V→Option V):
 dn vE (cu vE Q6 F 2) F 44 [V.int .i64 n,V.int .i64 k] K=
 sel (au (aD (-9223372036854775808) n) (aD n 9223372036854775807)) (sG F [] F n k (text n) K) none:=by kernel_rfl
theorem rD (F n c b a K):
 sG F [] (n+1) c b a K=
 sel (aU (aF a) b) (sel (bC [48] a) (sG F [] n c b (bg [48] a) K) none) (K (V.str a)):=by kernel_rfl
theorem Mm (F y m d h i s) (K:V→Option V):
 dn vE (cu vE Vr F 2) F 25 [V.agg [V.int .i64 y,V.int .i64 m,V.int .i64 d,V.int .i64 h,V.int .i64 i,V.int .i64 s]] K=
 let C:=au (aD 0 2) (aD 2 10);let I:=dw i 2;let L:=dw h 2;let R:=bu .i64 0 y;let S:=dw m 2;let T:=dw d 2;let U:=dw s 2;let W:=au (aD 0 4) (aD 4 10);let Z:=bg (dw y 4) [45];let D:=bg [45] (dw R 4);let H:=bg Z S;let M:=au (au (aD (-1000000) m) (aD m 1000000)) C;let N:=au (au (aD (-1000000) d) (aD d 1000000)) C;let O:=au (au (aD (-1000000) h) (aD h 1000000)) C;let P:=au (au (aD (-1000000) i) (aD i 1000000)) C;let Q:=au (au (aD (-1000000) s) (aD s 1000000)) C;let B:=bg (bg H [45]) T;let J:=bg (bg D [45]) S;let A:=bg (bg J [45]) T;let Y:=bg B [84];let G:=bg (bg Y L) [58];let X:=bg A [84];let E:=bg (bg X L) [58];let Ab:=bg (bg G I) [58];let Aa:=bg (bg E I) [58];sel (aT (xD y m d h i s)) (K (V.str [])) (sel (au (au (aD (-1000000) y) (aD y 1000000)) W) (sel (aU y 0) (sel (au (au (aD (-1000000) R) (aD R 1000000)) W) (sel (bC [45] (dw R 4)) (sel (bC D [45]) (sel M (sel (bC (bg D [45]) S) (sel (bC J [45]) (sel N (sel (bC (bg J [45]) T) (sel (bC A [84]) (sel O (sel (bC X L) (sel (bC (bg X L) [58]) (sel P (sel (bC E I) (sel (bC (bg E I) [58]) (sel Q (sel (bC Aa U) (K (V.str (bg Aa U))) none) none) none) none) none) none) none) none) none) none) none) none) none) none) none) none) none) (sel (bC (dw y 4) [45]) (sel M (sel (bC Z S) (sel (bC H [45]) (sel N (sel (bC (bg H [45]) T) (sel (bC B [84]) (sel O (sel (bC Y L) (sel (bC (bg Y L) [58]) (sel P (sel (bC G I) (sel (bC (bg G I) [58]) (sel Q (sel (bC Ab U) (K (V.str (bg Ab U))) none) none) none) none) none) none) none) none) none) none) none) none) none) none) none)) none):=by kernel_rfl
theorem PS (F s) (K:V→Option V):
 dn vE (cu vE Q7 F 2) F 79 [V.str s] K=
 sel (au (aD 0 0) (aU 0 (aF s))) (sel (au (aD 0 1) (aU 1 (aF s))) (K (V.int .i64 (aV .i64 (fM .i64 (gu .i64 (bu .u8 (sat s 0) 48)) 10) (gu .i64 (bu .u8 (sat s 1) 48))))) none) none:=by kernel_rfl
noncomputable def mq:=fun F c n a b e d K=>(eB vE Q7 F 2 80 [1,1,1,1,1,1,0,1,0] c K n (iN 65 [(0,V.str a),(2,V.int .i64 0),(3,V.int .i64 0),(4,V.str b),(5,V.int .i64 e),(6,V.int .i64 d)] []):Option V)
theorem Mq (F s) (K:V→Option V):
 dn vE (cu vE Q7 F 2) F 80 [V.str s] K=
 let B:=K (V.tup [V.int .i64 0,V.int .i64 4]);let E:=bW s 1 (aF s);let G:=K (V.tup [V.int .i64 0,V.int .i64 1]);let H:=au (aD 0 0) (aU 0 (aF s));let I:=seq s [45,48,48,48,48];let C:=sel I B (sel (aU 5 (aF E)) G (mq F [] F s E 0 0 K));let D:=sel I B (sel (aU 5 (aF s)) G (mq F [] F s s 0 0 K));let A:=sel (aU (aF s) 4) B (sel (aD (aF s) 1000) (sel (aT (zY s)) B (sel (aU 4 (aF s)) (sel H (sel (ieq (sat s 0) 48) B D) none) D)) none);sel (aU 0 (aF s)) (sel H (sel (ieq (sat s 0) 45) (sel (au (aD 0 1) (aD 1 (aF s))) (sel (aU (aF E) 4) B (sel (aD (aF E) 1000) (sel (aT (zY E)) B (sel (aU 4 (aF E)) (sel (au (aD 0 0) (aU 0 (aF E))) (sel (ieq (sat E 0) 48) B C) none) C)) none)) none) A) none) A:=by kernel_rfl
theorem nH (F n d a c b K):
 mq F [] (n+1) d a c b K=
 let A:=aU b (aF a);sel A (sel (au (aD 0 b) A) (mq F [] n d a (aV .i64 (fM .i64 10 c) (gu .i64 (bu .u8 (sat a b) 48))) (aV .i64 b 1) K) none) (sel (aU (aF a) (aF d)) (K (V.tup [V.int .i64 (bu .i64 0 c),V.int .i64 0])) (K (V.tup [V.int .i64 c,V.int .i64 0]))):=by kernel_rfl
open Go.RowKit Nt
theorem TB (a b:Int) (c:au (au (aD (-9223372036854775808) a) (aD a 9223372036854775807)) (au (aU 0 b) (aD b 1000000))=true):aj vE 56 [.int .i64 a,.int .i64 b] (.tup [.int .i64 (fq a b),.int .i64 (fr a b),.int .i64 0]):=NE a b c
theorem TC (a b:Int) (c:au (au (aD (-9223372036854775808) a) (aD a 9223372036854775807)) (au (aU 0 b) (aD b 1000000))=true):aj vE 64 [.int .i64 a,.int .i64 b] (.tup [.int .i64 (fq a b),.int .i64 (fr a b),.int .i64 0]):=jq a b c
theorem Mr (y m d:Int) (a:true=true):aj vE 58 [.agg [.int .i64 y,.int .i64 m,.int .i64 d]] (.bool (dh y m d)):=E6 y m d a
theorem kR (y m d:Int) (a:true=true):aj vE 65 [.agg [.int .i64 y,.int .i64 m,.int .i64 d]] (.bool (dh y m d)):=gW y m d a
theorem PT (y m d:Int) (a:true=true):aj vE 76 [.agg [.int .i64 y,.int .i64 m,.int .i64 d]] (.tup [.int .i64 (Yi y m d),.int .i64 (ZR y m d)]):=Tv y m d
theorem lJ (y m d:Int) (a:true=true):aj vE 81 [.agg [.int .i64 y,.int .i64 m,.int .i64 d]] (.tup [.int .i64 (Yi y m d),.int .i64 (ZR y m d)]):=Tw y m d
theorem PU (n:Int) (a:au (aD (-9223372036854775808) n) (aD n 9223372036854775807)=true):aj vE 36 [.int .i64 n] (.tup [.agg [.int .i64 (Yj n),.int .i64 (Yk n),.int .i64 (Yl n)],.int .i64 (QR n)]):=Tx n
theorem lK (n:Int) (a:au (aD (-9223372036854775808) n) (aD n 9223372036854775807)=true):aj vE 40 [.int .i64 n] (.tup [.agg [.int .i64 (Yj n),.int .i64 (Yk n),.int .i64 (Yl n)],.int .i64 (QR n)]):=Ty n (by rw[ay,ak,ak] at a;exact a)
theorem K4:bT vE stS:=by
 unfold stS;refine bT.cons (fun args r h=>?_) (bT.cons (fun args r h=>?_) (bT.cons (fun args r h=>?_) (bT.cons (fun args r h=>?_) (bT.cons (fun args r h=>?_) (bT.cons (fun args r h=>?_) (bT.cons (fun args r h=>?_) (bT.cons (fun args r h=>?_) bT.nil)))))));all_goals (revert h;intro h;first|unfold XK at h|unfold XL at h|unfold Gg at h|unfold KY at h|unfold KZ at h)
 all_goals (split at h;rotate_left; · cases h)
 all_goals (simp only[aI,bU] at h;obtain⟨a,rfl⟩:=h)
 ·exact TB _ _ a
 ·exact TC _ _ a
 ·exact Mr _ _ _ rfl
 ·exact kR _ _ _ rfl
 ·exact PT _ _ _ rfl
 ·exact lJ _ _ _ rfl
 ·exact PU _ a
 ·exact lK _ a
theorem Da (y m d h i s:Int):aj vE 38 [.agg [.int .i64 y,.int .i64 m,.int .i64 d,.int .i64 h,.int .i64 i,.int .i64 s]] (.bool (xD y m d h i s)):=by
 refine ax iK K4 5 2 ?_
 (rw[J6];(conv=>zeta))
 unfold xD
 cases dh y m d
 ·rfl
 ·simp only[st',jv,ak,aQ,Fy]
  repeat' split
  all_goals first|contradiction|(exfalso;simp_all;done)|(rw[ve (by omega)];done)|(congr 2;rw[D8,Ol];simp only[ak,aQ];omega)
theorem Db (y m d h i s:Int):aj vE 43 [.agg [.int .i64 y,.int .i64 m,.int .i64 d,.int .i64 h,.int .i64 i,.int .i64 s]] (.bool (xD y m d h i s)):=by
 refine ax iK K4 5 2 ?_
 (rw[J7];(conv=>zeta))
 unfold xD
 cases dh y m d
 ·rfl
 ·simp only[st',jv,ak,aQ,Fy]
  repeat' split
  all_goals first|contradiction|(exfalso;simp_all;done)|(rw[ve (by omega)];done)|(congr 2;rw[D8,Ol];simp only[ak,aQ];omega)
theorem J8 (y m d h i s:Int) (a:true=true):aj vE 38 [.agg [.int .i64 y,.int .i64 m,.int .i64 d,.int .i64 h,.int .i64 i,.int .i64 s]] (.bool (xD y m d h i s)):=Da y m d h i s
theorem j5 (y m d h i s:Int) (a:true=true):aj vE 43 [.agg [.int .i64 y,.int .i64 m,.int .i64 d,.int .i64 h,.int .i64 i,.int .i64 s]] (.bool (xD y m d h i s)):=Db y m d h i s
theorem vO:bT vE Kz:=by
 unfold Kz;refine bT.cons (fun args r h=>?_) (bT.cons (fun args r h=>?_) K4);all_goals (revert h;intro h;first|unfold Cm at h)
 all_goals (split at h;rotate_left; · cases h)
 all_goals (simp only[aI,bU] at h;obtain⟨a,rfl⟩:=h)
 ·exact J8 _ _ _ _ _ _ rfl
 ·exact j5 _ _ _ _ _ _ rfl
def XO (y m d h i s:Int):Int:=jV y m d*86400+h*3600+i*60+s
def yY (y m d h i s:Int):Int×Int:=if xD y m d h i s=true then(XO y m d h i s,0) else(0,1)
theorem vP {y m d h i s:Int}:xD y m d h i s=true↔dh y m d=true∧0≤h∧h≤23∧0≤i∧i≤59∧0≤s∧s≤59:=by
 unfold xD;rw[bL,Ol]
theorem NG {y m d:Int} (h:dh y m d=true): -20000000≤jV y m d∧jV y m d≤20000000:=by
 obtain⟨e,f,a⟩:=iY.1 h;have c:=yI a;have g:(0:Int)≤(if fC y=true then 1 else 0)∧(if fC y=true then(1:Int) else 0)≤1:=by split<;>omega
 have b: -19000000≤bK y∧bK y≤19000000:=by unfold bK jY;omega
 unfold jV;omega
theorem IW {y m d:Int} (h:dh y m d=true):Yi y m d=jV y m d∧ZR y m d=0:=by
 unfold Yi ZR vC;rw[if_pos h];exact⟨rfl,rfl⟩
theorem PV (y m d h i s:Int):aj vE 50 [.agg [.int .i64 y,.int .i64 m,.int .i64 d,.int .i64 h,.int .i64 i,.int .i64 s]] (.tup [.int .i64 (yY y m d h i s).1,.int .i64 (yY y m d h i s).2]):=by
 refine ax iK vO 5 2 ?_;rw[Mj];unfold yY
 cases c:xD y m d h i s with
 |false=>rfl
 |true=>
  obtain⟨a,g⟩:=vP.1 c;obtain⟨b,e⟩:=IW a;have f:=NG a;rw[aB (by rfl),b,e,if_pos rfl];simp(disch:=omega) only[aZ,iH];unfold XO;rw[show jV y m d*86400+(h*3600+i*60+s)=jV y m d*86400+h*3600+i*60+s by omega]
theorem PX (y m d h i s:Int):aj vE 54 [.agg [.int .i64 y,.int .i64 m,.int .i64 d,.int .i64 h,.int .i64 i,.int .i64 s]] (.tup [.int .i64 (yY y m d h i s).1,.int .i64 (yY y m d h i s).2]):=by
 refine ax iK vO 5 2 ?_;rw[Mk];unfold yY
 cases c:xD y m d h i s with
 |false=>rfl
 |true=>
  obtain⟨a,f⟩:=vP.1 c;obtain⟨b,g⟩:=IW a;have e:=NG a;rw[aB (by rfl),b,if_pos rfl];simp(disch:=omega) only[aZ,iH];rfl
def Ks (t:Int):List Int×Int:=if di (t/86400)=true then([dY (t/86400),dM (t/86400),dD (t/86400),t%86400/3600,t%86400/60%60,t%86400%60],0) else([0,0,0,0,0,0],1)
def DI (p:List Int×Int):V:=.tup [.agg (p.1.map (V.int .i64)),.int .i64 p.2]
theorem XP {n:Int} (h:di n=true):Yj n=dY n∧Yk n=dM n∧Yl n=dD n∧QR n=0:=by
 unfold Yj Yk Yl QR mH;rw[if_pos h];exact⟨rfl,rfl,rfl,rfl⟩
theorem R3 {n:Int} (h: ¬di n=true):QR n=1:=by
 unfold QR mH;rw[if_neg h]
theorem Wl (t:Int) (g:Fits t):aj vE 20 [.int .i64 t] (DI (Ks t)):=by
 refine ax iK vO 5 3 ?_;unfold Fits at g;have d:fq t 86400=t/86400:=rfl;have i:fr t 86400=t%86400:=rfl
 (rw[Tz];(conv=>zeta);rw[ai (by simp only[ay,ak,aQ];omega),d,i,ai (by simp only[ay,ak];omega)])
 unfold Ks;by_cases a:di (t/86400)=true
 ·obtain⟨e,f,h,c⟩:=XP a
  rw[e,f,h,c,aB (by rfl),if_pos a];have j:0≤t%86400∧t%86400<86400:=by omega
  generalize t%86400=r at*;have b:r%3600/60=r/60%60:=by omega
  simp(disch:=omega) only[qO,wz];rw[b];rfl
 ·rw[R3 a,ai (by rfl),if_neg a];rfl
theorem Wm (t:Int) (g:Fits t):aj vE 24 [.int .i64 t] (DI (Ks t)):=by
 refine ax iK vO 5 3 ?_;unfold Fits at g;have d:fq t 86400=t/86400:=rfl;have i:fr t 86400=t%86400:=rfl;have c:au (au (aD (-9223372036854775808) t) (aD t 9223372036854775807)) (au (aU 0 86400) (aD 86400 1000000))=true:=by simp only[ay,ak,aQ];omega
 (rw[TA];(conv=>zeta);rw[c,d,i])
 rw[ai rfl,ai (by simp only[ay,ak];omega)];unfold Ks;by_cases a:di (t/86400)=true
 ·obtain⟨e,f,h,b⟩:=XP a
  rw[e,f,h,b,aB (by rfl),if_pos a,ai rfl];have j:0≤t%86400∧t%86400<86400:=by omega
  generalize t%86400=r at*;simp(disch:=omega) only[qO,wz];rfl
 ·rw[R3 a,ai (by rfl),if_neg a];rfl
theorem YQ {f:Nat} {args:af} {r:V} (h:aj nE f args r):aj vE f args r:=aj.env (E:=nE) rfl (fun n v h=>by cases h) h
theorem Gi {m:Int} (h:au (aD (-9223372036854775808) m) (aD m 9223372036854775807)=true):Fits m:=by rw[ay,ak,ak] at h;exact h
theorem PY (m:Int) (a:au (aD (-9223372036854775808) m) (aD m 9223372036854775807)=true):aj vE 61 [.int .i64 m] (.str (text m)):=YQ (IR m (Gi a))
theorem lM (m:Int) (a:au (aD (-9223372036854775808) m) (aD m 9223372036854775807)=true):aj vE 66 [.int .i64 m] (.str (text m)):=YQ (Tf m (Gi a))
theorem NH:bT vE Q6:=by
 unfold Q6;refine bT.cons (fun args r h=>?_) (bT.cons (fun args r h=>?_) vO);all_goals (revert h;intro h;first|unfold K3 at h)
 all_goals (split at h;rotate_left; · cases h)
 all_goals (simp only[aI,bU] at h;obtain⟨a,rfl⟩:=h)
 ·exact PY _ a
 ·exact lM _ a
theorem PZ (F:Nat) (x k:Int) (d:0≤k∧k≤10): ∀(n:Nat) (s:ah),k.toNat≤s.length+n→s.length≤30→
  sG F [] (n+1) x k s some=some (.str (List.replicate (k.toNat-s.length) 48++s)):=by
 intro n;induction n with
 |zero=>
  intro s c b;rw[rD,aB (aW (by rw[av];omega)),show k.toNat-s.length=0 by omega];rfl
 |succ n a=>
  intro s c b;rw[rD];by_cases h:(s.length:Int)<k
  ·rw[ai (aY (by rw[av];omega)),ai (by rw[jO];simp only[fQ,nN];omega)]
   have e:bg [48] s=48::s:=rfl;rw[e,a (48::s) (by simp only[fQ];omega) (by simp only[fQ];omega)];rw[fQ,show k.toNat-s.length=(k.toNat-(s.length+1))+1 by omega,List.replicate_succ',Kj];rfl
  ·rw[aB (aW (by rw[av];omega)),show k.toNat-s.length=0 by omega]
   rfl
theorem P4 (n k:Int) (b: -1000000≤n∧n≤1000000) (a:0≤k∧k≤10):aj vE 44 [.int .i64 n,.int .i64 k] (.str (dw n k)):=by
 refine ax iK NH 12 2 ?_;rw[Ml,ai (by rw[ay,ak,ak];omega)];exact PZ 12 n k a 11 (text n) (by omega) (by have:=(Ch n (by unfold Fits;omega)).1;omega)
theorem TD (n k:Int) (a:au (au (aD (-1000000) n) (aD n 1000000)) (au (aD 0 k) (aD k 10))=true):aj vE 44 [.int .i64 n,.int .i64 k] (.str (dw n k)):=by
 simp only[ay,ak] at a;exact P4 n k a.1 a.2
theorem NI:bT vE Vr:=by
 unfold Vr;refine bT.cons (fun args r h=>?_) NH;all_goals (revert h;intro h;first|unfold XM at h)
 all_goals (split at h;rotate_left; · cases h)
 all_goals (simp only[aI,bU] at h;obtain⟨a,rfl⟩:=h)
 ·exact TD _ _ a
def o6 (y m d h i s:Int):ah:=
 if xD y m d h i s=true then(if y<0 then 45::dw (-y) 4 else dw y 4)++45::dw m 2++45::dw d 2++84::dw h 2++58::dw i 2++58::dw s 2 else[]
theorem bP (n k:Int) (a: -1000000≤n∧n≤1000000) (b:0≤k∧k≤10):(dw n k).length≤40:=by
 have:=(Ch n (by unfold Fits;omega)).1;unfold dw;rw[qw,List.length_replicate];omega
theorem P5 (y m d h i s:Int):aj vE 25 [.agg [.int .i64 y,.int .i64 m,.int .i64 d,.int .i64 h,.int .i64 i,.int .i64 s]] (.str (o6 y m d h i s)):=by
 refine ax iK NI 5 2 ?_
 (rw[Mm];(conv=>zeta))
 unfold o6
 cases f:xD y m d h i s with
 |false=>rfl
 |true=>
  obtain⟨g,t⟩:=vP.1 f;obtain⟨o,u,a⟩:=iY.1 g;have c:=iD a;have k:1≤d∧d≤31:=⟨a.1,by have:=og y m c.1 c.2;have:=a.2;omega⟩
  have v:=bP m 2 (by omega) (by omega);have r:=bP d 2 (by omega) (by omega);have n:=bP h 2 (by omega) (by omega);have l:=bP i 2 (by omega) (by omega);have p:=bP s 2 (by omega) (by omega);have q:=bP y 4 (by omega) (by omega);have j:=bP (-y) 4 (by omega) (by omega);have e:bu .i64 0 y= -y:=by rw[bZ (by omega)];omega
  rw[aB (by rfl),if_pos rfl,e];by_cases b:y<0
  ·rw[ai (by simp only[ay,ak];omega),ai (aY b),if_pos b]
   repeat (rw[ai (by first|(simp only[ay,ak];omega)|(rw[jO];simp only[bg,qw,fQ,nN];omega))])
   simp[bg]
  ·rw[ai (by simp only[ay,ak];omega),aB (aW (by omega)),if_neg b]
   repeat (rw[ai (by first|(simp only[ay,ak];omega)|(rw[jO];simp only[bg,qw,fQ,nN];omega))])
   simp[bg]
theorem IX (s:ah) (a:aD (aF s) 1000=true):aj vE 78 [.str s] (.bool (zY s)):=YQ (L8 s (by rw[ak,av] at a;omega))
theorem NJ:bT vE Q7:=by
 unfold Q7;refine bT.cons (fun args r h=>?_) NI;all_goals (revert h;intro h;first|unfold XN at h)
 all_goals (split at h;rotate_left; · cases h)
 all_goals (simp only[aI,bU] at h;obtain⟨a,rfl⟩:=h)
 ·exact IX _ a
noncomputable def R4:V:=.rptr [.int .u8,.int .u8,.int .u8,.int .u8,.int .u8] (.agg [.int .u8 45,.int .u8 45,.int .u8 84,.int .u8 58,.int .u8 58]) 0
noncomputable def uE:Env:=⟨Go.Proofs.Tryz.prog,fun g=>bif g==1 then some R4 else none⟩
def K5 (s c:ah):ah:=Lib.trimS s c
noncomputable def NK (l:ah):Bool:=l.all fun c=>decide (c.toNat<128)
def Vs (s p:ah):Bool:=Lib.hasPrefix s p
def Q8 (s p:ah):ah:=Lib.trimPrefix s p
noncomputable def XQ:aN:=fun a=>match a with|[.str s,.str p]=>some (aD (aF s) 1000,.tup [.str (Q8 s p),.bool (Vs s p)])|_=>none
noncomputable def R5:aN:=fun a=>match a with|[.int .i64 n]=>some (au (aD (-9223372036854775808) n) (aD n 9223372036854775807),.str (text n))|_=>none
noncomputable def Az:aN:=fun a=>match a with|[.agg [.int .i64 y,.int .i64 m,.int .i64 d,.int .i64 h,.int .i64 i,.int .i64 s]]=>some (true,.bool (xD y m d h i s))|_=>none
noncomputable def R6:aN:=fun a=>match a with|[.str s,.str c]=>some (au (aD (aF s) 1000) (au (aD (aF c) 1000) (NK c)),.str (K5 s c))|_=>none
noncomputable def R7:aN:=fun a=>match a with|[.str s]=>some (aD (aF s) 1000,.tup [.int .i64 (Vb s),.int .i64 (nrW s)])|_=>none
noncomputable def ZS:List (Nat×aN):=(96,XQ)::(61,R5)::(38,Az)::(95,R6)::(97,R7)::[]
noncomputable def XR:aN:=fun a=>match a with|[.sl 5 [.int .u8] (some 1000001000) xs,.int .i64 n,.int .i64 k]=>some (au (au (aD (-1000000) n) (aD n 1000000)) (au (au (aD 0 k) (aD k 10)) (aD (aM xs) 1000)),.out false (.sl 5 [.int .u8] (some 1000000000) (bS xs (aH (dw n k)))) [])|_=>none
def HY (s:ah) (n:Int):Bool:=decide (n≤(s.length:Int))&&s.all isDigit
noncomputable def XT:aN:=fun a=>match a with|[.str s,.int .i64 n]=>some (aD (aF s) 1000,.bool (HY s n))|_=>none
noncomputable def Ym:List (Nat×aN):=(GX+39,XR)::(74,XT)::ZS
def yrP (s:ah):Int×Int:=if(bare s).length<4∨(bare s).all isDigit=false∨(4<(bare s).length∧(bare s).getD 0 0=48)∨s=[45,48,48,48,48] then(0,4) else if 5<(bare s).length then(0,1) else(if minus s=true then -(val (bare s):Int) else(val (bare s):Int),0)
def MI (s:ah):Int:=(yrP s).1
def QS (s:ah):Int:=(yrP s).2
def Bp (s:ah):Int:=aV .i64 (fM .i64 (gu .i64 (bu .u8 (sat s 0) 48)) 10) (gu .i64 (bu .u8 (sat s 1) 48))
noncomputable def K6:aN:=fun a=>match a with|[.str s]=>some (aD (aF s) 1000,.tup [.int .i64 (MI s),.int .i64 (QS s)])|_=>none
noncomputable def R8:aN:=fun a=>match a with|[.str s]=>some (aD (aF s) 1000,.bool (zY s))|_=>none
noncomputable def XU:aN:=fun a=>match a with|[.str s]=>some (au (aD 2 (aF s)) (aD (aF s) 1000),.int .i64 (Bp s))|_=>none
noncomputable def ZT:List (Nat×aN):=(75,K6)::(80,K6)::(78,R8)::(79,XU)::(43,Az)::Ym
noncomputable def AA:=fun F d n c e g f b a K=>(F7 uE ZS F 2 39 [V.sl 5 [Kd.int .u8] (some 1000001000) [],V.nilsl,V.nilsl] [1,1,0,1,0] d K n (iN 23 [(0,V.sl 5 [Kd.int .u8] (some 1000000000) c),(1,V.int .i64 e),(2,V.int .i64 g),(6,V.sl 5 [Kd.int .u8] (some 6) []),(7,V.str f),(13,V.int .i64 b),(14,V.int .i64 a)] []):Option V)
theorem TE (F L n k) (K:V→Option V):
 dn uE (cu uE ZS F 2) F 39 [V.sl 5 [Kd.int .u8] (some 1000001000) L,V.int .i64 n,V.int .i64 k] K=
 sel (au (aD (-9223372036854775808) n) (aD n 9223372036854775807)) (AA F [] F L n k (text n) (bu .i64 k (aF (text n))) 0 K) none:=by kernel_rfl
theorem wW (F n c e f d b a K):
 AA F [] (n+1) c e f d b a K=
 sel (aU a b) (sel (dU c [V.int .u8 48]) (AA F [] n (bS c [V.int .u8 48]) e f d b (aV .i64 a 1) K) none) (sel (dU c (aH d)) (K (V.out false (V.sl 5 [Kd.int .u8] (some 1000000000) (bS c (aH d))) [])) none):=by kernel_rfl
theorem J9 (F s n) (K:V→Option V):
 dn uE (cu uE ZS F 2) F 74 [V.str s,V.int .i64 n] K=
 sel (aD n (aF s)) (sel (au (aD (aF s) 1000) (au (aD (aF [48,49,50,51,52,53,54,55,56,57]) 1000) true)) (K (V.bool (seq (K5 s [48,49,50,51,52,53,54,55,56,57]) []))) none) (K (V.bool false)):=by kernel_rfl
noncomputable def ed:=fun F u n r f h k j m v t e b d a c s o l i p q g K=>(eB uE Ym F 2 22 [1,1,1,1,1,1,0,1,0] u K n (iN 51 [(0,V.agg [V.int .i64 r,V.int .i64 f,V.int .i64 h,V.int .i64 k,V.int .i64 j,V.int .i64 m]),(1,V.box 1 0),(2,V.str []),(3,V.sl 5 [Kd.int .u8] (some 3) v),(4,V.int .i64 t),(35,V.agg [V.int .i64 e,V.int .i64 b,V.int .i64 d,V.int .i64 a,V.int .i64 c]),(36,V.int .i64 s)] [(1,[V.int .i64 o,V.int .i64 l,V.int .i64 i,V.int .i64 p,V.int .i64 q,V.int .i64 g])]):Option V)
theorem P6 (F y m d h i s) (K:V→Option V):
 dn uE (cu uE Ym F 2) F 22 [V.agg [V.int .i64 y,V.int .i64 m,V.int .i64 d,V.int .i64 h,V.int .i64 i,V.int .i64 s]] K=
 let A:=bu .i64 0 y;let B:=[V.int .u8 45];let C:=au (aD 0 4) (aD 4 10);sel (aT (xD y m d h i s)) (K (V.str [])) (sel (aU y 0) (sel (dU [] B) (sel (au (au (aD (-1000000) A) (aD A 1000000)) (au C (aD (aM (bS [] B)) 1000))) (ed F [] F y m d h i s (bS (bS [] B) (aH (dw A 4))) A m d h i s 0 y m d h i s K) none) none) (sel (au (au (aD (-1000000) y) (aD y 1000000)) (au C (aD (aM []) 1000))) (ed F [] F y m d h i s (bS [] (aH (dw y 4))) y m d h i s 0 y m d h i s K) none)):=by kernel_rfl
theorem iE (F n s g i l k o u t e b d a c f p m j q r h K):
 ed F [] (n+1) s g i l k o u t e b d a c f p m j q r h K=
 let A:=[V.int .u8 (asInt (aL (bf [V.int .u8 45,V.int .u8 45,V.int .u8 84,V.int .u8 58,V.int .u8 58] f) 0))];let C:=au (aD 0 f) (aU f 5);let D:=aV .i64 f 1;let E:=bS u A;let G:=dU u A;let B:=au (au (aD 0 2) (aD 2 10)) (aD (aM E) 1000);sel (aU f 5) (sel (ieq f 0) (sel C (sel G (sel (au (au (aD (-1000000) e) (aD e 1000000)) B) (ed F [] n s g i l k o (bS E (aH (dw e 2))) t e b d a c D p m j q r h K) none) none) none) (sel (ieq f 1) (sel C (sel G (sel (au (au (aD (-1000000) b) (aD b 1000000)) B) (ed F [] n s g i l k o (bS E (aH (dw b 2))) t e b d a c D p m j q r h K) none) none) none) (sel (ieq f 2) (sel C (sel G (sel (au (au (aD (-1000000) d) (aD d 1000000)) B) (ed F [] n s g i l k o (bS E (aH (dw d 2))) t e b d a c D p m j q r h K) none) none) none) (sel (ieq f 3) (sel C (sel G (sel (au (au (aD (-1000000) a) (aD a 1000000)) B) (ed F [] n s g i l k o (bS E (aH (dw a 2))) t e b d a c D p m j q r h K) none) none) none) (sel (ieq f 4) (sel C (sel G (sel (au (au (aD (-1000000) c) (aD c 1000000)) B) (ed F [] n s g i l k o (bS E (aH (dw c 2))) t e b d a c D p m j q r h K) none) none) none) none))))) (K (V.str (fD u))):=by kernel_rfl
noncomputable def qV:=fun F d n a b h e g c f K=>(eB uE Ym F 4 75 [1,1,1,1,1,1,0,1,0] d K n (iN 64 [(0,V.str a),(2,V.int .i64 0),(3,V.int .i64 0),(4,V.str b),(5,V.bool h),(6,V.int .i64 e),(7,V.int .i64 g),(8,V.int .i64 c),(9,V.int .i64 f)] []):Option V)
theorem P7 (F s) (K:V→Option V):
 dn uE (cu uE Ym F 4) F 75 [V.str s] K=
 let D:=K (V.tup [V.int .i64 0,V.int .i64 4]);let E:=Q8 s [45];let I:=K (V.tup [V.int .i64 0,V.int .i64 1]);let C:=aF E;let H:=imax (bu .i64 C 5) 0;let B:=bW E H C;let G:=bg [49] B;let A:=sel (seq s [45,48,48,48,48]) D (sel (au (aD 0 H) (aD H C)) (sel (bC [49] B) (sel (aD (aF G) 1000) (sel (aT (ieq (nrW G) 0)) I (sel (aU 5 C) I (qV F [] F s E (Vs s [45]) (Vb G) (nrW G) (Vb G) 1 K))) none) none) none);sel (aD (aF s) 1000) (sel (aD C 1000) (sel (aT (HY E 4)) D (sel (aU 4 C) (sel (au (aD 0 0) (aU 0 C)) (sel (ieq (sat E 0) 48) D A) none) A)) none) none:=by kernel_rfl
theorem dJ (F n d e c f g a b K):
 qV F [] (n+1) d e c f g a b K=
 let A:=fM .i64 b 10;let B:=bu .i64 a b;sel (aU a A) (sel c (K (V.tup [V.int .i64 (bu .i64 0 B),V.int .i64 0])) (K (V.tup [V.int .i64 B,V.int .i64 0]))) (qV F [] n d e c f g a A K):=by kernel_rfl
noncomputable def eX:=fun F p n m q o r l f b e c i j h a k g d K=>(eB uE ZT F 2 49 [1,1,1,1,1,0,1,0] p K n (iN 81 [(0,V.str m),(2,V.box 2 0),(3,V.int .i64 q),(4,V.int .i64 o),(5,V.box 5 0),(6,V.str r),(9,V.tup []),(10,V.tup []),(11,V.tup []),(21,V.agg [V.int .u8 45,V.int .u8 45,V.int .u8 84,V.int .u8 58,V.int .u8 58]),(22,V.int .i64 l)] [(5,[V.int .i64 f,V.int .i64 b,V.int .i64 e,V.int .i64 c,V.int .i64 i]),(2,[V.int .i64 j,V.int .i64 h,V.int .i64 a,V.int .i64 k,V.int .i64 g,V.int .i64 d])]):Option V)
theorem P8 (F s) (K:V→Option V):
 dn uE (cu uE ZT F 2) F 49 [V.str s] K=
 let A:=bu .i64 (aF s) 15;let B:=V.int .i64 0;sel (aU A 0) (K (V.tup [V.agg [B,B,B,B,B,B],V.int .i64 4])) (sel (au (aD 0 A) (aD A (aF s))) (eX F [] F s 0 A (bW s A (aF s)) 0 0 0 0 0 0 0 0 0 0 0 0 K) none):=by kernel_rfl
theorem iF (F n p q o m a b c e d f l k g j i h K):
 eX F [] (n+1) p q o m a b c e d f l k g j i h K=
 let C:=aV .i64 (fM .i64 (gu .i64 (bu .u8 (sat m 1) 48)) 10) (gu .i64 (bu .u8 (sat m 2) 48));let D:=au (aD 0 3) (aD 3 (aF m));let G:=au (aD 0 0) (aU 0 (aF m));let H:=bW m 3 (aF m);let I:=V.int .i64 0;let J:=aV .i64 a 1;let L:=bW p 0 o;let O:=sat m 0;let B:=V.agg [I,I,I,I,I,I];let E:=K (V.tup [B,V.int .i64 4]);let A:=sel (au D (au (aD 0 1) (aD 1 3))) (sel (aD (aF (bW m 1 3)) 1000) (sel (aT (HY (bW m 1 3) 2)) E (sel (au (aD 0 1) (aU 1 (aF m))) (sel (au (aD 0 2) (aU 2 (aF m))) (sel (ieq a 0) (sel D (eX F [] n p q o H J C c e d f l k g j i h K) none) (sel (ieq a 1) (sel D (eX F [] n p q o H J b C e d f l k g j i h K) none) (sel (ieq a 2) (sel D (eX F [] n p q o H J b c C d f l k g j i h K) none) (sel (ieq a 3) (sel D (eX F [] n p q o H J b c e C f l k g j i h K) none) (sel (ieq a 4) (sel D (eX F [] n p q o H J b c e d C l k g j i h K) none) none))))) none) none)) none) (none);let M:=sel G (sel (aT (ieq O 45)) E A) (none);let N:=sel G (sel (aT (ieq O 58)) E A) (none);sel (aU a 5) (sel (ieq a 0) M (sel (ieq a 1) M (sel (ieq a 2) (sel G (sel (aT (ieq O 84)) E A) none) (sel (ieq a 3) N (sel (ieq a 4) N none))))) (sel (au (aD 0 o) (aD o (aF p))) (sel (aD (aF L) 1000) (sel (aT (ieq (QS L) 0)) (K (V.tup [B,V.int .i64 (QS L)])) (sel (aT (xD (MI L) b c e d f)) (K (V.tup [B,V.int .i64 1])) (K (V.tup [V.agg [V.int .i64 (MI L),V.int .i64 b,V.int .i64 c,V.int .i64 e,V.int .i64 d,V.int .i64 f],I])))) none) none):=by kernel_rfl
noncomputable def mr:=fun F i n g j h l m k e d a f c b K=>(eB uE ZT F 2 53 [1,1,1,1,1,0,1,0] i K n (iN 93 [(0,V.str g),(2,V.box 2 0),(3,V.int .i64 j),(4,V.int .i64 h),(5,V.str l),(6,V.sl 3 [Kd.int .i64] (some 6) m),(7,V.int .i64 k),(8,V.tup []),(9,V.tup []),(10,V.tup [])] [(2,[V.int .i64 e,V.int .i64 d,V.int .i64 a,V.int .i64 f,V.int .i64 c,V.int .i64 b])]):Option V)
theorem Ms (F s) (K:V→Option V):
 dn uE (cu uE ZT F 2) F 53 [V.str s] K=
 let A:=V.int .i64 0;let B:=bu .i64 (aF s) 15;sel (aU B 0) (K (V.tup [V.agg [A,A,A,A,A,A],V.int .i64 4])) (mr F [] F s 0 B [45,45,84,58,58] [] 0 0 0 0 0 0 0 K):=by kernel_rfl
theorem rE (F n b l j k a i g f c h e d K):
 mr F [] (n+1) b l j k a i g f c h e d K=
 let A:=aV .i64 j (fM .i64 3 i);let B:=V.int .i64 0;let H:=bW b 0 j;let J:=asInt (aL (bf a 0) 0);let L:=asInt (aL (bf a 1) 0);let M:=asInt (aL (bf a 2) 0);let N:=asInt (aL (bf a 3) 0);let O:=asInt (aL (bf a 4) 0);let C:=aV .i64 A 1;let D:=V.agg [B,B,B,B,B,B];let G:=aV .i64 A 3;let E:=bW b C (aF b);let I:=K (V.tup [D,V.int .i64 4]);let P:=[V.int .i64 (Bp E)];sel (aU i 5) (sel (au (aD 0 A) (aU A (aF b))) (sel (au (aD 0 i) (aU i (aF k))) (sel (aT (ieq (sat b A) (sat k i))) I (sel (au (au (aD 0 G) (aD G (aF b))) (au (aD 0 C) (aD C G))) (sel (aD (aF (bW b C G)) 1000) (sel (aT (zY (bW b C G))) I (sel (au (aD 0 C) (aD C (aF b))) (sel (au (aD 2 (aF E)) (aD (aF E) 1000)) (sel (dU a P) (mr F [] n b l j k (bS a P) (aV .i64 i 1) g f c h e d K) none) none) none)) none) none)) none) none) (sel (au (aD 0 j) (aD j (aF b))) (sel (aD (aF H) 1000) (sel (aT (ieq (QS H) 0)) (K (V.tup [D,V.int .i64 (QS H)])) (sel (au (aD 0 0) (aU 0 (aM a))) (sel (au (aD 0 1) (aU 1 (aM a))) (sel (au (aD 0 2) (aU 2 (aM a))) (sel (au (aD 0 3) (aU 3 (aM a))) (sel (au (aD 0 4) (aU 4 (aM a))) (sel (aT (xD (MI H) J L M N O)) (K (V.tup [D,V.int .i64 1])) (K (V.tup [V.agg [V.int .i64 (MI H),V.int .i64 J,V.int .i64 L,V.int .i64 M,V.int .i64 N,V.int .i64 O],B]))) none) none) none) none) none)) none) none):=by kernel_rfl
theorem El:qy uE:=⟨by kernel_rfl,by kernel_rfl⟩
theorem US {f:Nat} {args:af} {r:V} (h:aj vE f args r):aj uE f args r:=aj.env (E:=vE) rfl (fun n v h=>by cases h) h
theorem toU' {f:Nat} {args:af} {r:V} (h:aj nE f args r):aj uE f args r:=aj.env (E:=nE) rfl (fun n v h=>by cases h) h
theorem Bq {s:ah} (h:aD (aF s) 1000=true):s.length≤1000:=by rw[ak,av] at h;omega
theorem TF (s p:ah) (f:aD (aF s) 1000=true):aj uE 96 [.str s,.str p] (.tup [.str (Q8 s p),.bool (Vs s p)]):=by
 refine eO fun G w vs d c b=>?_
 obtain⟨x,y,rfl,hx,a⟩:=pX b;unfold aK at hx a;subst hx;subst a;refine(Go.Proofs.Tryz.strings_CutPrefix ⟨s.toArray⟩ ⟨p.toArray⟩ w).mono ?_;rintro e w' ⟨rfl,rfl⟩;exact⟨_,rfl,Below.refl _ _,NA (Te _) (Pv _)⟩
theorem P9 (m:Int) (a:au (aD (-9223372036854775808) m) (aD m 9223372036854775807)=true):aj uE 61 [.int .i64 m] (.str (text m)):=toU' (IR m (Gi a))
theorem Mt (y m d h i s:Int) (a:true=true):aj uE 38 [.agg [.int .i64 y,.int .i64 m,.int .i64 d,.int .i64 h,.int .i64 i,.int .i64 s]] (.bool (xD y m d h i s)):=US (Da y m d h i s)
theorem kS (y m d h i s:Int) (a:true=true):aj uE 43 [.agg [.int .i64 y,.int .i64 m,.int .i64 d,.int .i64 h,.int .i64 i,.int .i64 s]] (.bool (xD y m d h i s)):=US (Db y m d h i s)
theorem Qa (s c:ah) (i:au (aD (aF s) 1000) (au (aD (aF c) 1000) (NK c))=true):aj uE 95 [.str s,.str c] (.str (K5 s c)):=by
 obtain⟨g,h3⟩:=aS i;obtain⟨d,h3⟩:=aS h3;have g:=Bq g;have d:=Bq d;refine eO fun G w vs l k h=>?_
 obtain⟨x,y,rfl,hx,f⟩:=pX h;unfold aK at hx f;subst hx;subst f;refine(Go.Proofs.Tryz.wV ⟨s.toArray⟩ ⟨c.toArray⟩ w (show s.toArray.size≤_ by simp;omega) (show c.toArray.size<_ by simp;omega) (fun j b a=>?_)).mono ?_
 ·have h3:(c.all fun c=>decide (c.toNat<128))=true:=h3
  have:=List.all_eq_true.1 h3 b (Dp a);exact D7 this
 ·rintro e w' ⟨rfl,a⟩
  exact⟨_,rfl,a,Ny _⟩
theorem Qb (s:ah) (a:aD (aF s) 1000=true):aj uE 97 [.str s] (.tup [.int .i64 (Vb s),.int .i64 (nrW s)]):=toU' (V7 s (Bq a))
theorem K7:bT uE ZS:=by
 unfold ZS;refine bT.cons (fun args r h=>?_) (bT.cons (fun args r h=>?_) (bT.cons (fun args r h=>?_) (bT.cons (fun args r h=>?_) (bT.cons (fun args r h=>?_) bT.nil))));all_goals (revert h;intro h;first|unfold XQ at h|unfold R5 at h|unfold Az at h|unfold R6 at h|unfold R7 at h)
 all_goals (split at h;rotate_left; · cases h)
 all_goals (simp only[aI,bU] at h;obtain⟨a,rfl⟩:=h)
 ·exact TF _ _ a
 ·exact P9 _ a
 ·exact Mt _ _ _ _ _ _ rfl
 ·exact Qa _ _ a
 ·exact Qb _ a
theorem fV (l:ah):(aH l).length=l.length:=by unfold aH;rw[xC]
theorem TG (F:Nat) (x k p:Int) (t:ah) (e:p≤10) (f:t.length≤30): ∀(n:Nat) (i:Int) (L:af),0≤i→p≤i+n→L.length+(p-i).toNat≤2000→
  AA F [] (n+1) L x k t p i some=some (.out false (.sl 5 [.int .u8] (some 1000000000) (bS L (aH (List.replicate (p-i).toNat 48++t)))) []):=by
 intro n;induction n with
 |zero=>
  intro i L b d a;rw[wW,aB (aW (by omega)),ai (by rw[dm,fV];omega),show(p-i).toNat=0 by omega];rfl
 |succ n c=>
  intro i L b d a;rw[wW];by_cases h:i<p
  ·rw[ai (aY h),ai (by rw[dm];simp only[fQ,nN];omega),aZ (by omega)]
   rw[c (i+1) _ (by omega) (by omega) (by unfold bS;rw[qw];simp only[fQ,nN];omega)];rw[show(p-i).toNat=(p-(i+1)).toNat+1 by omega,List.replicate_succ];unfold bS aH;simp
  ·rw[aB (aW (by omega)),ai (by rw[dm,fV];omega),show(p-i).toNat=0 by omega]
   rfl
theorem TH (L:af) (n k:Int) (a:au (au (aD (-1000000) n) (aD n 1000000)) (au (au (aD 0 k) (aD k 10)) (aD (aM L) 1000))=true):rG uE 39 [.sl 5 [.int .u8] (some 1000001000) L,.int .i64 n,.int .i64 k] (.out false (.sl 5 [.int .u8] (some 1000000000) (bS L (aH (dw n k)))) []):=by
 simp only[ay,ak,aO] at a;refine rG.out (nA El K7 12 2 ?_);have b:=(Ch n (by unfold Fits;omega)).1;rw[TE,ai (by rw[ay,ak,ak];omega),av,bZ (by omega)];rw[TG 12 n k (k-(text n).length) (text n) (by omega) (by omega) 11 0 L (by omega) (by omega) (by omega)];unfold dw;rw[show(k-((text n).length:Int)-0).toNat=k.toNat-(text n).length by omega]
theorem TI (s:ah) (n:Int) (a:aD (aF s) 1000=true):aj uE 74 [.str s,.int .i64 n] (.bool (HY s n)):=by
 refine ax El K7 5 2 ?_;rw[J9,a];unfold HY;by_cases h:n≤(s.length:Int)
 ·rw[ai (cO (by rw[av];exact h)),ai (by decide),Dx h]
  congr 2
  rw[Fy,D8,nZ];exact zL s
 ·rw[aB (tL (by rw[av];omega)),ve h];rfl
theorem K8:bT uE Ym:=by
 unfold Ym;refine bT.Bn (fun args r h=>?_) (bT.cons (fun args r h=>?_) K7);all_goals (revert h;intro h;first|unfold XR at h|unfold XT at h)
 all_goals (split at h;rotate_left; · cases h)
 all_goals (simp only[aI,bU] at h;obtain⟨a,rfl⟩:=h)
 ·exact TH _ _ _ a
 ·exact TI _ _ a
theorem pE (l w:ah) (c:UInt8):bS (bS (aH l) [V.int .u8 (c.toNat:Int)]) (aH w)=aH (l++c::w):=by
 unfold bS aH;simp
theorem G6 (l:ah):fD (aH l)=l:=by
 unfold fD aH;rw[UL];conv=>rhs;rw[←acZ l]
 refine U0 fun c _=>?_
 show UInt8.ofNat ((c.toNat:Int).toNat)=c;rw[Dq];simp
theorem TJ (F n:Nat) (k o p q a r x m d h i s b0 b f j g c:Int) (l:ah) (K:V→Option V) (hl:l.length≤900) (hx:0≤m∧m≤1000):
  ed F [] (n+1) k o p q a r (aH l) x m d h i s 0 b0 b f j g c K=ed F [] n k o p q a r (aH (l++45::dw m 2)) x m d h i s 1 b0 b f j g c K:=by
 have e:asInt (aL (bf [V.int .u8 45,V.int .u8 45,V.int .u8 84,V.int .u8 58,V.int .u8 58] 0) 0)=((45:UInt8).toNat:Int):=rfl;have t:=bP m 2 (by omega) (by omega)
 (rw[iE];(conv=>zeta);rw[ai (aY (by decide)),ai (dN rfl),e,pE])
 rw[ai (by rw[ay,ak,aQ];decide),ai (by rw[dm,fV];simp only[fQ,nN];omega)];rw[ai (by simp only[ay,ak,aO];unfold bS;rw[qw,fV];simp only[fQ,nN];omega)];rfl
theorem TK (F n:Nat) (k o p q a r x m d h i s b0 b f j g c:Int) (l:ah) (K:V→Option V) (hl:l.length≤900) (hx:0≤d∧d≤1000):
  ed F [] (n+1) k o p q a r (aH l) x m d h i s 1 b0 b f j g c K=ed F [] n k o p q a r (aH (l++45::dw d 2)) x m d h i s 2 b0 b f j g c K:=by
 have e:asInt (aL (bf [V.int .u8 45,V.int .u8 45,V.int .u8 84,V.int .u8 58,V.int .u8 58] 1) 0)=((45:UInt8).toNat:Int):=rfl;have t:=bP d 2 (by omega) (by omega)
 (rw[iE];(conv=>zeta);rw[ai (aY (by decide)),aB (bD (by decide)),ai (dN rfl),e,pE])
 rw[ai (by rw[ay,ak,aQ];decide),ai (by rw[dm,fV];simp only[fQ,nN];omega)];rw[ai (by simp only[ay,ak,aO];unfold bS;rw[qw,fV];simp only[fQ,nN];omega)];rfl
theorem TL (F n:Nat) (k o p q a r x m d h i s b0 b f j g c:Int) (l:ah) (K:V→Option V) (hl:l.length≤900) (hx:0≤h∧h≤1000):
  ed F [] (n+1) k o p q a r (aH l) x m d h i s 2 b0 b f j g c K=ed F [] n k o p q a r (aH (l++84::dw h 2)) x m d h i s 3 b0 b f j g c K:=by
 have e:asInt (aL (bf [V.int .u8 45,V.int .u8 45,V.int .u8 84,V.int .u8 58,V.int .u8 58] 2) 0)=((84:UInt8).toNat:Int):=rfl;have t:=bP h 2 (by omega) (by omega)
 (rw[iE];(conv=>zeta);rw[ai (aY (by decide)),aB (bD (by decide)),aB (bD (by decide)),ai (dN rfl),e,pE])
 rw[ai (by rw[ay,ak,aQ];decide),ai (by rw[dm,fV];simp only[fQ,nN];omega)];rw[ai (by simp only[ay,ak,aO];unfold bS;rw[qw,fV];simp only[fQ,nN];omega)];rfl
theorem TM (F n:Nat) (k o p q a r x m d h i s b0 b f j g c:Int) (l:ah) (K:V→Option V) (hl:l.length≤900) (hx:0≤i∧i≤1000):
  ed F [] (n+1) k o p q a r (aH l) x m d h i s 3 b0 b f j g c K=ed F [] n k o p q a r (aH (l++58::dw i 2)) x m d h i s 4 b0 b f j g c K:=by
 have e:asInt (aL (bf [V.int .u8 45,V.int .u8 45,V.int .u8 84,V.int .u8 58,V.int .u8 58] 3) 0)=((58:UInt8).toNat:Int):=rfl;have t:=bP i 2 (by omega) (by omega)
 (rw[iE];(conv=>zeta);rw[ai (aY (by decide)),aB (bD (by decide)),aB (bD (by decide)),aB (bD (by decide)),ai (dN rfl),e,pE])
 rw[ai (by rw[ay,ak,aQ];decide),ai (by rw[dm,fV];simp only[fQ,nN];omega)];rw[ai (by simp only[ay,ak,aO];unfold bS;rw[qw,fV];simp only[fQ,nN];omega)];rfl
theorem TN (F n:Nat) (k o p q a r x m d h i s b0 b f j g c:Int) (l:ah) (K:V→Option V) (hl:l.length≤900) (hx:0≤s∧s≤1000):
  ed F [] (n+1) k o p q a r (aH l) x m d h i s 4 b0 b f j g c K=ed F [] n k o p q a r (aH (l++58::dw s 2)) x m d h i s 5 b0 b f j g c K:=by
 have e:asInt (aL (bf [V.int .u8 45,V.int .u8 45,V.int .u8 84,V.int .u8 58,V.int .u8 58] 4) 0)=((58:UInt8).toNat:Int):=rfl;have t:=bP s 2 (by omega) (by omega)
 (rw[iE];(conv=>zeta);rw[ai (aY (by decide)),aB (bD (by decide)),aB (bD (by decide)),aB (bD (by decide)),aB (bD (by decide)),ai (dN rfl),e,pE])
 rw[ai (by rw[ay,ak,aQ];decide),ai (by rw[dm,fV];simp only[fQ,nN];omega)];rw[ai (by simp only[ay,ak,aO];unfold bS;rw[qw,fV];simp only[fQ,nN];omega)];rfl
theorem TP (y m d h i s:Int):aj uE 22 [.agg [.int .i64 y,.int .i64 m,.int .i64 d,.int .i64 h,.int .i64 i,.int .i64 s]] (.str (o6 y m d h i s)):=by
 refine ax El K8 8 2 ?_
 (rw[P6];(conv=>zeta))
 unfold o6
 cases g:xD y m d h i s with
 |false=>rfl
 |true=>
  obtain⟨j,u⟩:=vP.1 g;obtain⟨q,w,a⟩:=iY.1 j;have c:=iD a;have n:1≤d∧d≤31:=⟨a.1,by have:=og y m c.1 c.2;have:=a.2;omega⟩
  have z:=bP m 2 (by omega) (by omega);have t:=bP d 2 (by omega) (by omega);have p:=bP h 2 (by omega) (by omega);have o:=bP i 2 (by omega) (by omega);have r:=bP s 2 (by omega) (by omega);have v:=bP y 4 (by omega) (by omega);have k:=bP (-y) 4 (by omega) (by omega);have e:bu .i64 0 y= -y:=by rw[bZ (by omega)];omega
  have f: ∀(x:Int) (l:ah),l.length≤100→ed 8 [] 8 y m d h i s (aH l) x m d h i s 0 y m d h i s some=some (.str (l++45::dw m 2++45::dw d 2++84::dw h 2++58::dw i 2++58::dw s 2)):=by
   intro x l hl;rw[TJ (hl:=by omega) (hx:=by omega),TK (hl:=by simp only[qw,fQ];omega) (hx:=by omega),TL (hl:=by simp only[qw,fQ];omega) (hx:=by omega),TM (hl:=by simp only[qw,fQ];omega) (hx:=by omega),TN (hl:=by simp only[qw,fQ];omega) (hx:=by omega)]
   (rw[iE];(conv=>zeta);rw[aB (aW (by decide)),G6])
  rw[aB (by rfl),if_pos rfl,e];by_cases b:y<0
  ·rw[ai (aY b),if_pos b,ai (by rw[dm];decide),ai (by simp only[ay,ak];refine⟨⟨by omega,by omega⟩,⟨by omega,by omega⟩,by decide⟩)]
   rw[show bS (bS [] [V.int .u8 45]) (aH (dw (-y) 4))=aH (45::dw (-y) 4) from pE [] _ 45];rw[f _ _ (by rw[fQ];omega)]
  ·rw[aB (aW (by omega)),if_neg b,ai (by simp only[ay,ak];refine⟨⟨by omega,by omega⟩,⟨by omega,by omega⟩,by decide⟩)]
   rw[show bS [] (aH (dw y 4))=aH (dw y 4) from rfl];rw[f _ _ (by omega)]
def vo (p:Int×Int):V:=.tup [.int .i64 p.1,.int .i64 p.2]
def yrQ (s d:ah) (b:Bool):Int×Int:=if d.length<4∨d.all isDigit=false∨(4<d.length∧d.getD 0 0=48)∨s=[45,48,48,48,48] then(0,4) else if 5<d.length then(0,1) else(if b=true then -(val d:Int) else(val d:Int),0)
theorem R9 (s:ah):yrP s=yrQ s (bare s) (minus s):=rfl
theorem Zl {d:ah} (a:d.all isDigit=true) {i:Nat} (h:i<d.length):48≤(d.getD i 0).toNat∧(d.getD i 0).toNat≤57:=by
 have:=List.all_eq_true.1 a (d.getD i 0) (by rw[sV,gP h];exact Hg h);unfold isDigit at this;rw[bL,Ol,Ol] at this;exact this
theorem sH {d:ah} (a:d.all isDigit=true) (hl:d.length≤5) (i:Nat):val (d.take i)<100000:=by
 have c:=RU d i;have b:=RV d a d.length;rw[QA] at b;have h3:10 ^ d.length≤10 ^ 5:=UZ (by decide) hl;omega
theorem E7 (s d:ah) (b:Bool) (m:d.length≤1000) (X:Option V) (g:d.all isDigit=true→4≤d.length→d.length≤5→X=some (vo (if b=true then -(val d:Int) else(val d:Int),0))):
  sel (aU (aF d) 4) (some (V.tup [V.int .i64 0,V.int .i64 4])) (sel (aD (aF d) 1000) (sel (aT (zY d)) (some (V.tup [V.int .i64 0,V.int .i64 4])) (sel (aU 4 (aF d)) (sel (au (aD 0 0) (aU 0 (aF d))) (sel (ieq (sat d 0) 48) (some (V.tup [V.int .i64 0,V.int .i64 4])) (sel (seq s [45,48,48,48,48]) (some (V.tup [V.int .i64 0,V.int .i64 4])) (sel (aU 5 (aF d)) (some (V.tup [V.int .i64 0,V.int .i64 1])) X))) none) (sel (seq s [45,48,48,48,48]) (some (V.tup [V.int .i64 0,V.int .i64 4])) (sel (aU 5 (aF d)) (some (V.tup [V.int .i64 0,V.int .i64 1])) X)))) none)=some (vo (yrQ s d b)):=by
 unfold yrQ;by_cases i:d.length<4
 ·rw[ai (aY (by rw[av];omega)),if_pos (.inl i)];rfl
 rw[aB (aW (by rw[av];omega)),ai (cO (by rw[av];omega))];have hB:zY d=d.all isDigit:=by
  unfold zY Ay
  cases d with
  |nil=>simp at i
  |cons c t=>simp
 rw[hB]
 cases l:d.all isDigit with
 |false=>rw[ai (by rfl),if_pos (.inr (.inl rfl))];rfl
 |true=>
  rw[aB (by rfl)];have g:=g l (by omega);by_cases a:s=[45,48,48,48,48]
  ·have e:seq s [45,48,48,48,48]=true:=by rw[nZ];exact a
   rw[e,if_pos (.inr (.inr (.inr a)))];simp only[jv,Ns,if_true];repeat' split
   all_goals first|rfl|(exfalso;simp_all only[ay,ak,aQ,av];omega)
  ·have e:seq s [45,48,48,48,48]=false:=by
    cases h:seq s [45,48,48,48,48] with
    |false=>rfl
    |true=>rw[nZ] at h;exact absurd h a
   rw[e,aB rfl];by_cases k:4<d.length
   ·rw[ai (aY (by rw[av];omega)),ai (by rw[ay,ak,aQ,av];omega)]
    by_cases f:d.getD 0 0=48
    ·rw[ai (dN (by rw[show(0:Int)=((0:Nat):Int) from rfl,lX,f];rfl)),if_pos (.inr (.inr (.inl ⟨k,f⟩)))];rfl
    ·rw[aB (bD (by
      rw[show(0:Int)=((0:Nat):Int) from rfl,lX];intro h;exact f (UInt8.toNat_inj.1 (by show _=48;omega))))]
     rw[if_neg (by
        rintro(h|h|⟨_,h⟩|h); · exact i h
        ·cases h
        ·exact f h
        ·exact a h)]
     by_cases j:5<d.length
     ·rw[ai (aY (by rw[av];omega)),if_pos j];rfl
     ·rw[aB (aW (by rw[av];omega)),if_neg j,g (by omega)]
   ·rw[aB (aW (by rw[av];omega))]
    rw[if_neg (by
       rintro(h|h|⟨h,_⟩|h); · exact i h
       ·cases h
       ·exact k h
       ·exact a h)]
    rw[aB (aW (by rw[av];omega)),if_neg (by omega),g (by omega)]
theorem Wn (s d:ah) (b:d.all isDigit=true) (hl:d.length≤5): ∀(n i:Nat),i≤d.length→d.length≤i+n→
  mq 12 [] (n+1) s d (val (d.take i)) i some=some (vo (if d.length<s.length then -(val d:Int) else(val d:Int),0)):=by
 intro n;induction n with
 |zero=>
  intro i k f;have c:i=d.length:=by omega
  have e:=sH b hl d.length
  (rw[c,nH];(conv=>zeta);rw[aB (aW (by rw[av];omega))])
  rw[QA] at*;by_cases h:d.length<s.length
  ·rw[ai (aY (by rw[av,av];omega)),if_pos h,bZ (by omega)];unfold vo;congr 4;omega
  ·rw[aB (aW (by rw[av,av];omega)),if_neg h];rfl
 |succ n j=>
  intro i k f;by_cases c:i=d.length
  ·have e:=sH b hl d.length
   (rw[c,nH];(conv=>zeta);rw[aB (aW (by rw[av];omega))])
   rw[QA] at*;by_cases h:d.length<s.length
   ·rw[ai (aY (by rw[av,av];omega)),if_pos h,bZ (by omega)];unfold vo;congr 4;omega
   ·rw[aB (aW (by rw[av,av];omega)),if_neg h];rfl
  ·have a:i<d.length:=by omega
   have e:=sH b hl i;have m:=Zl b a
   (rw[nH];(conv=>zeta);rw[ai (aY (by rw[av];omega)),ai (by rw[ay,ak,aQ,av];omega),lX])
   simp(disch:=omega) only[Zh,RQ,iH,aZ];have:=j (i+1) (by omega) (by omega);rw[wC d i a] at this;have g:10*((val (d.take i):Nat):Int)+(((d.getD i 0).toNat:Int)-48)=((10*val (d.take i)+((d.getD i 0).toNat-48):Nat):Int):=by omega
   have l:(i:Int)+1=((i+1:Nat):Int):=by omega
   rw[g,l];exact this
theorem Qc (s:ah) (j:s.length≤1000):aj vE 80 [.str s] (vo (yrP s)):=by
 refine ax iK NJ 12 2 ?_
 (rw[Mq];(conv=>zeta);rw[R9])
 cases s with
 |nil=>rfl
 |cons c t=>
  have k: ∀(d:ah) (b:Bool),(d.length<(c::t).length↔b=true)→d.all isDigit=true→4≤d.length→d.length≤5→mq 12 [] 12 (c::t) d 0 0 some=some (vo (if b=true then -(val d:Int) else(val d:Int),0)):=by
   intro d b i n e h3;have:=Wn (c::t) d n h3 11 0 (by omega) (by omega);have l:((val (d.take 0):Nat):Int)=0:=rfl;rw[l] at this;refine Eq.trans this ?_;by_cases h:d.length<(c::t).length
   ·rw[if_pos h,if_pos (i.1 h)]
   ·rw[if_neg h,if_neg (fun f=>h (i.2 f))]
  rw[ai (aY (by rw[av,fQ];omega)),ai (by rw[ay,ak,aQ,av,fQ];omega)];by_cases h:c=45
  ·rw[ai (dN (by rw[h];rfl)),ai (by rw[ay,ak,ak,av,fQ];omega)]
   have m:bW (c::t) 1 (aF (c::t))=t:=by
    rw[av,show(1:Int)=((1:Nat):Int) from rfl,iw];simp
   have a:minus (c::t)=true:=by rw[h];rfl
   have g:bare (c::t)=t:=by unfold bare;rw[a];rfl
   rw[m,a,g];exact E7 _ t true (by simp at j;omega) _ (k t true (by simp))
  ·have f:(c==45)=false:=by simpa using h
   rw[aB (bD (by
    intro e;refine h (UInt8.toNat_inj.1 ?_);have e:(c.toNat:Int)=45:=e;show c.toNat=45;omega))]
   have a:minus (c::t)=false:=f;have g:bare (c::t)=c::t:=by unfold bare;rw[a];rfl
   rw[a,g];exact E7 _ (c::t) false j _ (k (c::t) false (by simp))
theorem Cn: ∀(d:ah) (n:Nat),d.foldl (fun n c=>10*n+(c.toNat-48)) n=n*10 ^ d.length+val d
 |[],n=>by show n=n*10 ^ 0+0;omega
 |c::t,n=>by
  have e:=Cn t (10*n+(c.toNat-48));have b:=Cn t (10*0+(c.toNat-48));have a:val (c::t)=t.foldl (fun n c=>10*n+(c.toNat-48)) (10*0+(c.toNat-48)):=rfl;rw[a,b];show t.foldl (fun n c=>10*n+(c.toNat-48)) (10*n+(c.toNat-48))=_;rw[e,fQ,U5,xG,xG,Nat.mul_zero,acR,Nat.mul_comm 10 n,Nat.mul_assoc,Nat.mul_comm 10 (10 ^ t.length)];omega
theorem val_one (d:ah):val (49::d)=10 ^ d.length+val d:=by
 show d.foldl (fun n c=>10*n+(c.toNat-48)) 1=_;rw[Cn,UM]
theorem TQ (d:ah) (a:d.all isDigit=true) (hl:d.length≤5):Num.read (49::d)=(((10 ^ d.length+val d:Nat):Int),0):=by
 have c:=sH a hl d.length;rw[QA] at c;have h3:10 ^ d.length≤10 ^ 5:=UZ (by decide) hl;have g:0<10 ^ d.length:=acP (by decide);have f:minus (49::d)=false:=rfl;have b:bare (49::d)=49::d:=rfl;have e:good (49::d)=true:=by
  unfold good;rw[b,U3,a];rfl
 unfold Num.read;rw[e,if_pos rfl,f,b,val_one,if_neg (show¬false=true by decide)];unfold told;rw[if_pos (by unfold Fits;omega)]
theorem Mv (s d:ah) (b:Bool) (w0 q:Int) (v L:Nat) (hL:L=4∨L=5) (i:v<10 ^ L):
  qV 12 [] 12 s d b q w0 ((10 ^ L+v:Nat):Int) 1 some=some (vo (if b=true then -(v:Int) else(v:Int),0)):=by
 have m1:fM .i64 1 10=10:=iH (by decide);have c:fM .i64 10 10=100:=iH (by decide);have f:fM .i64 100 10=1000:=iH (by decide);have j:fM .i64 1000 10=10000:=iH (by decide);have g:fM .i64 10000 10=100000:=iH (by decide);have k:fM .i64 100000 10=1000000:=iH (by decide);rcases hL with h|h
 ·subst h
  have e:((10 ^ 4+v:Nat):Int)=10000+(v:Int):=by omega
  have i:(v:Int)<10000:=by omega
  rw[e]
  (rw[dJ];(conv=>zeta);rw[m1,aB (aW (by omega)),dJ];(conv=>zeta);rw[c,aB (aW (by omega)),dJ];(conv=>zeta);rw[f,aB (aW (by omega)),dJ];(conv=>zeta);rw[j,aB (aW (by omega)),dJ];(conv=>zeta);rw[g,ai (aY (by omega)),bZ (a:=10000+(v:Int)) (by omega),bZ (by omega)])
  cases b
  ·rw[aB rfl];unfold vo;rw[if_neg (by decide)];congr 4;omega
  ·rw[ai rfl];unfold vo;rw[if_pos rfl];congr 4;omega
 ·subst h
  have e:((10 ^ 5+v:Nat):Int)=100000+(v:Int):=by omega
  have i:(v:Int)<100000:=by omega
  rw[e]
  (rw[dJ];(conv=>zeta);rw[m1,aB (aW (by omega)),dJ];(conv=>zeta);rw[c,aB (aW (by omega)),dJ];(conv=>zeta);rw[f,aB (aW (by omega)),dJ];(conv=>zeta);rw[j,aB (aW (by omega)),dJ];(conv=>zeta);rw[g,aB (aW (by omega)),dJ];(conv=>zeta);rw[k,ai (aY (by omega)),bZ (a:=100000+(v:Int)) (by omega),bZ (by omega)])
  cases b
  ·rw[aB rfl];unfold vo;rw[if_neg (by decide)];congr 4;omega
  ·rw[ai rfl];unfold vo;rw[if_pos rfl];congr 4;omega
theorem Qd (s d:ah) (b:Bool) (hl:d.length≤1000) (a:d.all isDigit=true) (n:4≤d.length):
  sel (au (aD 0 (imax (bu .i64 (aF d) 5) 0)) (aD (imax (bu .i64 (aF d) 5) 0) (aF d)))
   (sel (bC [49] (bW d (imax (bu .i64 (aF d) 5) 0) (aF d)))
    (sel (aD (aF (bg [49] (bW d (imax (bu .i64 (aF d) 5) 0) (aF d)))) 1000)
     (sel (aT (ieq (nrW (bg [49] (bW d (imax (bu .i64 (aF d) 5) 0) (aF d)))) 0)) (some (V.tup [V.int .i64 0,V.int .i64 1]))
      (sel (aU 5 (aF d)) (some (V.tup [V.int .i64 0,V.int .i64 1]))
       (qV 12 [] 12 s d b (Vb (bg [49] (bW d (imax (bu .i64 (aF d) 5) 0) (aF d)))) (nrW (bg [49] (bW d (imax (bu .i64 (aF d) 5) 0) (aF d)))) (Vb (bg [49] (bW d (imax (bu .i64 (aF d) 5) 0) (aF d)))) 1 some)))
     none)
    none)
   none=some (vo (if 5<d.length then(0,1) else(if b=true then -(val d:Int) else(val d:Int),0))):=by
 have h:imax (bu .i64 (aF d) 5) 0=((d.length-5:Nat):Int):=by
  rw[av,bZ (by omega)];unfold imax;omega
 rw[h,av,iw];have l:((d.drop (d.length-5)).take (d.length-(d.length-5))).length≤5:=by rw[Dv];omega
 generalize m:(d.drop (d.length-5)).take (d.length-(d.length-5))=z at l;have i:bg [49] z=49::z:=rfl;rw[i,ai (by rw[ay,ak,ak];omega),ai (by rw[jO];simp only[fQ,nN];omega),ai (cO (by rw[av,fQ];omega))];by_cases f:5<d.length
 ·rw[if_pos f,ai (c:=aU 5 _) (aY (by omega))]
  cases aT (ieq (nrW (49::z)) 0)<;>rfl
 ·have j:z=d:=by rw[←m,show d.length-5=0 by omega,Ko,U4,QA]
  rw[j];have e:=TQ d a (by omega);have k:Vb (49::d)=((10 ^ d.length+val d:Nat):Int):=by unfold Vb;rw[e]
  have g:nrW (49::d)=0:=by unfold nrW;rw[e]
  rw[k,g,aB (by rfl),aB (aW (by omega)),if_neg f];refine Mv s d b 0 _ (val d) d.length (by omega) ?_;have:=RV d a d.length;rw[QA] at this;exact this
theorem TR (s:ah) (o:s.length≤1000):aj uE 75 [.str s] (vo (yrP s)):=by
 refine ax El K8 12 4 ?_;have n:=Ci s;have k:Vs s [45]=minus s:=lI s;have m:Q8 s [45]=bare s:=by unfold Q8 Lib.trimPrefix bare;rw[show Lib.hasPrefix s [45]=minus s from lI s];rfl
 (rw[P7];(conv=>zeta);rw[R9,k,m,ai (cO (by rw[av];omega)),ai (cO (by rw[av];omega))])
 generalize minus s=b;generalize bare s=d at*;have hl:d.length≤1000:=by omega
 have j:HY d 4=(decide (4≤d.length)&&d.all isDigit):=by
  unfold HY;congr 1
  rw[D8,Ol,Ol];omega
 rw[j];unfold yrQ;by_cases g:d.length<4
 ·rw[ve (by omega),ai (by rfl),if_pos (.inl g)];rfl
 rw[Dx (by omega)]
 cases l:d.all isDigit with
 |false=>rw[ai (by rfl),if_pos (.inr (.inl rfl))];rfl
 |true=>
  rw[aB (c:=aT (true&&true)) (by rfl)];rw[Qd s d b hl l (by omega)];generalize (if 5<d.length then((0:Int),(1:Int)) else(if b=true then -(val d:Int) else(val d:Int),0))=q;by_cases a:s=[45,48,48,48,48]
  ·have e:seq s [45,48,48,48,48]=true:=by rw[nZ];exact a
   rw[e,if_pos (.inr (.inr (.inr a)))];simp only[jv,Ns,if_true];repeat' split
   all_goals first|rfl|(exfalso;simp only[ay,ak,aQ,av] at*;omega)
  ·have e:seq s [45,48,48,48,48]=false:=by
    cases h:seq s [45,48,48,48,48] with
    |false=>rfl
    |true=>rw[nZ] at h;exact absurd h a
   rw[e,aB rfl];by_cases i:4<d.length
   ·rw[ai (aY (by rw[av];omega)),ai (by rw[ay,ak,aQ,av];omega)]
    by_cases f:d.getD 0 0=48
    ·rw[ai (dN (by rw[show(0:Int)=((0:Nat):Int) from rfl,lX,f];rfl)),if_pos (.inr (.inr (.inl ⟨i,f⟩)))];rfl
    ·rw[aB (bD (by
      rw[show(0:Int)=((0:Nat):Int) from rfl,lX];intro h;exact f (UInt8.toNat_inj.1 (by show _=48;omega))))]
     rw[if_neg (by
        rintro(h|h|⟨_,h⟩|h); · exact g h
        ·cases h
        ·exact f h
        ·exact a h)]
   ·rw[aB (aW (by rw[av];omega))]
    rw[if_neg (by
       rintro(h|h|⟨h,_⟩|h); · exact g h
       ·cases h
       ·exact i h
       ·exact a h)]
theorem Qe (s:ah) (a:aD (aF s) 1000=true):aj uE 75 [.str s] (.tup [.int .i64 (MI s),.int .i64 (QS s)]):=TR s (Bq a)
theorem lN (s:ah) (a:aD (aF s) 1000=true):aj uE 80 [.str s] (.tup [.int .i64 (MI s),.int .i64 (QS s)]):=US (Qc s (Bq a))
theorem Qf (s:ah) (a:aD (aF s) 1000=true):aj uE 78 [.str s] (.bool (zY s)):=US (IX s a)
theorem TS (s:ah) (a:au (aD 2 (aF s)) (aD (aF s) 1000)=true):aj uE 79 [.str s] (.int .i64 (Bp s)):=by
 rw[ay,ak,ak,av] at a;refine US (ax iK NJ 5 2 ?_);rw[PS,ai (by rw[ay,ak,aQ,av];omega),ai (by rw[ay,ak,aQ,av];omega)];rfl
theorem Sb:bT uE ZT:=by
 unfold ZT;refine bT.cons (fun args r h=>?_) (bT.cons (fun args r h=>?_) (bT.cons (fun args r h=>?_) (bT.cons (fun args r h=>?_) (bT.cons (fun args r h=>?_) K8))));all_goals (revert h;intro h;first|unfold K6 at h|unfold R8 at h|unfold XU at h|unfold Az at h)
 all_goals (split at h;rotate_left; · cases h)
 all_goals (simp only[aI,bU] at h;obtain⟨a,rfl⟩:=h)
 ·exact Qe _ a
 ·exact lN _ a
 ·exact Qf _ a
 ·exact TS _ a
 ·exact kS _ _ _ _ _ _ rfl
def sS (x:ah) (c:UInt8):Bool:=(x.getD 0 0==c)&&(isDigit (x.getD 1 0)&&isDigit (x.getD 2 0))
def sU (x:ah):Int:=Bp (x.drop 1)
def Q9:ah:=[45,45,84,58,58]
def mF (t:ah) (i:Nat):Bool:=sS (t.drop (3*i)) (Q9.getD i 0)
def gy (t:ah) (i:Nat):Int:=sU (t.drop (3*i))
def YR (t:ah):Bool:=mF t 0&&(mF t 1&&(mF t 2&&(mF t 3&&mF t 4)))
def z6:List Int:=[0,0,0,0,0,0]
def rdQ (y t:ah):List Int×Int:=
 if YR t=true then(if QS y=0 then(if xD (MI y) (gy t 0) (gy t 1) (gy t 2) (gy t 3) (gy t 4)=true then([MI y,gy t 0,gy t 1,gy t 2,gy t 3,gy t 4],0) else(z6,1)) else(z6,QS y)) else(z6,4)
def Xt (s:ah):List Int×Int:=if s.length<15 then(z6,4) else rdQ (s.take (s.length-15)) (s.drop (s.length-15))
theorem three {x:ah} (h:3≤x.length): ∃a b c r,x=a::b::c::r:=by
 match x,h with
 |a::b::c::r,_=>exact⟨a,b,c,r,rfl⟩
theorem BL (a:UInt8) (n:Nat) (b:n<256):ieq (a.toNat:Int) (n:Int)=(a==UInt8.ofNat n):=by
 rw[D8,lW,ig];constructor
 ·intro h
  apply UInt8.toNat_inj.1
  rw[acE];omega
 ·intro h
  rw[h,acE];omega
set_option maxRecDepth 10000 in
theorem TT (F n:Nat) (s x:ah) (x3 x4 b0 b1 b2 b3 b4 e0 e1 e2 e3 e4 e5:Int) (K:V→Option V) (h3:3≤x.length) (hl:x.length≤1000):
  eX F [] (n+1) s x3 x4 x 0 b0 b1 b2 b3 b4 e0 e1 e2 e3 e4 e5 K=if sS x 45=true then eX F [] n s x3 x4 (x.drop 3) 1 (sU x) b1 b2 b3 b4 e0 e1 e2 e3 e4 e5 K else K (V.tup [V.agg [V.int .i64 0,V.int .i64 0,V.int .i64 0,V.int .i64 0,V.int .i64 0,V.int .i64 0],V.int .i64 4]):=by
 obtain⟨a,b,c,r,rfl⟩:=three h3;have g0:sat (a::b::c::r) 0=(a.toNat:Int):=rfl;have g1:bW (a::b::c::r) 1 3=[b,c]:=rfl;have g3:bW (a::b::c::r) 3 (aF (a::b::c::r))=r:=by
  rw[av,show(3:Int)=((3:Nat):Int) from rfl,iw];simp
 have g4:aV .i64 0 1=1:=aZ (by decide);have g5:HY [b,c] 2=(isDigit b&&isDigit c):=by unfold HY;simp
 have f3:au (aD 0 0) (aU 0 (aF (a::b::c::r)))=true:=by rw[ay,ak,aQ,av];omega
 have f5:au (au (aD 0 3) (aD 3 (aF (a::b::c::r)))) (au (aD 0 1) (aD 1 3))=true:=by simp only[ay,ak,av];omega
 have f8:au (aD 0 1) (aU 1 (aF (a::b::c::r)))=true:=by rw[ay,ak,aQ,av];omega
 have f9:au (aD 0 2) (aU 2 (aF (a::b::c::r)))=true:=by rw[ay,ak,aQ,av];omega
 have f10:au (aD 0 3) (aD 3 (aF (a::b::c::r)))=true:=by rw[ay,ak,ak,av];omega
 have hv:sU (a::b::c::r)=aV .i64 (fM .i64 (gu .i64 (bu .u8 (sat (a::b::c::r) 1) 48)) 10) (gu .i64 (bu .u8 (sat (a::b::c::r) 2) 48)):=rfl;have hr:sS (a::b::c::r) 45=((a==45)&&(isDigit b&&isDigit c)):=rfl
 (rw[iF];(conv=>zeta);rw[ai (aY (by decide)),ai (dN rfl),ai f3,g0,show ieq (a.toNat:Int) 45=(a==45) from BL a 45 (by decide),ai f5,g1,ai (c:=aD (aF [b,c]) 1000) (cO (by rw[av,fQ,fQ,nN];decide)),g5,ai f8,ai f9,ai (dN rfl),ai f10,g3,g4,←hv,hr])
 cases(a==45)<;>cases(isDigit b&&isDigit c)<;>rfl
set_option maxRecDepth 10000 in
theorem TU (F n:Nat) (s x:ah) (x3 x4 b0 b1 b2 b3 b4 e0 e1 e2 e3 e4 e5:Int) (K:V→Option V) (h3:3≤x.length) (hl:x.length≤1000):
  eX F [] (n+1) s x3 x4 x 1 b0 b1 b2 b3 b4 e0 e1 e2 e3 e4 e5 K=if sS x 45=true then eX F [] n s x3 x4 (x.drop 3) 2 b0 (sU x) b2 b3 b4 e0 e1 e2 e3 e4 e5 K else K (V.tup [V.agg [V.int .i64 0,V.int .i64 0,V.int .i64 0,V.int .i64 0,V.int .i64 0,V.int .i64 0],V.int .i64 4]):=by
 obtain⟨a,b,c,r,rfl⟩:=three h3;have g0:sat (a::b::c::r) 0=(a.toNat:Int):=rfl;have g1:bW (a::b::c::r) 1 3=[b,c]:=rfl;have g3:bW (a::b::c::r) 3 (aF (a::b::c::r))=r:=by
  rw[av,show(3:Int)=((3:Nat):Int) from rfl,iw];simp
 have g4:aV .i64 1 1=2:=aZ (by decide);have g5:HY [b,c] 2=(isDigit b&&isDigit c):=by unfold HY;simp
 have f3:au (aD 0 0) (aU 0 (aF (a::b::c::r)))=true:=by rw[ay,ak,aQ,av];omega
 have f5:au (au (aD 0 3) (aD 3 (aF (a::b::c::r)))) (au (aD 0 1) (aD 1 3))=true:=by simp only[ay,ak,av];omega
 have f8:au (aD 0 1) (aU 1 (aF (a::b::c::r)))=true:=by rw[ay,ak,aQ,av];omega
 have f9:au (aD 0 2) (aU 2 (aF (a::b::c::r)))=true:=by rw[ay,ak,aQ,av];omega
 have f10:au (aD 0 3) (aD 3 (aF (a::b::c::r)))=true:=by rw[ay,ak,ak,av];omega
 have hv:sU (a::b::c::r)=aV .i64 (fM .i64 (gu .i64 (bu .u8 (sat (a::b::c::r) 1) 48)) 10) (gu .i64 (bu .u8 (sat (a::b::c::r) 2) 48)):=rfl;have hr:sS (a::b::c::r) 45=((a==45)&&(isDigit b&&isDigit c)):=rfl
 (rw[iF];(conv=>zeta);rw[ai (aY (by decide)),aB (bD (by decide)),ai (dN rfl),ai f3,g0,show ieq (a.toNat:Int) 45=(a==45) from BL a 45 (by decide),ai f5,g1,ai (c:=aD (aF [b,c]) 1000) (cO (by rw[av,fQ,fQ,nN];decide)),g5,ai f8,ai f9,aB (bD (by decide)),ai (dN rfl),ai f10,g3,g4,←hv,hr])
 cases(a==45)<;>cases(isDigit b&&isDigit c)<;>rfl
set_option maxRecDepth 10000 in
theorem TV (F n:Nat) (s x:ah) (x3 x4 b0 b1 b2 b3 b4 e0 e1 e2 e3 e4 e5:Int) (K:V→Option V) (h3:3≤x.length) (hl:x.length≤1000):
  eX F [] (n+1) s x3 x4 x 2 b0 b1 b2 b3 b4 e0 e1 e2 e3 e4 e5 K=if sS x 84=true then eX F [] n s x3 x4 (x.drop 3) 3 b0 b1 (sU x) b3 b4 e0 e1 e2 e3 e4 e5 K else K (V.tup [V.agg [V.int .i64 0,V.int .i64 0,V.int .i64 0,V.int .i64 0,V.int .i64 0,V.int .i64 0],V.int .i64 4]):=by
 obtain⟨a,b,c,r,rfl⟩:=three h3;have g0:sat (a::b::c::r) 0=(a.toNat:Int):=rfl;have g1:bW (a::b::c::r) 1 3=[b,c]:=rfl;have g3:bW (a::b::c::r) 3 (aF (a::b::c::r))=r:=by
  rw[av,show(3:Int)=((3:Nat):Int) from rfl,iw];simp
 have g4:aV .i64 2 1=3:=aZ (by decide);have g5:HY [b,c] 2=(isDigit b&&isDigit c):=by unfold HY;simp
 have f3:au (aD 0 0) (aU 0 (aF (a::b::c::r)))=true:=by rw[ay,ak,aQ,av];omega
 have f5:au (au (aD 0 3) (aD 3 (aF (a::b::c::r)))) (au (aD 0 1) (aD 1 3))=true:=by simp only[ay,ak,av];omega
 have f8:au (aD 0 1) (aU 1 (aF (a::b::c::r)))=true:=by rw[ay,ak,aQ,av];omega
 have f9:au (aD 0 2) (aU 2 (aF (a::b::c::r)))=true:=by rw[ay,ak,aQ,av];omega
 have f10:au (aD 0 3) (aD 3 (aF (a::b::c::r)))=true:=by rw[ay,ak,ak,av];omega
 have hv:sU (a::b::c::r)=aV .i64 (fM .i64 (gu .i64 (bu .u8 (sat (a::b::c::r) 1) 48)) 10) (gu .i64 (bu .u8 (sat (a::b::c::r) 2) 48)):=rfl;have hr:sS (a::b::c::r) 84=((a==84)&&(isDigit b&&isDigit c)):=rfl
 (rw[iF];(conv=>zeta);rw[ai (aY (by decide)),aB (bD (by decide)),aB (bD (by decide)),ai (dN rfl),ai f3,g0,show ieq (a.toNat:Int) 84=(a==84) from BL a 84 (by decide),ai f5,g1,ai (c:=aD (aF [b,c]) 1000) (cO (by rw[av,fQ,fQ,nN];decide)),g5,ai f8,ai f9,aB (bD (by decide)),aB (bD (by decide)),ai (dN rfl),ai f10,g3,g4,←hv,hr])
 cases(a==84)<;>cases(isDigit b&&isDigit c)<;>rfl
set_option maxRecDepth 10000 in
theorem TW (F n:Nat) (s x:ah) (x3 x4 b0 b1 b2 b3 b4 e0 e1 e2 e3 e4 e5:Int) (K:V→Option V) (h3:3≤x.length) (hl:x.length≤1000):
  eX F [] (n+1) s x3 x4 x 3 b0 b1 b2 b3 b4 e0 e1 e2 e3 e4 e5 K=if sS x 58=true then eX F [] n s x3 x4 (x.drop 3) 4 b0 b1 b2 (sU x) b4 e0 e1 e2 e3 e4 e5 K else K (V.tup [V.agg [V.int .i64 0,V.int .i64 0,V.int .i64 0,V.int .i64 0,V.int .i64 0,V.int .i64 0],V.int .i64 4]):=by
 obtain⟨a,b,c,r,rfl⟩:=three h3;have g0:sat (a::b::c::r) 0=(a.toNat:Int):=rfl;have g1:bW (a::b::c::r) 1 3=[b,c]:=rfl;have g3:bW (a::b::c::r) 3 (aF (a::b::c::r))=r:=by
  rw[av,show(3:Int)=((3:Nat):Int) from rfl,iw];simp
 have g4:aV .i64 3 1=4:=aZ (by decide);have g5:HY [b,c] 2=(isDigit b&&isDigit c):=by unfold HY;simp
 have f3:au (aD 0 0) (aU 0 (aF (a::b::c::r)))=true:=by rw[ay,ak,aQ,av];omega
 have f5:au (au (aD 0 3) (aD 3 (aF (a::b::c::r)))) (au (aD 0 1) (aD 1 3))=true:=by simp only[ay,ak,av];omega
 have f8:au (aD 0 1) (aU 1 (aF (a::b::c::r)))=true:=by rw[ay,ak,aQ,av];omega
 have f9:au (aD 0 2) (aU 2 (aF (a::b::c::r)))=true:=by rw[ay,ak,aQ,av];omega
 have f10:au (aD 0 3) (aD 3 (aF (a::b::c::r)))=true:=by rw[ay,ak,ak,av];omega
 have hv:sU (a::b::c::r)=aV .i64 (fM .i64 (gu .i64 (bu .u8 (sat (a::b::c::r) 1) 48)) 10) (gu .i64 (bu .u8 (sat (a::b::c::r) 2) 48)):=rfl;have hr:sS (a::b::c::r) 58=((a==58)&&(isDigit b&&isDigit c)):=rfl
 (rw[iF];(conv=>zeta);rw[ai (aY (by decide)),aB (bD (by decide)),aB (bD (by decide)),aB (bD (by decide)),ai (dN rfl),ai f3,g0,show ieq (a.toNat:Int) 58=(a==58) from BL a 58 (by decide),ai f5,g1,ai (c:=aD (aF [b,c]) 1000) (cO (by rw[av,fQ,fQ,nN];decide)),g5,ai f8,ai f9,aB (bD (by decide)),aB (bD (by decide)),aB (bD (by decide)),ai (dN rfl),ai f10,g3,g4,←hv,hr])
 cases(a==58)<;>cases(isDigit b&&isDigit c)<;>rfl
set_option maxRecDepth 10000 in
theorem TX (F n:Nat) (s x:ah) (x3 x4 b0 b1 b2 b3 b4 e0 e1 e2 e3 e4 e5:Int) (K:V→Option V) (h3:3≤x.length) (hl:x.length≤1000):
  eX F [] (n+1) s x3 x4 x 4 b0 b1 b2 b3 b4 e0 e1 e2 e3 e4 e5 K=if sS x 58=true then eX F [] n s x3 x4 (x.drop 3) 5 b0 b1 b2 b3 (sU x) e0 e1 e2 e3 e4 e5 K else K (V.tup [V.agg [V.int .i64 0,V.int .i64 0,V.int .i64 0,V.int .i64 0,V.int .i64 0,V.int .i64 0],V.int .i64 4]):=by
 obtain⟨a,b,c,r,rfl⟩:=three h3;have g0:sat (a::b::c::r) 0=(a.toNat:Int):=rfl;have g1:bW (a::b::c::r) 1 3=[b,c]:=rfl;have g3:bW (a::b::c::r) 3 (aF (a::b::c::r))=r:=by
  rw[av,show(3:Int)=((3:Nat):Int) from rfl,iw];simp
 have g4:aV .i64 4 1=5:=aZ (by decide);have g5:HY [b,c] 2=(isDigit b&&isDigit c):=by unfold HY;simp
 have f3:au (aD 0 0) (aU 0 (aF (a::b::c::r)))=true:=by rw[ay,ak,aQ,av];omega
 have f5:au (au (aD 0 3) (aD 3 (aF (a::b::c::r)))) (au (aD 0 1) (aD 1 3))=true:=by simp only[ay,ak,av];omega
 have f8:au (aD 0 1) (aU 1 (aF (a::b::c::r)))=true:=by rw[ay,ak,aQ,av];omega
 have f9:au (aD 0 2) (aU 2 (aF (a::b::c::r)))=true:=by rw[ay,ak,aQ,av];omega
 have f10:au (aD 0 3) (aD 3 (aF (a::b::c::r)))=true:=by rw[ay,ak,ak,av];omega
 have hv:sU (a::b::c::r)=aV .i64 (fM .i64 (gu .i64 (bu .u8 (sat (a::b::c::r) 1) 48)) 10) (gu .i64 (bu .u8 (sat (a::b::c::r) 2) 48)):=rfl;have hr:sS (a::b::c::r) 58=((a==58)&&(isDigit b&&isDigit c)):=rfl
 (rw[iF];(conv=>zeta);rw[ai (aY (by decide)),aB (bD (by decide)),aB (bD (by decide)),aB (bD (by decide)),aB (bD (by decide)),ai (dN rfl),ai f3,g0,show ieq (a.toNat:Int) 58=(a==58) from BL a 58 (by decide),ai f5,g1,ai (c:=aD (aF [b,c]) 1000) (cO (by rw[av,fQ,fQ,nN];decide)),g5,ai f8,ai f9,aB (bD (by decide)),aB (bD (by decide)),aB (bD (by decide)),aB (bD (by decide)),ai (dN rfl),ai f10,g3,g4,←hv,hr])
 cases(a==58)<;>cases(isDigit b&&isDigit c)<;>rfl
theorem Wo {s:ah} (h: ¬s.length<15):(s.drop (s.length-15)).length=15:=by rw[xB];omega
theorem TY (s:ah) (p:s.length≤1000):aj uE 49 [.str s] (DI (Xt s)):=by
 refine ax El Sb 8 2 ?_
 (rw[P8];(conv=>zeta);rw[av,bZ (by omega)])
 unfold Xt;by_cases h:s.length<15
 ·rw[ai (aY (by omega)),if_pos h];rfl
 have g:(s.length:Int)-15=((s.length-15:Nat):Int):=by omega
 rw[aB (aW (by omega)),ai (by rw[ay,ak,ak];omega),if_neg h,g,iw];have o:(s.drop (s.length-15)).take (s.length-(s.length-15))=s.drop (s.length-15):=by rw[Hw (by rw[xB];omega)]
 have hl:=Wo h;rw[o];unfold rdQ YR;generalize s.drop (s.length-15)=t at*;have q:DI (z6,4)=(V.tup [V.agg [V.int .i64 0,V.int .i64 0,V.int .i64 0,V.int .i64 0,V.int .i64 0,V.int .i64 0],V.int .i64 4]):=rfl;rw[TT (h3:=by omega) (hl:=by omega)];have b:mF t 0=sS t 45:=rfl;have l:gy t 0=sU t:=rfl;rw[←b,←l]
 cases mF t 0 with
 |false=>rw[if_neg (show¬false=true by decide),if_neg (by simp)];rfl
 |true=>
 rw[if_pos rfl,Fy,TU (h3:=by rw[xB];omega) (hl:=by rw[xB];omega)];have j:mF t 1=sS (t.drop 3) 45:=rfl;have k:gy t 1=sU (t.drop 3):=rfl;rw[←j,←k]
 cases mF t 1 with
 |false=>rw[if_neg (show¬false=true by decide),if_neg (by simp)];rfl
 |true=>
 rw[if_pos rfl,Fy,TV (h3:=by rw[xB,xB];omega) (hl:=by rw[xB,xB];omega),Kk];have n:mF t 2=sS (t.drop (3+3)) 84:=rfl;have e:gy t 2=sU (t.drop (3+3)):=rfl;rw[←n,←e]
 cases mF t 2 with
 |false=>rw[if_neg (show¬false=true by decide),if_neg (by simp)];rfl
 |true=>
 rw[if_pos rfl,Fy,Kk,TW (h3:=by rw[xB];omega) (hl:=by rw[xB];omega)];have m:mF t 3=sS (t.drop (3+3+3)) 58:=rfl;have d:gy t 3=sU (t.drop (3+3+3)):=rfl;rw[←m,←d]
 cases mF t 3 with
 |false=>rw[if_neg (show¬false=true by decide),if_neg (by simp)];rfl
 |true=>
 rw[if_pos rfl,Fy,Kk,TX (h3:=by rw[xB];omega) (hl:=by rw[xB];omega)];have c:mF t 4=sS (t.drop (3+3+3+3)) 58:=rfl;have f:gy t 4=sU (t.drop (3+3+3+3)):=rfl;rw[←c,←f]
 cases mF t 4 with
 |false=>rw[if_neg (show¬false=true by decide),if_neg (by simp)];rfl
 |true=>
 (rw[if_pos rfl,if_pos rfl,iF];(conv=>zeta);rw[aB (aW (by decide)),ai (by rw[ay,ak,ak,av];omega)])
 have i:bW s 0 ((s.length-15:Nat):Int)=s.take (s.length-15):=by rw[show(0:Int)=((0:Nat):Int) from rfl,iw,Ko,U4]
 rw[i,ai (cO (by rw[av,Dv];omega))];generalize s.take (s.length-15)=y;by_cases a:QS y=0
 ·rw[aB (by rw[dN a];rfl),if_pos a]
  cases xD (MI y) (gy t 0) (gy t 1) (gy t 2) (gy t 3) (gy t 4)<;>rfl
 ·rw[ai (by rw[bD a];rfl),if_neg a];rfl
theorem sel2 {α:Type} (p q:Bool) (x y:α):sel (aT p) y (sel (aT q) y x)=if(p&&q)=true then x else y:=by cases p<;>cases q<;>rfl
theorem T3 (F n i:Nat) (s:ah) (d:Nat) (xs:af) (k h p o q t j:Int) (K:V→Option V) (H:i<5) (G:s.length≤1000) (I:d+15=s.length) (hx:xs.length≤100):
  mr F [] (n+1) s k (d:Int) [45,45,84,58,58] xs (i:Int) h p o q t j K=if mF (s.drop d) i=true then mr F [] n s k (d:Int) [45,45,84,58,58] (xs++[V.int .i64 (gy (s.drop d) i)]) ((i+1:Nat):Int) h p o q t j K else K (V.tup [V.agg [V.int .i64 0,V.int .i64 0,V.int .i64 0,V.int .i64 0,V.int .i64 0,V.int .i64 0],V.int .i64 4]):=by
 have D:aV .i64 (d:Int) (fM .i64 3 (i:Int))=((d+3*i:Nat):Int):=by rw[iH (by omega),aZ (by omega)];omega
 have E:aV .i64 ((d+3*i:Nat):Int) 1=((d+3*i+1:Nat):Int):=by rw[aZ (by omega)];omega
 have y:aV .i64 ((d+3*i:Nat):Int) 3=((d+3*i+3:Nat):Int):=by rw[aZ (by omega)];omega
 have z:aV .i64 (i:Int) 1=((i+1:Nat):Int):=by rw[aZ (by omega)];omega
 obtain⟨a,b,c,r,hx⟩:=three (x:=s.drop (d+3*i)) (by rw[xB];omega);have g:(s.drop d).drop (3*i)=a::b::c::r:=by rw[Kk,hx]
 have f:s.drop (d+3*i+1)=b::c::r:=by rw[←Kk,hx];rfl
 have g0:sat s ((d+3*i:Nat):Int)=(a.toNat:Int):=by
  rw[lX,sV];have:=congrArg (fun l=>l[0]?) hx;simp only[Hy,Oq,Dt] at this;rw[this];rfl
 have g1:bW s ((d+3*i+1:Nat):Int) ((d+3*i+3:Nat):Int)=[b,c]:=by
  rw[iw,f,show d+3*i+3-(d+3*i+1)=2 by omega];rfl
 have m:r.length+3=s.length-(d+3*i):=by
  have:=congrArg List.length hx;rw[xB] at this;simp only[fQ] at this;omega
 have v:bW s ((d+3*i+1:Nat):Int) (aF s)=b::c::r:=by
  rw[av,iw,f,Hw (by simp only[fQ];omega)]
 have B:zY [b,c]=(isDigit b&&isDigit c):=by unfold zY Ay;simp
 have u:sat [45,45,84,58,58] (i:Int)=((Q9.getD i 0).toNat:Int):=lX _ _;have A:mF (s.drop d) i=((a==Q9.getD i 0)&&(isDigit b&&isDigit c)):=by unfold mF;rw[g];rfl
 have C:gy (s.drop d) i=Bp (b::c::r):=by unfold gy;rw[g];rfl
 have w:ieq (a.toNat:Int) ((Q9.getD i 0).toNat:Int)=(a==Q9.getD i 0):=by
  rw[D8,lW,ig,←UInt8.toNat_inj];omega
 (rw[rE];(conv=>zeta);rw[ai (aY (by omega)),D,E,y,z,g0,g1,v,B,u,w,A,C])
 rw[ai (by rw[ay,ak,aQ,av];omega),ai (by rw[ay,ak,aQ,av];simp only[fQ,nN];omega)];rw[ai (c:=au (au _ _) (au _ _)) (by simp only[ay,ak,av];omega),ai (c:=aD (aF [b,c]) 1000) (cO (by rw[av,fQ,fQ,nN];decide))];rw[ai (c:=au (aD 0 _) (aD _ (aF s))) (by rw[ay,ak,ak,av];omega),ai (c:=au (aD 2 _) _) (by rw[ay,ak,ak,av];simp only[fQ];omega),ai (c:=dU _ _) (by rw[dm];simp only[fQ,nN];omega)];have e:bS xs [V.int .i64 (Bp (b::c::r))]=xs++[V.int .i64 (Bp (b::c::r))]:=rfl;rw[e];exact sel2 _ _ _ _
theorem Qg (s:ah) (f:s.length≤1000):aj uE 53 [.str s] (DI (Xt s)):=by
 refine ax El Sb 8 2 ?_
 (rw[Ms];(conv=>zeta);rw[av,bZ (by omega)])
 unfold Xt;by_cases h:s.length<15
 ·rw[ai (aY (by omega)),if_pos h];rfl
 have j:(s.length:Int)-15=((s.length-15:Nat):Int):=by omega
 rw[aB (aW (by omega)),if_neg h,j];have m:s.length-15+15=s.length:=by omega
 have o:(0:Int)=((0:Nat):Int):=rfl;have a:=fun(n i:Nat) (g:i<5) (xs:af) (hx:xs.length≤100)=>T3 8 n i s (s.length-15) xs 0 0 0 0 0 0 0 some g f m hx
 have d:=rE 8 2 s 0 ((s.length-15:Nat):Int) [45,45,84,58,58];unfold rdQ YR;generalize s.drop (s.length-15)=t at*;rw[show mr 8 [] 8 s 0 ((s.length-15:Nat):Int) [45,45,84,58,58] [] 0 0 0 0 0 0 0 some=_ from a 7 0 (by omega) [] (by decide)]
 cases mF t 0 with
 |false=>rw[if_neg (show¬false=true by decide),if_neg (by simp)];rfl
 |true=>
 rw[if_pos rfl,Fy,a 6 1 (by omega) _ (by simp)]
 cases mF t 1 with
 |false=>rw[if_neg (show¬false=true by decide),if_neg (by simp)];rfl
 |true=>
 rw[if_pos rfl,Fy,a 5 2 (by omega) _ (by simp)]
 cases mF t 2 with
 |false=>rw[if_neg (show¬false=true by decide),if_neg (by simp)];rfl
 |true=>
 rw[if_pos rfl,Fy,a 4 3 (by omega) _ (by simp)]
 cases mF t 3 with
 |false=>rw[if_neg (show¬false=true by decide),if_neg (by simp)];rfl
 |true=>
 rw[if_pos rfl,Fy,a 3 4 (by omega) _ (by simp)]
 cases mF t 4 with
 |false=>rw[if_neg (show¬false=true by decide),if_neg (by simp)];rfl
 |true=>
 rw[if_pos rfl,if_pos rfl,d,aB (aW (by decide)),ai (by rw[ay,ak,ak,av];omega)];have l:bW s 0 ((s.length-15:Nat):Int)=s.take (s.length-15):=by rw[show(0:Int)=((0:Nat):Int) from rfl,iw,Ko,U4]
 rw[l,ai (cO (by rw[av,Dv];omega))];generalize s.take (s.length-15)=y;by_cases c:QS y=0
 ·rw[aB (by rw[dN c];rfl),if_pos c]
  rw[ai (by rfl),ai (by rfl),ai (by rfl),ai (by rfl),ai (by rfl)];have k: ∀(b:Bool),b=xD (MI y) (gy t 0) (gy t 1) (gy t 2) (gy t 3) (gy t 4)→sel (aT b) (some (V.tup [V.agg [V.int .i64 0,V.int .i64 0,V.int .i64 0,V.int .i64 0,V.int .i64 0,V.int .i64 0],V.int .i64 1])) (some (V.tup [V.agg [V.int .i64 (MI y),V.int .i64 (gy t 0),V.int .i64 (gy t 1),V.int .i64 (gy t 2),V.int .i64 (gy t 3),V.int .i64 (gy t 4)],V.int .i64 0]))=some (DI (if xD (MI y) (gy t 0) (gy t 1) (gy t 2) (gy t 3) (gy t 4)=true then([MI y,gy t 0,gy t 1,gy t 2,gy t 3,gy t 4],0) else(z6,1))):=by
   intro b e;rw[←e]
   cases b<;>rfl
  exact k _ rfl
 ·rw[ai (by rw[bD c];rfl),if_neg c];rfl
end Nt.Ev.YtcmockbdkppglaaGreatDoor
