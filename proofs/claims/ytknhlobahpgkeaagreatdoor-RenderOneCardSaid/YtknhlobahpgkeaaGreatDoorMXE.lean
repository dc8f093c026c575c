/-
  Until: equations of functions, as the evaluator prints them. When eras end.
-/
import Derived.Test.YtknhlobahpgkeaaGreatDoorMXD
set_option linter.all false
set_option maxRecDepth 100000
namespace Nt.Ev.YtknhlobahpgkeaaGreatDoor.Un
open Go Nt.Num Go.Proofs.YtknhlobahpgkeaaGreatDoor
variable [kM]
open Nt.Ev.YtknhlobahpgkeaaGreatDoor
open Nt.Civil
open Nt.Ev.YtknhlobahpgkeaaGreatDoor.Rl
open Nt.Ev.YtknhlobahpgkeaaGreatDoor.Oc
noncomputable def uChS:aC:=fun a=>match a with|[.str s]=>some (true,.int .i64 (ja s))|_=>none
noncomputable def uS0:List (Nat×aC):=(87,uChS)::(38,kNmS)::(50,YZ)::(51,kCrS)::[]
def enP (h:Bool) (y m ok d a c b:Int):Bool:=sel h (aW (-32767) y&&(aW y 32767&&(E8 ok d a m&&dJ c b))) (ak (ieq y 0) (ak (ieq m 0) (ak (ak (ieq ok 0) (ak (ieq d 0) (ieq a 0))) (ak (ieq c 0) (ieq b 0)))))
def Tf (o k v:Int) (r q:af) (h:Bool) (y m ok d a c b:Int):Bool:=av (-54000) o&&(av o 54000&&(ieq (ja q) 0&&(enP h y m ok d a c b&&sel (ieq k 0) (ieq v 0&&seq r []) (sel (ieq k 1) (av (-10800) v&&(av v 10800&&seq r [])) (sel (ieq k 2) (ieq v 0&&ieq (dG r) 0) false)))))
noncomputable def uErS:aC:=fun a=>match a with|[.agg [.int .i64 o,.int .i64 k,.int .i64 v,.str r,.str q,.bool h,.int .i64 y,.int .i64 m,.int .i64 ok,.int .i64 ow,.int .i64 od,.int .i64 c,.int .i64 b]]=>some (true,.bool (Tf o k v r q h y m ok ow od c b))|_=>none
noncomputable def kP (xs:ah):Bool:=xs.all rOk&&av (ay xs) 1000
noncomputable def prB (xs:ah) (s:af) (x z:Int):Bool:=(prA xs s x z).1
noncomputable def prR (xs:ah) (s:af) (x z:Int):Int:=(prA xs s x z).2.1
noncomputable def prY (xs:ah) (s:af) (x z:Int):Int:=(prA xs s x z).2.2.1
noncomputable def prN (xs:ah) (s:af) (x z:Int):Int:=(prA xs s x z).2.2.2
noncomputable def uPvS:aC:=fun a=>match a with|[.sl e [.str,.int .i64,.int .i64,.int .i64,.int .i64,.int .i64,.int .i64,.int .i64,.int .i64,.int .i64,.str] o1 xs,.str s,.agg [.int .i64 x,.int .i64 y,.int .i64 z]]=>some (kP xs,.tup [.agg [.int .i64 (prR xs s x z),.int .i64 (prY xs s x z),.int .i64 (prN xs s x z)],.bool (prB xs s x z)])|_=>none
noncomputable def uS1:List (Nat×aC):=(63,uErS)::(148,uPvS)::(108,oDyS)::[]
noncomputable def svA (xs:ah) (s:af) (x z:Int):Int:=if prB xs s x z=true then asInt (ai (aG xs (prR xs s x z)) 9) else 0
noncomputable def uSvS:aC:=fun a=>match a with|[.sl e [.str,.int .i64,.int .i64,.int .i64,.int .i64,.int .i64,.int .i64,.int .i64,.int .i64,.int .i64,.str] o1 xs,.str s,.agg [.int .i64 x,.int .i64 y,.int .i64 z]]=>some (kP xs,.int .i64 (svA xs s x z))|_=>none
noncomputable def uS2:List (Nat×aC):=(111,uSvS)::uS1
def clE (t n b:Int):Int:=if -54000≤t∧t≤54000∧-2000000000000≤n∧n≤2000000000000 then(if 0≤b∧b≤2 then 0 else 4) else 1
noncomputable def Y1 (xs:ah) (s:af) (t n b:Int):Int:=if clE t n b=0 then n-(if b=0 then t+svA xs s (-1) n else if b=1 then t else 0) else 0
noncomputable def uClS:aC:=fun a=>match a with|[.sl e [.str,.int .i64,.int .i64,.int .i64,.int .i64,.int .i64,.int .i64,.int .i64,.int .i64,.int .i64,.str] o1 xs,.str s,.int .i64 t,.int .i64 n,.int .i64 b]=>some (kP xs,.tup [.int .i64 (Y1 xs s t n b),.int .i64 (clE t n b)])|_=>none
noncomputable def uS3:List (Nat×aC):=(90,uClS)::uS2
def unI (h:Bool) (y m ok d a c b:Int):Int:=if h=true∧enP h y m ok d a c b=true then oW m ok d a c y else 0
def unE (h:Bool) (y m ok d a c b:Int):Int:=if h=true then(if enP h y m ok d a c b=true then 0 else 4) else 12
noncomputable def uNomS:aC:=fun a=>match a with|[.agg [.bool h,.int .i64 y,.int .i64 m,.int .i64 ok,.int .i64 ow,.int .i64 od,.int .i64 c,.int .i64 b]]=>some (true,.tup [.int .i64 (unI h y m ok ow od c b),.int .i64 (unE h y m ok ow od c b)])|_=>none
noncomputable def uS4:List (Nat×aC):=(89,uNomS)::uS3
noncomputable def inI (xs:ah) (o k v:Int) (r q:af) (h:Bool) (y m ok d a c b:Int):Int:=if Tf o k v r q h y m ok d a c b=true∧h=true then(if k=2 then Y1 xs r o (oW m ok d a c y) b else if b=0 then oW m ok d a c y-v-o else if b=1 then oW m ok d a c y-o else oW m ok d a c y) else 0
noncomputable def inE (xs:ah) (o k v:Int) (r q:af) (h:Bool) (y m ok d a c b:Int):Int:=if Tf o k v r q h y m ok d a c b=true then(if h=true then 0 else 12) else 4
noncomputable def uInS:aC:=fun a=>match a with|[.sl e [.str,.int .i64,.int .i64,.int .i64,.int .i64,.int .i64,.int .i64,.int .i64,.int .i64,.int .i64,.str] o1 xs,.agg [.int .i64 o,.int .i64 k,.int .i64 v,.str r,.str q,.bool h,.int .i64 y,.int .i64 m,.int .i64 ok,.int .i64 ow,.int .i64 od,.int .i64 c,.int .i64 b]]=>some (kP xs,.tup [.int .i64 (inI xs o k v r q h y m ok ow od c b),.int .i64 (inE xs o k v r q h y m ok ow od c b)])|_=>none
theorem uEr_top (F o k v r q h y m ok a d c b) (K:V→Option V):
 bA fE (bu fE uS0 F 3) F 63 [V.agg [V.int .i64 o,V.int .i64 k,V.int .i64 v,V.str r,V.str q,V.bool h,V.int .i64 y,V.int .i64 m,V.int .i64 ok,V.int .i64 a,V.int .i64 d,V.int .i64 c,V.int .i64 b]] K=
 let A:=K (V.bool false);let C:=ak (beq h false) (ak (ieq y 0) (ak (ieq m 0) (ak (ak (ieq ok 0) (ak (ieq a 0) (ieq d 0))) (ak (ieq c 0) (ieq b 0)))));let G:=K (V.bool (seq r []));let H:=dJ c b;let B:=sel (ieq k 0) A (sel (ieq k 1) A (sel (ieq k 2) A A));let D:=sel (av (dw .i64 0 10800) v) (sel (av v 10800) G A) A;let E:=sel (ieq v 0) (K (V.bool (ieq (dG r) 0))) A;let I:=sel (ieq v 0) G A;sel (av (dw .i64 0 54000) o) (sel (av o 54000) (sel (ieq (ja q) 0) (sel (aL h) (sel (ieq k 0) (sel C I A) (sel (ieq k 1) (sel C D A) (sel (ieq k 2) (sel C E A) A))) (sel (aW (-32767) y) (sel (aW y 32767) (sel (E8 ok a d m) (sel (ieq k 0) (sel H I A) (sel (ieq k 1) (sel H D A) (sel (ieq k 2) (sel H E A) A))) B) B) B)) B) B) B:=by kernel_rfl
theorem uSv_top (F xs s x y z) (K:V→Option V):
 bA fE (bu fE uS1 F 2) F 111 [V.sl 50 [Kd.str,Kd.int .i64,Kd.int .i64,Kd.int .i64,Kd.int .i64,Kd.int .i64,Kd.int .i64,Kd.int .i64,Kd.int .i64,Kd.int .i64,Kd.str] none xs,V.str s,V.agg [V.int .i64 x,V.int .i64 y,V.int .i64 z]] K=
 let A:=prR xs s x z;sel (kP xs) (sel (prB xs s x z) (sel (ak (av 0 A) (aW A (ay xs))) (K (V.int .i64 (asInt (ai (aG xs A) 9)))) none) (K (V.int .i64 0))) none:=by kernel_rfl
theorem uCl_top (F xs s t n b) (K:V→Option V):
 bA fE (bu fE uS2 F 3) F 90 [V.sl 50 [Kd.str,Kd.int .i64,Kd.int .i64,Kd.int .i64,Kd.int .i64,Kd.int .i64,Kd.int .i64,Kd.int .i64,Kd.int .i64,Kd.int .i64,Kd.str] none xs,V.str s,V.int .i64 t,V.int .i64 n,V.int .i64 b] K=
 let C:=V.int .i64 0;let A:=sel (ieq b 0) (sel (kP xs) (K (V.tup [V.int .i64 (dw .i64 n (bJ .i64 t (svA xs s (-1) n))),C])) none) (sel (ieq b 1) (K (V.tup [V.int .i64 (dw .i64 n t),C])) (K (V.tup [V.int .i64 (dw .i64 n 0),C])));let B:=K (V.tup [C,V.int .i64 1]);let D:=K (V.tup [C,V.int .i64 4]);sel (av (-54000) t) (sel (aL (av t 54000)) B (sel (aW n (-2000000000000)) B (sel (aW 2000000000000 n) B (sel (aW b 0) D (sel (aW 2 b) D (both A A)))))) B:=by kernel_rfl
theorem uNom_top (F h y m ok d a c b) (K:V→Option V):
 bA fE (bu fE uS3 F 2) F 89 [V.agg [V.bool h,V.int .i64 y,V.int .i64 m,V.int .i64 ok,V.int .i64 d,V.int .i64 a,V.int .i64 c,V.int .i64 b]] K=
 sel (aL h) (K (V.tup [V.int .i64 0,V.int .i64 12])) (sel (aL (Tf 0 0 0 [] [88] h y m ok d a c b)) (K (V.tup [V.int .i64 0,V.int .i64 4])) (K (V.tup [V.int .i64 (bJ .i64 (mF .i64 (oyI ok d a y m) 86400) c),V.int .i64 (oyE ok d a y m)]))):=by kernel_rfl
theorem uIn_top (F xs o k v r q h y m ok a d c b) (K:V→Option V):
 bA fE (bu fE uS4 F 2) F 64 [V.sl 50 [Kd.str,Kd.int .i64,Kd.int .i64,Kd.int .i64,Kd.int .i64,Kd.int .i64,Kd.int .i64,Kd.int .i64,Kd.int .i64,Kd.int .i64,Kd.str] none xs,V.agg [V.int .i64 o,V.int .i64 k,V.int .i64 v,V.str r,V.str q,V.bool h,V.int .i64 y,V.int .i64 m,V.int .i64 ok,V.int .i64 a,V.int .i64 d,V.int .i64 c,V.int .i64 b]] K=
 let A:=unI h y m ok a d c b;let B:=V.int .i64 0;let C:=unE h y m ok a d c b;sel (aL (Tf o k v r q h y m ok a d c b)) (K (V.tup [B,V.int .i64 4])) (sel (aL (ieq C 0)) (K (V.tup [B,V.int .i64 C])) (sel (ieq k 2) (sel (kP xs) (K (V.tup [V.int .i64 (Y1 xs r o A b),V.int .i64 (clE o A b)])) none) (sel (ieq b 0) (K (V.tup [V.int .i64 (dw .i64 (dw .i64 A v) o),B])) (sel (ieq b 1) (K (V.tup [V.int .i64 (dw .i64 A o),B])) (K (V.tup [V.int .i64 A,B])))))):=by kernel_rfl
open Go.RowKit Nt
theorem uChS_ok (s:af) (a:true=true):aj fE 87 [.str s] (.int .i64 (ja s)):=by
 by_cases h:s.length≤1000
 ·exact DF s (p_len h)
 refine au gL Nh 5 2 ?_;rw[zU];unfold ja;rw[ax (bH (by rw[aI];omega)),if_pos (by omega)]
theorem uS0_ok:bf fE uS0:=by
 unfold uS0;refine bf.cons (fun args r h=>?_) (bf.cons (fun args r h=>?_) (bf.cons (fun args r h=>?_) (bf.cons (fun args r h=>?_) bf.nil)));all_goals (revert h;intro h;first|unfold uChS at h|unfold kNmS at h|unfold YZ at h|unfold kCrS at h)
 all_goals (split at h;rotate_left; · cases h)
 all_goals (simp only[aR,bM] at h;obtain⟨a,rfl⟩:=h)
 ·exact uChS_ok _ rfl
 ·exact X9 _ rfl
 ·exact Ow _ _ _ _ rfl
 exact Ya _ _ rfl
theorem Ye (o k v:Int) (r q:af) (h:Bool) (y m ok a d c b:Int) (f:true=true):aj fE 63 [.agg [.int .i64 o,.int .i64 k,.int .i64 v,.str r,.str q,.bool h,.int .i64 y,.int .i64 m,.int .i64 ok,.int .i64 a,.int .i64 d,.int .i64 c,.int .i64 b]] (.bool (Tf o k v r q h y m ok a d c b)):=by
 refine au gL uS0_ok 5 3 ?_
 (rw[uEr_top];(conv=>zeta);rw[show dw .i64 0 54000= -54000 by decide,show dw .i64 0 10800= -10800 by decide])
 unfold Tf enP
 cases av (-54000) o with
 |false=>cases ieq k 0<;>cases ieq k 1<;>cases ieq k 2<;>rfl
 |true=>
 cases av o 54000 with
 |false=>cases ieq k 0<;>cases ieq k 1<;>cases ieq k 2<;>rfl
 |true=>
 cases ieq (ja q) 0 with
 |false=>cases ieq k 0<;>cases ieq k 1<;>cases ieq k 2<;>rfl
 |true=>
 cases h with
 |false=>
  have e:ak (beq false false) (ak (ieq y 0) (ak (ieq m 0) (ak (ak (ieq ok 0) (ak (ieq a 0) (ieq d 0))) (ak (ieq c 0) (ieq b 0)))))=(ak (ieq y 0) (ak (ieq m 0) (ak (ak (ieq ok 0) (ak (ieq a 0) (ieq d 0))) (ak (ieq c 0) (ieq b 0))))):=rfl;rw[e];generalize ak (ieq y 0) (ak (ieq m 0) (ak (ak (ieq ok 0) (ak (ieq a 0) (ieq d 0))) (ak (ieq c 0) (ieq b 0))))=z
  cases z with
  |false=>cases ieq k 0<;>cases ieq k 1<;>cases ieq k 2<;>rfl
  |true=>
  cases ieq k 0 with
  |true=>cases ieq v 0<;>rfl
  |false=>
  cases ieq k 1 with
  |true=>cases av (-10800) v<;>cases av v 10800<;>rfl
  |false=>cases ieq k 2<;>cases ieq v 0<;>rfl
 |true=>
  cases aW (-32767) y with
  |false=>cases ieq k 0<;>cases ieq k 1<;>cases ieq k 2<;>rfl
  |true=>
  cases aW y 32767 with
  |false=>cases ieq k 0<;>cases ieq k 1<;>cases ieq k 2<;>rfl
  |true=>
  cases E8 ok a d m with
  |false=>cases ieq k 0<;>cases ieq k 1<;>cases ieq k 2<;>rfl
  |true=>
  cases dJ c b with
  |false=>cases ieq k 0<;>cases ieq k 1<;>cases ieq k 2<;>rfl
  |true=>
  cases ieq k 0 with
  |true=>cases ieq v 0<;>rfl
  |false=>
  cases ieq k 1 with
  |true=>cases av (-10800) v<;>cases av v 10800<;>rfl
  |false=>cases ieq k 2<;>cases ieq v 0<;>rfl
theorem rs_all {xs:ah} (h:kP xs=true):(∀e∈xs,rOk e=true)∧xs.length≤1000:=by unfold kP at h;rw[bC,l8,aB,aD] at h;exact⟨h.1,by omega⟩
theorem uPvS_ok (e:Nat) (i:Option Nat) (xs:ah) (s:af) (x y z:Int) (h:kP xs=true):aj fE 148 [.sl e [.str,.int .i64,.int .i64,.int .i64,.int .i64,.int .i64,.int .i64,.int .i64,.int .i64,.int .i64,.str] i xs,.str s,.agg [.int .i64 x,.int .i64 y,.int .i64 z]] (.tup [.agg [.int .i64 (prR xs s x z),.int .i64 (prY xs s x z),.int .i64 (prN xs s x z)],.bool (prB xs s x z)]):=by obtain⟨g,j⟩:=rs_all h;intro G w vs f d b;refine prev_ev xs s x y z g (by omega) G w vs f d ?_;obtain⟨x,us,rfl,a,c⟩:=PW.cons_inv b;refine .cons ?_ c;unfold aV at a⊢;exact a
theorem uS1_ok:bf fE uS1:=by
 unfold uS1;refine bf.cons (fun args r h=>?_) (bf.cons (fun args r h=>?_) (bf.cons (fun args r h=>?_) bf.nil));all_goals (revert h;intro h;first|unfold uErS at h|unfold uPvS at h|unfold oDyS at h)
 all_goals (split at h;rotate_left; · cases h)
 all_goals (simp only[aR,bM] at h;obtain⟨a,rfl⟩:=h)
 ·exact Ye _ _ _ _ _ _ _ _ _ _ _ _ _ rfl
 ·exact uPvS_ok _ _ _ _ _ _ _ a
 exact Yc _ _ _ _ _ rfl
theorem saved_ev (xs:ah) (s:af) (x y z:Int) (b:kP xs=true):aj fE 111 [.sl 50 [.str,.int .i64,.int .i64,.int .i64,.int .i64,.int .i64,.int .i64,.int .i64,.int .i64,.int .i64,.str] none xs,.str s,.agg [.int .i64 x,.int .i64 y,.int .i64 z]] (.int .i64 (svA xs s x z)):=by
 refine au gL uS1_ok 5 2 ?_
 (rw[uSv_top];(conv=>zeta);rw[ax b])
 unfold svA
 cases h:prB xs s x z with
 |false=>rfl
 |true=>
  have c:=prev_in xs s x z h;have a:ak (av 0 (prR xs s x z)) (aW (prR xs s x z) (ay xs))=true:=by rw[aM,aB,bq,aD];exact c
  rw[ax rfl,ax a,if_pos rfl]
theorem uSvS_ok (e:Nat) (h:Option Nat) (xs:ah) (s:af) (x y z:Int) (g:kP xs=true):aj fE 111 [.sl e [.str,.int .i64,.int .i64,.int .i64,.int .i64,.int .i64,.int .i64,.int .i64,.int .i64,.int .i64,.str] h xs,.str s,.agg [.int .i64 x,.int .i64 y,.int .i64 z]] (.int .i64 (svA xs s x z)):=by intro G w vs f d b;refine saved_ev xs s x y z g G w vs f d ?_;obtain⟨x,us,rfl,a,c⟩:=PW.cons_inv b;refine .cons ?_ c;unfold aV at a⊢;exact a
theorem uS2_ok:bf fE uS2:=by
 unfold uS2;refine bf.cons (fun args r h=>?_) uS1_ok;all_goals (revert h;intro h;first|unfold uSvS at h)
 all_goals (split at h;rotate_left; · cases h)
 all_goals (simp only[aR,bM] at h;obtain⟨a,rfl⟩:=h)
 ·exact uSvS_ok _ _ _ _ _ _ _ a
theorem pr_right (xs:ah) (s:af) (q x z:Int): ∀(k:Nat) (i:Int) (a:Bool×Int×Int×Int),(a.1=true→ruV (aG xs a.2.1)=true)→(V5 xs s q x z k i a).1=true→ruV (aG xs (V5 xs s q x z k i a).2.1)=true:=by
 intro k;induction k with
 |zero=>intro i a h d;exact h d
 |succ k f=>
  intro i a h d;unfold V5 at d⊢;refine f (i+1) _ ?_ d;intro e;split at e
  ·rename_i c
   rw[if_pos c];have b:bV (aG xs i) i q x z=true:=c.2.2.1;have:rV (aG xs i) i q x z=i:=by unfold rV qvR;unfold bV at b;rw[if_pos b]
   show ruV (aG xs (rV (aG xs i) i q x z))=true;rw[this];exact c.2.1
  rename_i c;rw[if_neg c];exact h e
theorem sv_in (xs:ah) (s:af) (x z:Int): -10800≤svA xs s x z∧svA xs s x z≤10800:=by
 unfold svA;split
 ·rename_i h
  have:=pr_right xs s (vN z) x z xs.length 0 (false,0,0,0) (fun h=>by cases h) h;exact(ru_ft this).2.2.2.2.2
 omega
theorem clock_ev (xs:ah) (s:af) (t n b:Int) (j:kP xs=true):aj fE 90 [.sl 50 [.str,.int .i64,.int .i64,.int .i64,.int .i64,.int .i64,.int .i64,.int .i64,.int .i64,.int .i64,.str] none xs,.str s,.int .i64 t,.int .i64 n,.int .i64 b] (.tup [.int .i64 (Y1 xs s t n b),.int .i64 (clE t n b)]):=by
 refine au gL uS2_ok 5 3 ?_
 (rw[uCl_top];(conv=>zeta))
 simp only[j6];have k:=sv_in xs s (-1) n;unfold Y1 clE;by_cases d: -54000≤t
 ·by_cases e:t≤54000
  ·by_cases i:n< -2000000000000
   ·rw[ax (bg d),bg e,aK (show aL true=false from rfl),ax (bH i),if_neg (show¬(-54000≤t∧t≤54000∧-2000000000000≤n∧n≤2000000000000) by omega)];rfl
   by_cases g:2000000000000<n
   ·rw[ax (bg d),bg e,aK (show aL true=false from rfl),aK (bF (by omega)),ax (bH g),if_neg (show¬(-54000≤t∧t≤54000∧-2000000000000≤n∧n≤2000000000000) by omega)];rfl
   rw[ax (bg d),bg e,aK (show aL true=false from rfl),aK (bF (by omega)),aK (bF (by omega)),if_pos (show -54000≤t∧t≤54000∧-2000000000000≤n∧n≤2000000000000 by omega)];by_cases h:b<0
   ·rw[ax (bH h),if_neg (show¬(0≤b∧b≤2) by omega)];rfl
   by_cases f:2<b
   ·rw[aK (bF (by omega)),ax (bH f),if_neg (show¬(0≤b∧b≤2) by omega)];rfl
   rw[aK (bF (by omega)),aK (bF (by omega)),if_pos (show 0≤b∧b≤2 by omega),if_pos rfl,j];by_cases c:b=0
   ·rw[ax (bn c),ax rfl,if_pos c,cZ (by omega),dO (by omega)]
   rw[aK (bD c),if_neg c];by_cases a:b=1
   ·rw[ax (bn a),if_pos a,dO (by omega)]
   rw[aK (bD a),if_neg a,dO (by omega)]
  rw[ax (bg d),mr (by omega),ax (show aL false=true from rfl),if_neg (show¬(-54000≤t∧t≤54000∧-2000000000000≤n∧n≤2000000000000) by omega)];rfl
 rw[aK (mr (by omega)),if_neg (show¬(-54000≤t∧t≤54000∧-2000000000000≤n∧n≤2000000000000) by omega)];rfl
theorem uClS_ok (e:Nat) (i:Option Nat) (xs:ah) (s:af) (t n b:Int) (h:kP xs=true):aj fE 90 [.sl e [.str,.int .i64,.int .i64,.int .i64,.int .i64,.int .i64,.int .i64,.int .i64,.int .i64,.int .i64,.str] i xs,.str s,.int .i64 t,.int .i64 n,.int .i64 b] (.tup [.int .i64 (Y1 xs s t n b),.int .i64 (clE t n b)]):=by intro G w vs g f c;refine clock_ev xs s t n b h G w vs g f ?_;obtain⟨x,us,rfl,a,d⟩:=PW.cons_inv c;refine .cons ?_ d;unfold aV at a⊢;exact a
theorem uS3_ok:bf fE uS3:=by
 unfold uS3;refine bf.cons (fun args r h=>?_) uS2_ok;all_goals (revert h;intro h;first|unfold uClS at h)
 all_goals (split at h;rotate_left; · cases h)
 all_goals (simp only[aR,bM] at h;obtain⟨a,rfl⟩:=h)
 ·exact uClS_ok _ _ _ _ _ _ _ a
theorem en_ft {y m ok d a c b:Int} (h:enP true y m ok d a c b=true): -32767<y∧y<32767∧E8 ok d a m=true∧(0≤c∧c≤172800)∧0≤b∧b≤2:=by unfold enP dJ at h;rw[ax rfl] at h;simp only[bC,bq,lG] at h;obtain⟨f,e,g,i⟩:=h;exact⟨f,e,g,by omega,by omega⟩
theorem aeA {y m:Int} (c: -32767≤y∧y≤32767) (a:1≤m∧m≤12): -13000000≤fK y m 1∧fK y m 1≤13000000:=by
 have b:=oG y m a.1 a.2;have f:=DJ (y:=y) (m:=m) (d:=1) ⟨by omega,by omega⟩;have e: -12900000≤iJ y∧iJ y≤12900000:=by unfold iJ CW;omega
 have g:(if jq y=true then(1:Int) else 0)≤1:=by split<;>omega
 unfold fK;omega
theorem Rt {k w d m y:Int} (h:E8 k w d m=true) (a: -32767≤y∧y≤32767): -13001000≤oyI k w d y m∧oyI k w d y m≤13001000:=by
 unfold oyI;rw[if_pos (show E8 k w d m=true∧-39999≤y∧y≤39999 from⟨h,by omega,by omega⟩)];have b:=ft_k h;have i:=aeA (y:=y) (m:=m) a (by omega);have e:=oG y m (by omega) (by omega);have c:=AX (fK y m 1+gM y m-1) w;have f:=AX (fK y m 1+d+5) w;have g:=AX (fK y m 1+d-1) w;repeat' split
 all_goals omega
theorem dyE_ok {k w d m y:Int} (h:E8 k w d m=true) (a: -32767≤y∧y≤32767):oyE k w d y m=0:=by unfold oyE;rw[if_pos h,if_pos (show -39999≤y∧y≤39999 by omega)]
theorem ck_X:ja [88]=0:=by decide
theorem er_X (h:Bool) (y m ok d a c b:Int):Tf 0 0 0 [] [88] h y m ok d a c b=enP h y m ok d a c b:=by
 unfold Tf;rw[ck_X]
 cases enP h y m ok d a c b<;>rfl
theorem uNomS_ok (h:Bool) (y m ok a d c b:Int) (n:true=true):aj fE 89 [.agg [.bool h,.int .i64 y,.int .i64 m,.int .i64 ok,.int .i64 a,.int .i64 d,.int .i64 c,.int .i64 b]] (.tup [.int .i64 (unI h y m ok a d c b),.int .i64 (unE h y m ok a d c b)]):=by
 refine au gL uS3_ok 5 2 ?_;rw[uNom_top,er_X];unfold unI unE
 cases h with
 |false=>rfl
 |true=>
  rw[aK (show aL true=false from rfl)]
  cases f:enP true y m ok a d c b with
  |false=>rfl
  |true=>obtain⟨k,g,e,j,l⟩:=en_ft f;have i:=Rt (y:=y) e (by omega);rw[aK (show aL true=false from rfl),og (by omega),cZ (by omega),dyE_ok e (by omega)];rfl
theorem uS4_ok:bf fE uS4:=by
 unfold uS4;refine bf.cons (fun args r h=>?_) uS3_ok;all_goals (revert h;intro h;first|unfold uNomS at h)
 all_goals (split at h;rotate_left; · cases h)
 all_goals (simp only[aR,bM] at h;obtain⟨a,rfl⟩:=h)
 ·exact uNomS_ok _ _ _ _ _ _ _ _ rfl
theorem er_en {o k v:Int} {r q:af} {h:Bool} {y m ok f i c b:Int} (d:Tf o k v r q h y m ok f i c b=true):(-54000≤o∧o≤54000)∧enP h y m ok f i c b=true∧(k=0∨k=1∨k=2)∧-10800≤v∧v≤10800:=by
 unfold Tf at d;simp only[bC,aB] at d;obtain⟨p,l,_,n,a⟩:=d;refine⟨⟨p,l⟩,n,?_⟩;by_cases j:k=0
 ·rw[ax (bn j),bC,aN] at a;omega
 rw[aK (bD j)] at a;by_cases e:k=1
 ·rw[ax (bn e),bC,bC,aB,aB] at a;omega
 rw[aK (bD e)] at a;by_cases g:k=2
 ·rw[ax (bn g),bC,aN] at a;omega
 rw[aK (bD g)] at a;cases a
theorem inst_ev (xs:ah) (o k v:Int) (r q:af) (h:Bool) (y m ok d f c b:Int) (n:kP xs=true):aj fE 64 [.sl 50 [.str,.int .i64,.int .i64,.int .i64,.int .i64,.int .i64,.int .i64,.int .i64,.int .i64,.int .i64,.str] none xs,.agg [.int .i64 o,.int .i64 k,.int .i64 v,.str r,.str q,.bool h,.int .i64 y,.int .i64 m,.int .i64 ok,.int .i64 d,.int .i64 f,.int .i64 c,.int .i64 b]] (.tup [.int .i64 (inI xs o k v r q h y m ok d f c b),.int .i64 (inE xs o k v r q h y m ok d f c b)]):=by
 refine au gL uS4_ok 5 2 ?_
 (rw[uIn_top];(conv=>zeta))
 unfold inI inE
 cases l:Tf o k v r q h y m ok d f c b with
 |false=>rfl
 |true=>
  obtain⟨u,j,x,t⟩:=er_en l;rw[aK (show aL true=false from rfl)];unfold unE unI
  cases h with
  |false=>rfl
  |true=>
   obtain⟨g1,s,p,w,B⟩:=en_ft j;have z:=Rt (y:=y) p (by omega);have A: -2000000000000≤oW m ok d f c y∧oW m ok d f c y≤2000000000000:=by unfold oW;omega
   rw[j];simp only[if_true,ac5];generalize oW m ok d f c y=N at*;rw[aK (by rfl),n,ax (a:=some _) rfl];by_cases i:k=2
   ·have e:clE o N b=0:=by unfold clE;rw[if_pos (show -54000≤o∧o≤54000∧-2000000000000≤N∧N≤2000000000000 by omega),if_pos (show 0≤b∧b≤2 by omega)]
    rw[ax (bn i),if_pos i,e]
   rw[aK (bD i),if_neg i];by_cases b0:b=0
   ·rw[ax (bn b0),if_pos b0,dO (a:=N) (by omega),dO (by omega)]
   rw[aK (bD b0),if_neg b0];by_cases g:b=1
   ·rw[ax (bn g),if_pos g,dO (by omega)]
   rw[aK (bD g),if_neg g]
theorem uInS_ok (e:Nat) (p:Option Nat) (xs:ah) (o k v:Int) (r q:af) (h:Bool) (y m ok a d c b:Int) (n:kP xs=true):aj fE 64 [.sl e [.str,.int .i64,.int .i64,.int .i64,.int .i64,.int .i64,.int .i64,.int .i64,.int .i64,.int .i64,.str] p xs,.agg [.int .i64 o,.int .i64 k,.int .i64 v,.str r,.str q,.bool h,.int .i64 y,.int .i64 m,.int .i64 ok,.int .i64 a,.int .i64 d,.int .i64 c,.int .i64 b]] (.tup [.int .i64 (inI xs o k v r q h y m ok a d c b),.int .i64 (inE xs o k v r q h y m ok a d c b)]):=by intro G w vs l j g;refine inst_ev xs o k v r q h y m ok a d c b n G w vs l j ?_;obtain⟨x,us,rfl,f,i⟩:=PW.cons_inv g;refine .cons ?_ i;unfold aV at f⊢;exact f
end Nt.Ev.YtknhlobahpgkeaaGreatDoor.Un
