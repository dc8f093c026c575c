/-
  Until: equations of functions, as the evaluator prints them. When eras end.
-/
import Derived.Test.YtjcencojgajgdaaGreatDoorMXD
set_option linter.all false
set_option maxRecDepth 100000
namespace Nt.Ev.YtjcencojgajgdaaGreatDoor.Un
open Go Nt.Num Go.Proofs.YtjcencojgajgdaaGreatDoor
variable [kH]
open Nt.Ev.YtjcencojgajgdaaGreatDoor
open Nt.Civil
open Nt.Ev.YtjcencojgajgdaaGreatDoor.Rl
open Nt.Ev.YtjcencojgajgdaaGreatDoor.Oc
noncomputable def uChS:aD:=fun a=>match a with|[.str s]=>some (true,.int .i64 (iX s))|_=>none
noncomputable def uS0:List (Nat×aD):=(83,uChS)::(42,kNmS)::(48,ZY)::(49,kCrS)::[]
def enP (h:Bool) (y m ok d a c b:Int):Bool:=sel h (aR (-32767) y&&(aR y 32767&&(FI ok d a m&&dO c b))) (ak (ieq y 0) (ak (ieq m 0) (ak (ak (ieq ok 0) (ak (ieq d 0) (ieq a 0))) (ak (ieq c 0) (ieq b 0)))))
def Ue (o k v:Int) (r q:af) (h:Bool) (y m ok d a c b:Int):Bool:=ax (-54000) o&&(ax o 54000&&(ieq (iX q) 0&&(enP h y m ok d a c b&&sel (ieq k 0) (ieq v 0&&seq r []) (sel (ieq k 1) (ax (-10800) v&&(ax v 10800&&seq r [])) (sel (ieq k 2) (ieq v 0&&ieq (dK r) 0) false)))))
noncomputable def uErS:aD:=fun a=>match a with|[.agg [.int .i64 o,.int .i64 k,.int .i64 v,.str r,.str q,.bool h,.int .i64 y,.int .i64 m,.int .i64 ok,.int .i64 ow,.int .i64 od,.int .i64 c,.int .i64 b]]=>some (true,.bool (Ue o k v r q h y m ok ow od c b))|_=>none
noncomputable def kK (xs:ah):Bool:=xs.all rOk&&ax (ay xs) 1000
noncomputable def prB (xs:ah) (s:af) (x z:Int):Bool:=(prA xs s x z).1
noncomputable def prR (xs:ah) (s:af) (x z:Int):Int:=(prA xs s x z).2.1
noncomputable def prY (xs:ah) (s:af) (x z:Int):Int:=(prA xs s x z).2.2.1
noncomputable def prN (xs:ah) (s:af) (x z:Int):Int:=(prA xs s x z).2.2.2
noncomputable def uPvS:aD:=fun a=>match a with|[.sl e [.str,.int .i64,.int .i64,.int .i64,.int .i64,.int .i64,.int .i64,.int .i64,.int .i64,.int .i64,.str] o1 xs,.str s,.agg [.int .i64 x,.int .i64 y,.int .i64 z]]=>some (kK xs,.tup [.agg [.int .i64 (prR xs s x z),.int .i64 (prY xs s x z),.int .i64 (prN xs s x z)],.bool (prB xs s x z)])|_=>none
noncomputable def uS1:List (Nat×aD):=(61,uErS)::(137,uPvS)::(106,oDyS)::[]
noncomputable def svA (xs:ah) (s:af) (x z:Int):Int:=if prB xs s x z=true then asInt (ai (aG xs (prR xs s x z)) 9) else 0
noncomputable def uSvS:aD:=fun a=>match a with|[.sl e [.str,.int .i64,.int .i64,.int .i64,.int .i64,.int .i64,.int .i64,.int .i64,.int .i64,.int .i64,.str] o1 xs,.str s,.agg [.int .i64 x,.int .i64 y,.int .i64 z]]=>some (kK xs,.int .i64 (svA xs s x z))|_=>none
noncomputable def uS2:List (Nat×aD):=(109,uSvS)::uS1
def clE (t n b:Int):Int:=if -54000≤t∧t≤54000∧-2000000000000≤n∧n≤2000000000000 then(if 0≤b∧b≤2 then 0 else 4) else 1
noncomputable def Z0 (xs:ah) (s:af) (t n b:Int):Int:=if clE t n b=0 then n-(if b=0 then t+svA xs s (-1) n else if b=1 then t else 0) else 0
noncomputable def uClS:aD:=fun a=>match a with|[.sl e [.str,.int .i64,.int .i64,.int .i64,.int .i64,.int .i64,.int .i64,.int .i64,.int .i64,.int .i64,.str] o1 xs,.str s,.int .i64 t,.int .i64 n,.int .i64 b]=>some (kK xs,.tup [.int .i64 (Z0 xs s t n b),.int .i64 (clE t n b)])|_=>none
noncomputable def uS3:List (Nat×aD):=(86,uClS)::uS2
def unI (h:Bool) (y m ok d a c b:Int):Int:=if h=true∧enP h y m ok d a c b=true then oW m ok d a c y else 0
def unE (h:Bool) (y m ok d a c b:Int):Int:=if h=true then(if enP h y m ok d a c b=true then 0 else 4) else 12
noncomputable def uNomS:aD:=fun a=>match a with|[.agg [.bool h,.int .i64 y,.int .i64 m,.int .i64 ok,.int .i64 ow,.int .i64 od,.int .i64 c,.int .i64 b]]=>some (true,.tup [.int .i64 (unI h y m ok ow od c b),.int .i64 (unE h y m ok ow od c b)])|_=>none
noncomputable def uS4:List (Nat×aD):=(85,uNomS)::uS3
noncomputable def inI (xs:ah) (o k v:Int) (r q:af) (h:Bool) (y m ok d a c b:Int):Int:=if Ue o k v r q h y m ok d a c b=true∧h=true then(if k=2 then Z0 xs r o (oW m ok d a c y) b else if b=0 then oW m ok d a c y-v-o else if b=1 then oW m ok d a c y-o else oW m ok d a c y) else 0
noncomputable def inE (xs:ah) (o k v:Int) (r q:af) (h:Bool) (y m ok d a c b:Int):Int:=if Ue o k v r q h y m ok d a c b=true then(if h=true then 0 else 12) else 4
noncomputable def uInS:aD:=fun a=>match a with|[.sl e [.str,.int .i64,.int .i64,.int .i64,.int .i64,.int .i64,.int .i64,.int .i64,.int .i64,.int .i64,.str] o1 xs,.agg [.int .i64 o,.int .i64 k,.int .i64 v,.str r,.str q,.bool h,.int .i64 y,.int .i64 m,.int .i64 ok,.int .i64 ow,.int .i64 od,.int .i64 c,.int .i64 b]]=>some (kK xs,.tup [.int .i64 (inI xs o k v r q h y m ok ow od c b),.int .i64 (inE xs o k v r q h y m ok ow od c b)])|_=>none
theorem uEr_top (F o k v r q h y m ok a d c b) (K:V→Option V):
 bE fE (bC fE uS0 F 3) F 61 [V.agg [V.int .i64 o,V.int .i64 k,V.int .i64 v,V.str r,V.str q,V.bool h,V.int .i64 y,V.int .i64 m,V.int .i64 ok,V.int .i64 a,V.int .i64 d,V.int .i64 c,V.int .i64 b]] K=
 let A:=K (V.bool false);let C:=ak (beq h false) (ak (ieq y 0) (ak (ieq m 0) (ak (ak (ieq ok 0) (ak (ieq a 0) (ieq d 0))) (ak (ieq c 0) (ieq b 0)))));let G:=K (V.bool (seq r []));let H:=dO c b;let B:=sel (ieq k 0) A (sel (ieq k 1) A (sel (ieq k 2) A A));let D:=sel (ax (dB .i64 0 10800) v) (sel (ax v 10800) G A) A;let E:=sel (ieq v 0) (K (V.bool (ieq (dK r) 0))) A;let I:=sel (ieq v 0) G A;sel (ax (dB .i64 0 54000) o) (sel (ax o 54000) (sel (ieq (iX q) 0) (sel (aL h) (sel (ieq k 0) (sel C I A) (sel (ieq k 1) (sel C D A) (sel (ieq k 2) (sel C E A) A))) (sel (aR (-32767) y) (sel (aR y 32767) (sel (FI ok a d m) (sel (ieq k 0) (sel H I A) (sel (ieq k 1) (sel H D A) (sel (ieq k 2) (sel H E A) A))) B) B) B)) B) B) B:=by kernel_rfl
theorem uSv_top (F xs s x y z) (K:V→Option V):
 bE fE (bC fE uS1 F 2) F 109 [V.sl 53 [Kd.str,Kd.int .i64,Kd.int .i64,Kd.int .i64,Kd.int .i64,Kd.int .i64,Kd.int .i64,Kd.int .i64,Kd.int .i64,Kd.int .i64,Kd.str] none xs,V.str s,V.agg [V.int .i64 x,V.int .i64 y,V.int .i64 z]] K=
 let A:=prR xs s x z;sel (kK xs) (sel (prB xs s x z) (sel (ak (ax 0 A) (aR A (ay xs))) (K (V.int .i64 (asInt (ai (aG xs A) 9)))) none) (K (V.int .i64 0))) none:=by kernel_rfl
theorem uCl_top (F xs s t n b) (K:V→Option V):
 bE fE (bC fE uS2 F 3) F 86 [V.sl 53 [Kd.str,Kd.int .i64,Kd.int .i64,Kd.int .i64,Kd.int .i64,Kd.int .i64,Kd.int .i64,Kd.int .i64,Kd.int .i64,Kd.int .i64,Kd.str] none xs,V.str s,V.int .i64 t,V.int .i64 n,V.int .i64 b] K=
 let C:=V.int .i64 0;let A:=sel (ieq b 0) (sel (kK xs) (K (V.tup [V.int .i64 (dB .i64 n (bg .i64 t (svA xs s (-1) n))),C])) none) (sel (ieq b 1) (K (V.tup [V.int .i64 (dB .i64 n t),C])) (K (V.tup [V.int .i64 (dB .i64 n 0),C])));let B:=K (V.tup [C,V.int .i64 1]);let D:=K (V.tup [C,V.int .i64 4]);sel (ax (-54000) t) (sel (aL (ax t 54000)) B (sel (aR n (-2000000000000)) B (sel (aR 2000000000000 n) B (sel (aR b 0) D (sel (aR 2 b) D (both A A)))))) B:=by kernel_rfl
theorem uNom_top (F h y m ok d a c b) (K:V→Option V):
 bE fE (bC fE uS3 F 2) F 85 [V.agg [V.bool h,V.int .i64 y,V.int .i64 m,V.int .i64 ok,V.int .i64 d,V.int .i64 a,V.int .i64 c,V.int .i64 b]] K=
 sel (aL h) (K (V.tup [V.int .i64 0,V.int .i64 12])) (sel (aL (Ue 0 0 0 [] [88] h y m ok d a c b)) (K (V.tup [V.int .i64 0,V.int .i64 4])) (K (V.tup [V.int .i64 (bg .i64 (mD .i64 (oyI ok d a y m) 86400) c),V.int .i64 (oyE ok d a y m)]))):=by kernel_rfl
theorem uIn_top (F xs o k v r q h y m ok a d c b) (K:V→Option V):
 bE fE (bC fE uS4 F 2) F 62 [V.sl 53 [Kd.str,Kd.int .i64,Kd.int .i64,Kd.int .i64,Kd.int .i64,Kd.int .i64,Kd.int .i64,Kd.int .i64,Kd.int .i64,Kd.int .i64,Kd.str] none xs,V.agg [V.int .i64 o,V.int .i64 k,V.int .i64 v,V.str r,V.str q,V.bool h,V.int .i64 y,V.int .i64 m,V.int .i64 ok,V.int .i64 a,V.int .i64 d,V.int .i64 c,V.int .i64 b]] K=
 let A:=unI h y m ok a d c b;let B:=V.int .i64 0;let C:=unE h y m ok a d c b;sel (aL (Ue o k v r q h y m ok a d c b)) (K (V.tup [B,V.int .i64 4])) (sel (aL (ieq C 0)) (K (V.tup [B,V.int .i64 C])) (sel (ieq k 2) (sel (kK xs) (K (V.tup [V.int .i64 (Z0 xs r o A b),V.int .i64 (clE o A b)])) none) (sel (ieq b 0) (K (V.tup [V.int .i64 (dB .i64 (dB .i64 A v) o),B])) (sel (ieq b 1) (K (V.tup [V.int .i64 (dB .i64 A o),B])) (K (V.tup [V.int .i64 A,B])))))):=by kernel_rfl
open Go.RowKit Nt
theorem uChS_ok (s:af) (a:true=true):aj fE 83 [.str s] (.int .i64 (iX s)):=by
 by_cases h:s.length≤1000
 ·exact DZ s (p_len h)
 refine au gJ NW 5 2 ?_;rw[zY];unfold iX;rw[av (bu (by rw[aJ];omega)),if_pos (by omega)]
theorem uS0_ok:aZ fE uS0:=by
 unfold uS0;refine aZ.cons (fun args r h=>?_) (aZ.cons (fun args r h=>?_) (aZ.cons (fun args r h=>?_) (aZ.cons (fun args r h=>?_) aZ.nil)));all_goals (revert h;intro h;first|unfold uChS at h|unfold kNmS at h|unfold ZY at h|unfold kCrS at h)
 all_goals (split at h;rotate_left; · cases h)
 all_goals (simp only[aT,bP] at h;obtain⟨a,rfl⟩:=h)
 ·exact uChS_ok _ rfl
 ·exact Za _ rfl
 ·exact Ps _ _ _ _ rfl
 exact Zb _ _ rfl
theorem Zf (o k v:Int) (r q:af) (h:Bool) (y m ok a d c b:Int) (f:true=true):aj fE 61 [.agg [.int .i64 o,.int .i64 k,.int .i64 v,.str r,.str q,.bool h,.int .i64 y,.int .i64 m,.int .i64 ok,.int .i64 a,.int .i64 d,.int .i64 c,.int .i64 b]] (.bool (Ue o k v r q h y m ok a d c b)):=by
 refine au gJ uS0_ok 5 3 ?_
 (rw[uEr_top];(conv=>zeta);rw[show dB .i64 0 54000= -54000 by decide,show dB .i64 0 10800= -10800 by decide])
 unfold Ue enP
 cases ax (-54000) o with
 |false=>cases ieq k 0<;>cases ieq k 1<;>cases ieq k 2<;>rfl
 |true=>
 cases ax o 54000 with
 |false=>cases ieq k 0<;>cases ieq k 1<;>cases ieq k 2<;>rfl
 |true=>
 cases ieq (iX q) 0 with
 |false=>cases ieq k 0<;>cases ieq k 1<;>cases ieq k 2<;>rfl
 |true=>
 cases h with
 |false=>
  have e:ak (beq false false) (ak (ieq y 0) (ak (ieq m 0) (ak (ak (ieq ok 0) (ak (ieq a 0) (ieq d 0))) (ak (ieq c 0) (ieq b 0)))))=(ak (ieq y 0) (ak (ieq m 0) (ak (ak (ieq ok 0) (ak (ieq a 0) (ieq d 0))) (ak (ieq c 0) (ieq b 0))))):=rfl;rw[e];generalize ak (ieq y 0) (ak (ieq m 0) (ak (ak (ieq ok 0) (ak (ieq a 0) (ieq d 0))) (ak (ieq c 0) (ieq b 0))))=z
  cases z with
  |false=>cases ieq k 0<;>cases ieq k 1<;>cases ieq k 2<;>rfl
  |true=>
  cases ieq k 0 with
  |true=>cases ieq v 0<;>rfl
  |false=>
  cases ieq k 1 with
  |true=>cases ax (-10800) v<;>cases ax v 10800<;>rfl
  |false=>cases ieq k 2<;>cases ieq v 0<;>rfl
 |true=>
  cases aR (-32767) y with
  |false=>cases ieq k 0<;>cases ieq k 1<;>cases ieq k 2<;>rfl
  |true=>
  cases aR y 32767 with
  |false=>cases ieq k 0<;>cases ieq k 1<;>cases ieq k 2<;>rfl
  |true=>
  cases FI ok a d m with
  |false=>cases ieq k 0<;>cases ieq k 1<;>cases ieq k 2<;>rfl
  |true=>
  cases dO c b with
  |false=>cases ieq k 0<;>cases ieq k 1<;>cases ieq k 2<;>rfl
  |true=>
  cases ieq k 0 with
  |true=>cases ieq v 0<;>rfl
  |false=>
  cases ieq k 1 with
  |true=>cases ax (-10800) v<;>cases ax v 10800<;>rfl
  |false=>cases ieq k 2<;>cases ieq v 0<;>rfl
theorem rs_all {xs:ah} (h:kK xs=true):(∀e∈xs,rOk e=true)∧xs.length≤1000:=by unfold kK at h;rw[bF,lM,aA,aC] at h;exact⟨h.1,by omega⟩
theorem uPvS_ok (e:Nat) (i:Option Nat) (xs:ah) (s:af) (x y z:Int) (h:kK xs=true):aj fE 137 [.sl e [.str,.int .i64,.int .i64,.int .i64,.int .i64,.int .i64,.int .i64,.int .i64,.int .i64,.int .i64,.str] i xs,.str s,.agg [.int .i64 x,.int .i64 y,.int .i64 z]] (.tup [.agg [.int .i64 (prR xs s x z),.int .i64 (prY xs s x z),.int .i64 (prN xs s x z)],.bool (prB xs s x z)]):=by obtain⟨g,j⟩:=rs_all h;intro G w vs f d b;refine prev_ev xs s x y z g (by omega) G w vs f d ?_;obtain⟨x,us,rfl,a,c⟩:=PW.cons_inv b;refine .cons ?_ c;unfold aV at a⊢;exact a
theorem uS1_ok:aZ fE uS1:=by
 unfold uS1;refine aZ.cons (fun args r h=>?_) (aZ.cons (fun args r h=>?_) (aZ.cons (fun args r h=>?_) aZ.nil));all_goals (revert h;intro h;first|unfold uErS at h|unfold uPvS at h|unfold oDyS at h)
 all_goals (split at h;rotate_left; · cases h)
 all_goals (simp only[aT,bP] at h;obtain⟨a,rfl⟩:=h)
 ·exact Zf _ _ _ _ _ _ _ _ _ _ _ _ _ rfl
 ·exact uPvS_ok _ _ _ _ _ _ _ a
 exact Zd _ _ _ _ _ rfl
theorem saved_ev (xs:ah) (s:af) (x y z:Int) (b:kK xs=true):aj fE 109 [.sl 53 [.str,.int .i64,.int .i64,.int .i64,.int .i64,.int .i64,.int .i64,.int .i64,.int .i64,.int .i64,.str] none xs,.str s,.agg [.int .i64 x,.int .i64 y,.int .i64 z]] (.int .i64 (svA xs s x z)):=by
 refine au gJ uS1_ok 5 2 ?_
 (rw[uSv_top];(conv=>zeta);rw[av b])
 unfold svA
 cases h:prB xs s x z with
 |false=>rfl
 |true=>
  have c:=prev_in xs s x z h;have a:ak (ax 0 (prR xs s x z)) (aR (prR xs s x z) (ay xs))=true:=by rw[aM,aA,bq,aC];exact c
  rw[av rfl,av a,if_pos rfl]
theorem uSvS_ok (e:Nat) (h:Option Nat) (xs:ah) (s:af) (x y z:Int) (g:kK xs=true):aj fE 109 [.sl e [.str,.int .i64,.int .i64,.int .i64,.int .i64,.int .i64,.int .i64,.int .i64,.int .i64,.int .i64,.str] h xs,.str s,.agg [.int .i64 x,.int .i64 y,.int .i64 z]] (.int .i64 (svA xs s x z)):=by intro G w vs f d b;refine saved_ev xs s x y z g G w vs f d ?_;obtain⟨x,us,rfl,a,c⟩:=PW.cons_inv b;refine .cons ?_ c;unfold aV at a⊢;exact a
theorem uS2_ok:aZ fE uS2:=by
 unfold uS2;refine aZ.cons (fun args r h=>?_) uS1_ok;all_goals (revert h;intro h;first|unfold uSvS at h)
 all_goals (split at h;rotate_left; · cases h)
 all_goals (simp only[aT,bP] at h;obtain⟨a,rfl⟩:=h)
 ·exact uSvS_ok _ _ _ _ _ _ _ a
theorem pr_right (xs:ah) (s:af) (q x z:Int): ∀(k:Nat) (i:Int) (a:Bool×Int×Int×Int),(a.1=true→ruV (aG xs a.2.1)=true)→(Xg xs s q x z k i a).1=true→ruV (aG xs (Xg xs s q x z k i a).2.1)=true:=by
 intro k;induction k with
 |zero=>intro i a h d;exact h d
 |succ k f=>
  intro i a h d;unfold Xg at d⊢;refine f (i+1) _ ?_ d;intro e;split at e
  ·rename_i c
   rw[if_pos c];have b:bV (aG xs i) i q x z=true:=c.2.2.1;have:rV (aG xs i) i q x z=i:=by unfold rV qvR;unfold bV at b;rw[if_pos b]
   show ruV (aG xs (rV (aG xs i) i q x z))=true;rw[this];exact c.2.1
  rename_i c;rw[if_neg c];exact h e
theorem sv_in (xs:ah) (s:af) (x z:Int): -10800≤svA xs s x z∧svA xs s x z≤10800:=by
 unfold svA;split
 ·rename_i h
  have:=pr_right xs s (vL z) x z xs.length 0 (false,0,0,0) (fun h=>by cases h) h;exact(ru_ft this).2.2.2.2.2
 omega
theorem clock_ev (xs:ah) (s:af) (t n b:Int) (j:kK xs=true):aj fE 86 [.sl 53 [.str,.int .i64,.int .i64,.int .i64,.int .i64,.int .i64,.int .i64,.int .i64,.int .i64,.int .i64,.str] none xs,.str s,.int .i64 t,.int .i64 n,.int .i64 b] (.tup [.int .i64 (Z0 xs s t n b),.int .i64 (clE t n b)]):=by
 refine au gJ uS2_ok 5 3 ?_
 (rw[uCl_top];(conv=>zeta))
 simp only[j5];have k:=sv_in xs s (-1) n;unfold Z0 clE;by_cases d: -54000≤t
 ·by_cases e:t≤54000
  ·by_cases i:n< -2000000000000
   ·rw[av (bn d),bn e,aI (show aL true=false from rfl),av (bu i),if_neg (show¬(-54000≤t∧t≤54000∧-2000000000000≤n∧n≤2000000000000) by omega)];rfl
   by_cases g:2000000000000<n
   ·rw[av (bn d),bn e,aI (show aL true=false from rfl),aI (bB (by omega)),av (bu g),if_neg (show¬(-54000≤t∧t≤54000∧-2000000000000≤n∧n≤2000000000000) by omega)];rfl
   rw[av (bn d),bn e,aI (show aL true=false from rfl),aI (bB (by omega)),aI (bB (by omega)),if_pos (show -54000≤t∧t≤54000∧-2000000000000≤n∧n≤2000000000000 by omega)];by_cases h:b<0
   ·rw[av (bu h),if_neg (show¬(0≤b∧b≤2) by omega)];rfl
   by_cases f:2<b
   ·rw[aI (bB (by omega)),av (bu f),if_neg (show¬(0≤b∧b≤2) by omega)];rfl
   rw[aI (bB (by omega)),aI (bB (by omega)),if_pos (show 0≤b∧b≤2 by omega),if_pos rfl,j];by_cases c:b=0
   ·rw[av (bA c),av rfl,if_pos c,cr (by omega),dV (by omega)]
   rw[aI (bH c),if_neg c];by_cases a:b=1
   ·rw[av (bA a),if_pos a,dV (by omega)]
   rw[aI (bH a),if_neg a,dV (by omega)]
  rw[av (bn d),nA (by omega),av (show aL false=true from rfl),if_neg (show¬(-54000≤t∧t≤54000∧-2000000000000≤n∧n≤2000000000000) by omega)];rfl
 rw[aI (nA (by omega)),if_neg (show¬(-54000≤t∧t≤54000∧-2000000000000≤n∧n≤2000000000000) by omega)];rfl
theorem uClS_ok (e:Nat) (i:Option Nat) (xs:ah) (s:af) (t n b:Int) (h:kK xs=true):aj fE 86 [.sl e [.str,.int .i64,.int .i64,.int .i64,.int .i64,.int .i64,.int .i64,.int .i64,.int .i64,.int .i64,.str] i xs,.str s,.int .i64 t,.int .i64 n,.int .i64 b] (.tup [.int .i64 (Z0 xs s t n b),.int .i64 (clE t n b)]):=by intro G w vs g f c;refine clock_ev xs s t n b h G w vs g f ?_;obtain⟨x,us,rfl,a,d⟩:=PW.cons_inv c;refine .cons ?_ d;unfold aV at a⊢;exact a
theorem uS3_ok:aZ fE uS3:=by
 unfold uS3;refine aZ.cons (fun args r h=>?_) uS2_ok;all_goals (revert h;intro h;first|unfold uClS at h)
 all_goals (split at h;rotate_left; · cases h)
 all_goals (simp only[aT,bP] at h;obtain⟨a,rfl⟩:=h)
 ·exact uClS_ok _ _ _ _ _ _ _ a
theorem en_ft {y m ok d a c b:Int} (h:enP true y m ok d a c b=true): -32767<y∧y<32767∧FI ok d a m=true∧(0≤c∧c≤172800)∧0≤b∧b≤2:=by unfold enP dO at h;rw[av rfl] at h;simp only[bF,bq,lK] at h;obtain⟨f,e,g,i⟩:=h;exact⟨f,e,g,by omega,by omega⟩
theorem afC {y m:Int} (c: -32767≤y∧y≤32767) (a:1≤m∧m≤12): -13000000≤fM y m 1∧fM y m 1≤13000000:=by
 have b:=oH y m a.1 a.2;have f:=D4 (y:=y) (m:=m) (d:=1) ⟨by omega,by omega⟩;have e: -12900000≤iG y∧iG y≤12900000:=by unfold iG Dc;omega
 have g:(if jo y=true then(1:Int) else 0)≤1:=by split<;>omega
 unfold fM;omega
theorem Ss {k w d m y:Int} (h:FI k w d m=true) (a: -32767≤y∧y≤32767): -13001000≤oyI k w d y m∧oyI k w d y m≤13001000:=by
 unfold oyI;rw[if_pos (show FI k w d m=true∧-39999≤y∧y≤39999 from⟨h,by omega,by omega⟩)];have b:=ft_k h;have i:=afC (y:=y) (m:=m) a (by omega);have e:=oH y m (by omega) (by omega);have c:=A7 (fM y m 1+gK y m-1) w;have f:=A7 (fM y m 1+d+5) w;have g:=A7 (fM y m 1+d-1) w;repeat' split
 all_goals omega
theorem dyE_ok {k w d m y:Int} (h:FI k w d m=true) (a: -32767≤y∧y≤32767):oyE k w d y m=0:=by unfold oyE;rw[if_pos h,if_pos (show -39999≤y∧y≤39999 by omega)]
theorem ck_X:iX [88]=0:=by decide
theorem er_X (h:Bool) (y m ok d a c b:Int):Ue 0 0 0 [] [88] h y m ok d a c b=enP h y m ok d a c b:=by
 unfold Ue;rw[ck_X]
 cases enP h y m ok d a c b<;>rfl
theorem uNomS_ok (h:Bool) (y m ok a d c b:Int) (n:true=true):aj fE 85 [.agg [.bool h,.int .i64 y,.int .i64 m,.int .i64 ok,.int .i64 a,.int .i64 d,.int .i64 c,.int .i64 b]] (.tup [.int .i64 (unI h y m ok a d c b),.int .i64 (unE h y m ok a d c b)]):=by
 refine au gJ uS3_ok 5 2 ?_;rw[uNom_top,er_X];unfold unI unE
 cases h with
 |false=>rfl
 |true=>
  rw[aI (show aL true=false from rfl)]
  cases f:enP true y m ok a d c b with
  |false=>rfl
  |true=>obtain⟨k,g,e,j,l⟩:=en_ft f;have i:=Ss (y:=y) e (by omega);rw[aI (show aL true=false from rfl),og (by omega),cr (by omega),dyE_ok e (by omega)];rfl
theorem uS4_ok:aZ fE uS4:=by
 unfold uS4;refine aZ.cons (fun args r h=>?_) uS3_ok;all_goals (revert h;intro h;first|unfold uNomS at h)
 all_goals (split at h;rotate_left; · cases h)
 all_goals (simp only[aT,bP] at h;obtain⟨a,rfl⟩:=h)
 ·exact uNomS_ok _ _ _ _ _ _ _ _ rfl
theorem er_en {o k v:Int} {r q:af} {h:Bool} {y m ok f i c b:Int} (d:Ue o k v r q h y m ok f i c b=true):(-54000≤o∧o≤54000)∧enP h y m ok f i c b=true∧(k=0∨k=1∨k=2)∧-10800≤v∧v≤10800:=by
 unfold Ue at d;simp only[bF,aA] at d;obtain⟨p,l,_,n,a⟩:=d;refine⟨⟨p,l⟩,n,?_⟩;by_cases j:k=0
 ·rw[av (bA j),bF,aO] at a;omega
 rw[aI (bH j)] at a;by_cases e:k=1
 ·rw[av (bA e),bF,bF,aA,aA] at a;omega
 rw[aI (bH e)] at a;by_cases g:k=2
 ·rw[av (bA g),bF,aO] at a;omega
 rw[aI (bH g)] at a;cases a
theorem inst_ev (xs:ah) (o k v:Int) (r q:af) (h:Bool) (y m ok d f c b:Int) (n:kK xs=true):aj fE 62 [.sl 53 [.str,.int .i64,.int .i64,.int .i64,.int .i64,.int .i64,.int .i64,.int .i64,.int .i64,.int .i64,.str] none xs,.agg [.int .i64 o,.int .i64 k,.int .i64 v,.str r,.str q,.bool h,.int .i64 y,.int .i64 m,.int .i64 ok,.int .i64 d,.int .i64 f,.int .i64 c,.int .i64 b]] (.tup [.int .i64 (inI xs o k v r q h y m ok d f c b),.int .i64 (inE xs o k v r q h y m ok d f c b)]):=by
 refine au gJ uS4_ok 5 2 ?_
 (rw[uIn_top];(conv=>zeta))
 unfold inI inE
 cases l:Ue o k v r q h y m ok d f c b with
 |false=>rfl
 |true=>
  obtain⟨u,j,x,t⟩:=er_en l;rw[aI (show aL true=false from rfl)];unfold unE unI
  cases h with
  |false=>rfl
  |true=>
   obtain⟨g1,s,p,w,B⟩:=en_ft j;have z:=Ss (y:=y) p (by omega);have A: -2000000000000≤oW m ok d f c y∧oW m ok d f c y≤2000000000000:=by unfold oW;omega
   rw[j];simp only[if_true,ac7];generalize oW m ok d f c y=N at*;rw[aI (by rfl),n,av (a:=some _) rfl];by_cases i:k=2
   ·have e:clE o N b=0:=by unfold clE;rw[if_pos (show -54000≤o∧o≤54000∧-2000000000000≤N∧N≤2000000000000 by omega),if_pos (show 0≤b∧b≤2 by omega)]
    rw[av (bA i),if_pos i,e]
   rw[aI (bH i),if_neg i];by_cases b0:b=0
   ·rw[av (bA b0),if_pos b0,dV (a:=N) (by omega),dV (by omega)]
   rw[aI (bH b0),if_neg b0];by_cases g:b=1
   ·rw[av (bA g),if_pos g,dV (by omega)]
   rw[aI (bH g),if_neg g]
theorem uInS_ok (e:Nat) (p:Option Nat) (xs:ah) (o k v:Int) (r q:af) (h:Bool) (y m ok a d c b:Int) (n:kK xs=true):aj fE 62 [.sl e [.str,.int .i64,.int .i64,.int .i64,.int .i64,.int .i64,.int .i64,.int .i64,.int .i64,.int .i64,.str] p xs,.agg [.int .i64 o,.int .i64 k,.int .i64 v,.str r,.str q,.bool h,.int .i64 y,.int .i64 m,.int .i64 ok,.int .i64 a,.int .i64 d,.int .i64 c,.int .i64 b]] (.tup [.int .i64 (inI xs o k v r q h y m ok a d c b),.int .i64 (inE xs o k v r q h y m ok a d c b)]):=by intro G w vs l j g;refine inst_ev xs o k v r q h y m ok a d c b n G w vs l j ?_;obtain⟨x,us,rfl,f,i⟩:=PW.cons_inv g;refine .cons ?_ i;unfold aV at f⊢;exact f
end Nt.Ev.YtjcencojgajgdaaGreatDoor.Un
