/-
  Render: equations of functions, as the evaluator prints them.
-/
import Derived.Test.YtjcencojgajgdaaGreatDoorMXE
import Derived.Test.YtjcencojgajgdaaGreatDoorMXA
set_option linter.all false
set_option maxRecDepth 100000
namespace Nt.Ev.YtjcencojgajgdaaGreatDoor.Rd
open Go Nt.Num Go.Proofs.YtjcencojgajgdaaGreatDoor
variable [kH]
open Nt.Ev.YtjcencojgajgdaaGreatDoor
open Nt.Civil
open Nt.Ev.YtjcencojgajgdaaGreatDoor.Rl
open Nt.Ev.YtjcencojgajgdaaGreatDoor.Oc
open Nt.Ev.YtjcencojgajgdaaGreatDoor.Un
noncomputable def dS0:List (Nat×aD):=(61,uErS)::(62,uInS)::[]
noncomputable def Dh:=fun F j n h b a i l m k g f e c d K=>(bR fE dS0 F 3 41 [1,1,1,0,1,0] j K n (fB 52 [(0,V.sl 53 [Kd.str,Kd.int .i64,Kd.int .i64,Kd.int .i64,Kd.int .i64,Kd.int .i64,Kd.int .i64,Kd.int .i64,Kd.int .i64,Kd.int .i64,Kd.str] none h),(1,V.agg [V.str b,V.sl 51 [Kd.int .i64,Kd.int .i64,Kd.int .i64,Kd.str,Kd.str,Kd.bool,Kd.int .i64,Kd.int .i64,Kd.int .i64,Kd.int .i64,Kd.int .i64,Kd.int .i64,Kd.int .i64] none a]),(3,V.box 3 0),(4,V.sl 2 [Kd.int .i64] (some 4) i),(5,V.int .i64 l),(6,V.sl 2 [Kd.int .i64] (some 6) m),(7,V.int .i64 k),(17,V.sl 51 [Kd.int .i64,Kd.int .i64,Kd.int .i64,Kd.str,Kd.str,Kd.bool,Kd.int .i64,Kd.int .i64,Kd.int .i64,Kd.int .i64,Kd.int .i64,Kd.int .i64,Kd.int .i64] none g),(18,V.int .i64 f),(19,V.int .i64 e)] [(3,[V.str c,V.sl 51 [Kd.int .i64,Kd.int .i64,Kd.int .i64,Kd.str,Kd.str,Kd.bool,Kd.int .i64,Kd.int .i64,Kd.int .i64,Kd.int .i64,Kd.int .i64,Kd.int .i64,Kd.int .i64] none d])]):Option V)
theorem dEn_top (F xs a n) (K:V→Option V):
 bE fE (bC fE dS0 F 3) F 41 [V.sl 53 [Kd.str,Kd.int .i64,Kd.int .i64,Kd.int .i64,Kd.int .i64,Kd.int .i64,Kd.int .i64,Kd.int .i64,Kd.int .i64,Kd.int .i64,Kd.str] none xs,V.agg [V.str n,V.sl 51 [Kd.int .i64,Kd.int .i64,Kd.int .i64,Kd.str,Kd.str,Kd.bool,Kd.int .i64,Kd.int .i64,Kd.int .i64,Kd.int .i64,Kd.int .i64,Kd.int .i64,Kd.int .i64] none a]] K=
 Dh F [] F xs n a [] 0 [] (dB .i64 (ay a) 1) a (ay a) 0 n a K:=by kernel_rfl
theorem E9 (F n h b d k l j i e g a f c K):
 Dh F [] (n+1) h b d k l j i e g a f c K=
 let A:=aG e a;let C:=K (V.tup [V.sl 2 [Kd.int .i64] (some 0) [],V.int .i64 4]);let S:=bg .i64 a 1;let D:=asBool (ai A 5);let E:=asInt (ai A 10);let G:=asInt (ai A 11);let H:=asInt (ai A 12);let I:=asInt (ai A 0);let J:=asInt (ai A 1);let L:=asInt (ai A 2);let M:=aF (ai A 3);let N:=aF (ai A 4);let O:=asInt (ai A 6);let P:=asInt (ai A 7);let Q:=asInt (ai A 8);let R:=asInt (ai A 9);let B:=[V.int .i64 (inI h I J L M N D O P Q R E G H)];sel (aR a g) (sel (ak (ax 0 a) (aR a (ay e))) (sel (aL (Ue I J L M N D O P Q R E G H)) C (sel (aL (beq D (aR a i))) C (sel (kK h) (sel (ieq (inE h I J L M N D O P Q R E G H) 0) (sel (dh j B) (Dh F [] n h b d k l (aX j B) i e g S f c K) none) (Dh F [] n h b d k l j i e g S f c K)) none))) none) (sel (aR i 0) C (K (V.tup [V.sl 2 [Kd.int .i64] (some 0) j,V.int .i64 0]))):=by kernel_rfl
open Go.RowKit Nt
theorem dS0_ok:aZ fE dS0:=by
 unfold dS0;refine aZ.cons (fun args r h=>?_) (aZ.cons (fun args r h=>?_) aZ.nil);all_goals (revert h;intro h;first|unfold uErS at h|unfold uInS at h)
 all_goals (split at h;rotate_left; · cases h)
 all_goals (simp only[aT,bP] at h;obtain⟨a,rfl⟩:=h)
 ·exact Zf _ _ _ _ _ _ _ _ _ _ _ _ _ rfl
 exact uInS_ok _ _ _ _ _ _ _ _ _ _ _ _ _ _ _ _ a
def eV (e:V):Bool:=Ue (asInt (ai e 0)) (asInt (ai e 1)) (asInt (ai e 2)) (aF (ai e 3)) (aF (ai e 4)) (asBool (ai e 5)) (asInt (ai e 6)) (asInt (ai e 7)) (asInt (ai e 8)) (asInt (ai e 9)) (asInt (ai e 10)) (asInt (ai e 11)) (asInt (ai e 12))
noncomputable def inV (xs:ah) (e:V):Int:=inI xs (asInt (ai e 0)) (asInt (ai e 1)) (asInt (ai e 2)) (aF (ai e 3)) (aF (ai e 4)) (asBool (ai e 5)) (asInt (ai e 6)) (asInt (ai e 7)) (asInt (ai e 8)) (asInt (ai e 9)) (asInt (ai e 10)) (asInt (ai e 11)) (asInt (ai e 12))
noncomputable def ieV (xs:ah) (e:V):Int:=inE xs (asInt (ai e 0)) (asInt (ai e 1)) (asInt (ai e 2)) (aF (ai e 3)) (aF (ai e 4)) (asBool (ai e 5)) (asInt (ai e 6)) (asInt (ai e 7)) (asInt (ai e 8)) (asInt (ai e 9)) (asInt (ai e 10)) (asInt (ai e 11)) (asInt (ai e 12))
def okE (a i:Int) (e:V):Bool:=eV e&&beq (asBool (ai e 5)) (aR i a)
noncomputable def enF (xs c:ah) (a:Int):Nat→Int→ah→ah×Int
 |0,_,b=>if a<0 then([],4) else(b,0)
 |k+1,i,b=>if okE a i (aG c i)=true then enF xs c a k (i+1) (if ieq (ieV xs (aG c i)) 0=true then aX b [.int .i64 (inV xs (aG c i))] else b) else([],4)
theorem en_loop (F:Nat) (xs c:ah) (y:af) (j e:ah) (f:Int) (b0:af) (d:ah) (a:Int) (n:kK xs=true) (p:c.length≤1000) (K:V→Option V): ∀(k:Nat) (i:Nat) (b:ah) (G:Nat),i+k=c.length→b.length≤i→k<G→
  Dh F [] G xs y j e f b a c (ay c) i b0 d K=K (.tup [.sl 2 [.int .i64] (some 0) (enF xs c a k i b).1,.int .i64 (enF xs c a k i b).2]):=by
 intro k;induction k with
 |zero=>
  intro i b G o l m;obtain⟨G,rfl⟩:=uN (show G≠0 by omega)
  (rw[E9];(conv=>zeta);rw[aI (bB (by rw[aC];omega))])
  unfold enF;by_cases h:a<0
  ·rw[av (bu h),if_pos h]
  rw[aI (bB (by omega)),if_neg h]
 |succ k g=>
  intro i b G o l m;obtain⟨G,rfl⟩:=uN (show G≠0 by omega)
  (rw[E9];(conv=>zeta);rw[av (bu (by rw[aC];omega)),av (by rw[aM,aA,bq,aC];omega),cr (by omega),show((i:Int)+1)=((i+1:Nat):Int) by omega])
  show sel (aL (eV (aG c i))) _ (sel _ _ (sel _ (sel (ieq (ieV xs (aG c i)) 0) (sel (dh b [.int .i64 (inV xs (aG c i))]) (Dh F [] G xs y j e f (aX b [.int .i64 (inV xs (aG c i))]) a c (ay c) ((i+1:Nat):Int) b0 d K) _) _) _))=_;unfold enF okE
  cases r:eV (aG c i) with
  |false=>rfl
  |true=>
   cases s:beq (asBool (ai (aG c i) 5)) (aR i a) with
   |false=>rfl
   |true=>
    rw[aI (show aL true=false from rfl),aI (show aL true=false from rfl),av n,if_pos (show(true&&true)=true from rfl)]
    cases q:ieq (ieV xs (aG c i)) 0 with
    |false=>rw[aI rfl,g (i+1) b G (by omega) (by omega) (by omega)];rfl
    |true=>rw[av rfl,av (by rw[gW];simp;omega),g (i+1) _ G (by omega) (by unfold aX;simp;omega) (by omega)];rfl
theorem ends_ev (xs a:ah) (n:af) (b:kK xs=true) (c:a.length≤1000):aj fE 41 [.sl 53 [.str,.int .i64,.int .i64,.int .i64,.int .i64,.int .i64,.int .i64,.int .i64,.int .i64,.int .i64,.str] none xs,.agg [.str n,.sl 51 [.int .i64,.int .i64,.int .i64,.str,.str,.bool,.int .i64,.int .i64,.int .i64,.int .i64,.int .i64,.int .i64,.int .i64] none a]] (.tup [.sl 2 [.int .i64] (some 0) (enF xs a ((a.length:Int)-1) a.length 0 []).1,.int .i64 (enF xs a ((a.length:Int)-1) a.length 0 []).2]):=by refine au gJ dS0_ok 1010 3 ?_;rw[dEn_top,dV (by rw[aC];omega),aC];exact en_loop 1010 xs a n a [] 0 n a _ b c some a.length 0 [] 1010 (by omega) (by simp) (by omega)
end Nt.Ev.YtjcencojgajgdaaGreatDoor.Rd
namespace Nt.Ev.YtjcencojgajgdaaGreatDoor.Rx
open Go Go.RowKit Nt Nt.Num Nt.Civil Nt.Fld Go.Proofs.YtjcencojgajgdaaGreatDoor Nt.Ev.YtjcencojgajgdaaGreatDoor
variable [kH]
noncomputable abbrev rE:Env:=eE
theorem nD:uQ rE:=iZ
theorem rO {f:Nat} {args:ah} {r:V} (h:aj oE f args r):aj rE f args r:=aj.env (E:=oE) rfl (fun n v h=>by cases h) h
theorem rH {f:Nat} {args:ah} {r:V} (h:aj hE f args r):aj rE f args r:=aj.env (E:=hE) rfl (fun n v h=>by cases h) h
theorem rF {f:Nat} {args:ah} {r:V} (h:aj fE f args r):aj rE f args r:=aj.env (E:=fE) rfl (fun n v h=>by
 unfold fE at h;simp only at h
 cases e:n==3 with
 |true=>
  obtain rfl:n=3:=by simpa using e
  exact h
 |false=>rw[e] at h;cases h) h
noncomputable def yNmS:aD:=fun a=>match a with|[.str s]=>some (true,.int .i64 (dK s))|_=>none
noncomputable def yS9:List (Nat×aD):=[]
theorem yS9_ok:aZ rE yS9:=aZ.nil
theorem Iv: ∀(s:af) (k:Nat),Nm.xZ k s=Nt.Ev.YtjcencojgajgdaaGreatDoor.xZ k s
 |[],_=>rfl
 |c::t,k=>by
  show(Nm.Kq k c&&Nm.xZ (k+1) t)=(Nt.Ev.YtjcencojgajgdaaGreatDoor.Kq k c&&Nt.Ev.YtjcencojgajgdaaGreatDoor.xZ (k+1) t)
  rw[Iv t (k+1)];rfl
theorem uK (s:af):Nm.dK s=Nt.Ev.YtjcencojgajgdaaGreatDoor.dK s:=by unfold Nm.dK Nt.Ev.YtjcencojgajgdaaGreatDoor.dK;rw[Iv]
theorem l9 {s:af} (h:ax (aB s) 900=true):s.length≤900:=by rw[aA,aJ] at h;omega
theorem er_eq (o k v:Int) (r q:af) (h:Bool) (y m ok d a c b:Int):Un.Ue o k v r q h y m ok d a c b=G8 o k v r q h y m ok d a c b:=by unfold Un.Ue G8;show(ax (-54000) o&&(ax o 54000&&(ieq (iX q) 0&&(Un.enP h y m ok d a c b&&sel (ieq k 0) (ieq v 0&&seq r []) (sel (ieq k 1) (ax (-10800) v&&(ax v 10800&&seq r [])) (sel (ieq k 2) (ieq v 0&&ieq (Nm.dK r) 0) false))))))=_;rw[uK];rfl
theorem yNmS_ok (s:af) (a:true=true):aj rE 42 [.str s] (.int .i64 (dK s)):=Y4 s rfl
theorem wRfS_ok (n:af) (f t m k w d c b v:Int) (l:af) (a:ak (ak (ax (aB n) 900) (ax (aB l) 900)) (ak (ak (ax (-9223372036854775808) v) (ax v 9223372036854775807)) (ak (ax (-9223372036854775808) m) (ax m 9223372036854775807)))=true):aj rE 17 [.agg [.str n,.int .i64 f,.int .i64 t,.int .i64 m,.int .i64 k,.int .i64 w,.int .i64 d,.int .i64 c,.int .i64 b,.int .i64 v,.str l]] (.tup [.sl 9 [.str] none (rfV n f t m k w d c b v l),.int .i64 (rfE n f t m k w d c b v l)]):=tRFS_ok n f t m k w d c b v l (aN a).2
theorem wEfS_ok (o k v:Int) (r q:af) (h:Bool) (y m ok d a c b:Int) (e:ak (ak (ax (aB r) 900) (ax (aB q) 900)) (ak (ak (ak (ax (-9223372036854775808) o) (ax o 9223372036854775807)) (ak (ax (-9223372036854775808) v) (ax v 9223372036854775807))) (ak (ak (ax (-9223372036854775808) y) (ax y 9223372036854775807)) (ak (ax (-9223372036854775808) m) (ax m 9223372036854775807))))=true):aj rE 43 [.agg [.int .i64 o,.int .i64 k,.int .i64 v,.str r,.str q,.bool h,.int .i64 y,.int .i64 m,.int .i64 ok,.int .i64 d,.int .i64 a,.int .i64 c,.int .i64 b]] (.tup [.sl 9 [.str] none (efV o k v r q h y m ok d a c b),.int .i64 (efE o k v r q h y m ok d a c b)]):=tEFS_ok o k v r q h y m ok d a c b (aN e).2
open Nt.Ev.YtjcencojgajgdaaGreatDoor.Lk
abbrev kE:List Kd:=[Kd.int .i64,Kd.int .i64,Kd.int .i64,Kd.str,Kd.str,Kd.bool,Kd.int .i64,Kd.int .i64,Kd.int .i64,Kd.int .i64,Kd.int .i64,Kd.int .i64,Kd.int .i64]
abbrev kR:List Kd:=[Kd.str,Kd.int .i64,Kd.int .i64,Kd.int .i64,Kd.int .i64,Kd.int .i64,Kd.int .i64,Kd.int .i64,Kd.int .i64,Kd.int .i64,Kd.str]
abbrev kZ:List Kd:=[Kd.str,Kd.sl 51 kE]
noncomputable abbrev kK (xs:ah):Bool:=Un.kK xs
def Am (a b c:Int):Int:=sel (aL (ieq a 0)) a (sel (aL (ieq b 0)) b c)
noncomputable def ndE (xs a:ah):Int:=(Rd.enF xs a ((a.length:Int)-1) a.length 0 []).2
noncomputable def vo (xs a:ah):ah:=(Rd.enF xs a ((a.length:Int)-1) a.length 0 []).1
def Uf (xs:ah):Bool:=jnC xs
noncomputable def wRfS:aD:=fun a=>match a with|[.agg [.str n,.int .i64 f,.int .i64 t,.int .i64 m,.int .i64 k,.int .i64 w,.int .i64 d,.int .i64 c,.int .i64 b,.int .i64 v,.str l]]=>some (ak (ak (ax (aB n) 900) (ax (aB l) 900)) (ak (ak (ax (-9223372036854775808) v) (ax v 9223372036854775807)) (ak (ax (-9223372036854775808) m) (ax m 9223372036854775807))),.tup [.sl 9 [.str] none (rfV n f t m k w d c b v l),.int .i64 (rfE n f t m k w d c b v l)])|_=>none
noncomputable def wEfS:aD:=fun a=>match a with|[.agg [.int .i64 o,.int .i64 k,.int .i64 v,.str r,.str q,.bool h,.int .i64 y,.int .i64 m,.int .i64 ok,.int .i64 ow,.int .i64 od,.int .i64 c,.int .i64 b]]=>some (ak (ak (ax (aB r) 900) (ax (aB q) 900)) (ak (ak (ak (ax (-9223372036854775808) o) (ax o 9223372036854775807)) (ak (ax (-9223372036854775808) v) (ax v 9223372036854775807))) (ak (ak (ax (-9223372036854775808) y) (ax y 9223372036854775807)) (ak (ax (-9223372036854775808) m) (ax m 9223372036854775807)))),.tup [.sl 9 [.str] none (efV o k v r q h y m ok ow od c b),.int .i64 (efE o k v r q h y m ok ow od c b)])|_=>none
noncomputable def wLkS:aD:=fun a=>match a with|[.agg [.str t,.str n]]=>some (true,.tup [.sl 9 [.str] none (fdL t n),.int .i64 (fdE t n)])|_=>none
noncomputable def wJnS:aD:=fun a=>match a with|[.sl 9 [.str] none xs]=>some (Uf xs,.tup [.str (tC xs),.int .i64 (rz xs)])|_=>none
noncomputable def wOrS:aD:=fun a=>match a with|[.sl e [.int .i64] o [.int .i64 a,.int .i64 b,.int .i64 c]]=>some (true,.int .i64 (Am a b c))|_=>none
noncomputable def wEnS:aD:=fun a=>match a with|[.sl 53 [.str,.int .i64,.int .i64,.int .i64,.int .i64,.int .i64,.int .i64,.int .i64,.int .i64,.int .i64,.str] none xs,.agg [.str n,.sl 51 [.int .i64,.int .i64,.int .i64,.str,.str,.bool,.int .i64,.int .i64,.int .i64,.int .i64,.int .i64,.int .i64,.int .i64] none es]]=>some (ak (kK xs) (ax (ay es) 1000),.tup [.sl 2 [.int .i64] (some 0) (vo xs es),.int .i64 (ndE xs es)])|_=>none
noncomputable def Z4 (x b:V):Bool:=match x,b with| .nilp,.nilsl=>true| .box k off,.sl e sh (some L) xs=>(k==HL&&off==0)&&(e==5&&(Kd.tq [.int .u8] sh&&L==1000001002))|_,_=>false
noncomputable def bxN (b:V) (t:af):V:=match b with| .sl e sh o xs=> .sl e sh o (aX xs (aH t))|_=> .sl 5 [.int .u8] (some 1002) (aH t)
noncomputable def bwL:V→ah| .sl _ _ _ xs=>xs|_=>[]
noncomputable def NA:V→Bool| .nilp=>true| .box k off=>k==HL&&off==0|_=>false
noncomputable def bbOk:V→Bool| .nilsl=>true| .sl e sh (some L) xs=>e==5&&Kd.tq [.int .u8] sh&&L==1000001002|_=>false
noncomputable def bbS:V→af| .sl _ _ _ xs=>gq xs|_=>[]
noncomputable def bbN:V→V| .sl e sh _ xs=> .sl e sh none xs|v=>v
noncomputable def wCpS:aD:=fun a=>match a with|[.bxa 0 [x,b,.int .i64 w]]=>some (NA x,.out false (.tup []) [[.box HL 0,b,.int .i64 w]])|_=>none
noncomputable def wStS:aD:=fun a=>match a with|[.bxa 0 [x,b,.int .i64 w]]=>some (ak (NA x) (bbOk b),.out false (.str (bbS b)) [[x,bbN b,.int .i64 w]])|_=>none
noncomputable def wS0:List (Nat×aD):=(17,wRfS)::(43,wEfS)::(20,wLkS)::(38,wJnS)::(39,wOrS)::(41,wEnS)::(GX+60,wCpS)::(GX+21,wStS)::(42,yNmS)::[]
def vg (a:af) (b:ah):af:=dZ (dZ (dZ a [32]) (tC b)) [10]
def CL (a:af) (b:ah):Bool:=ak (Uf b) (ak (ax (aB a) 1000) (ax (aB (tC b)) 10000))
def gR (e:V):Bool:=ak (ak (ax (aB (aF (ai e 0))) 900) (ax (aB (aF (ai e 10))) 900)) (ak (ak (ax (-9223372036854775808) (asInt (ai e 9))) (ax (asInt (ai e 9)) 9223372036854775807)) (ak (ax (-9223372036854775808) (asInt (ai e 3))) (ax (asInt (ai e 3)) 9223372036854775807)))
def gE (e:V):Bool:=ak (ak (ax (aB (aF (ai e 3))) 900) (ax (aB (aF (ai e 4))) 900)) (ak (ak (ak (ax (-9223372036854775808) (asInt (ai e 0))) (ax (asInt (ai e 0)) 9223372036854775807)) (ak (ax (-9223372036854775808) (asInt (ai e 2))) (ax (asInt (ai e 2)) 9223372036854775807))) (ak (ak (ax (-9223372036854775808) (asInt (ai e 6))) (ax (asInt (ai e 6)) 9223372036854775807)) (ak (ax (-9223372036854775808) (asInt (ai e 7))) (ax (asInt (ai e 7)) 9223372036854775807))))
noncomputable def Xh (e:V):ah:=rfV (aF (ai e 0)) (asInt (ai e 1)) (asInt (ai e 2)) (asInt (ai e 3)) (asInt (ai e 4)) (asInt (ai e 5)) (asInt (ai e 6)) (asInt (ai e 7)) (asInt (ai e 8)) (asInt (ai e 9)) (aF (ai e 10))
noncomputable def feR (e:V):Int:=rfE (aF (ai e 0)) (asInt (ai e 1)) (asInt (ai e 2)) (asInt (ai e 3)) (asInt (ai e 4)) (asInt (ai e 5)) (asInt (ai e 6)) (asInt (ai e 7)) (asInt (ai e 8)) (asInt (ai e 9)) (aF (ai e 10))
noncomputable def rrR (e:V):Bool:=Qj (aF (ai e 0)) (asInt (ai e 1)) (asInt (ai e 2)) (asInt (ai e 3)) (asInt (ai e 4)) (asInt (ai e 5)) (asInt (ai e 6)) (asInt (ai e 7)) (asInt (ai e 8)) (asInt (ai e 9)) (aF (ai e 10))
noncomputable def oz (e:V):ah:=efV (asInt (ai e 0)) (asInt (ai e 1)) (asInt (ai e 2)) (aF (ai e 3)) (aF (ai e 4)) (asBool (ai e 5)) (asInt (ai e 6)) (asInt (ai e 7)) (asInt (ai e 8)) (asInt (ai e 9)) (asInt (ai e 10)) (asInt (ai e 11)) (asInt (ai e 12))
noncomputable def feE (e:V):Int:=efE (asInt (ai e 0)) (asInt (ai e 1)) (asInt (ai e 2)) (aF (ai e 3)) (aF (ai e 4)) (asBool (ai e 5)) (asInt (ai e 6)) (asInt (ai e 7)) (asInt (ai e 8)) (asInt (ai e 9)) (asInt (ai e 10)) (asInt (ai e 11)) (asInt (ai e 12))
noncomputable def Xi (e:V):Bool:=G8 (asInt (ai e 0)) (asInt (ai e 1)) (asInt (ai e 2)) (aF (ai e 3)) (aF (ai e 4)) (asBool (ai e 5)) (asInt (ai e 6)) (asInt (ai e 7)) (asInt (ai e 8)) (asInt (ai e 9)) (asInt (ai e 10)) (asInt (ai e 11)) (asInt (ai e 12))
noncomputable def fvL (e:V):ah:=fdL (aF (ai e 0)) (aF (ai e 1))
noncomputable def feL (e:V):Int:=fdE (aF (ai e 0)) (aF (ai e 1))
noncomputable def rrL (e:V):Bool:=rgB (aF (ai e 0)) (aF (ai e 1))
def zN (e:V):af:=aF (ai e 0)
def QA (e:V):ah:=jM (ai e 1)
def allI (p:V→Bool) (l:ah):Nat→Nat→Bool|0,_=>true|k+1,i=>p (aG l i)&&allI p l k (i+1)
noncomputable def zB (b:ah) (a:Int):Nat→Nat→Bool|0,_=>true|k+1,i=>(Xi (aG b i)&&beq (asBool (ai (aG b i) 5)) (aR i a))&&zB b a k (i+1)
noncomputable def zoB (a:ah):Bool:=zB a ((a.length:Int)-1) a.length 0&&aR 0 (ay a)
def zoK (a:ah):Bool:=ak (ax (ay a) 12) (a.all gE)
def gZ (e:V):Bool:=ak (ax (aB (zN e)) 900) (zoK (QA e))
noncomputable def zP (e:V):Bool:=ieq (dK (zN e)) 0&&zoB (QA e)
def Xj (xs zs a:ah):Bool:=ak (ax (ay xs) 50) (ak (ax (ay zs) 20) (ak (ax (ay a) 100) (ak (xs.all gR) (zs.all gZ))))
noncomputable def Kt (xs zs a:ah):Bool:=allI rrR xs xs.length 0&&(allI zP zs zs.length 0&&allI rrL a a.length 0)
noncomputable def Ao (n:af) (i:Nat):af:=if i=0 then dZ [90,111,110,101,32] n else[]
noncomputable def eT (n:af) (a:ah):Nat→Nat→af|0,_=>[]|k+1,i=>vg (Ao n i) (oz (aG a i))++eT n a k (i+1)
noncomputable def eW (a:ah):Nat→Nat→Int→Int|0,_,w=>w|k+1,i,w=>eW a k (i+1) (Am w (feE (aG a i)) (rz (oz (aG a i))))
noncomputable def znT (n:af) (a:ah):af:=eT n a a.length 0
noncomputable def znW (w:Int) (xs:ah) (n:af) (a:ah):Int:=eW a a.length 0 (Am w (ndE xs a) (dK n))
noncomputable def znK (xs:ah) (n:af) (a:ah):Bool:=ak (kK xs) (ak (ax (aB n) 900) (zoK a))
noncomputable def wLnS:aD:=fun a=>match a with|[.bxa 0 [x,b,.int .i64 w],.str a,.sl 9 [.str] none fs,.int .i64 y]=>some (ak (Z4 x b) (ak (CL a fs) (ax (ay (bwL b)) 1000000)),.out false (.tup []) [[.box HL 0,bxN b (vg a fs),.int .i64 (Am w y (rz fs))]])|_=>none
noncomputable def wS1:List (Nat×aD):=(GX+18,wLnS)::wS0
noncomputable def nilB:V→Bool| .nilp=>true|_=>false
noncomputable def wZnS:aD:=fun a=>match a with|[.bxa 0 [x,b,.int .i64 w],.agg [.sl 53 [.str,.int .i64,.int .i64,.int .i64,.int .i64,.int .i64,.int .i64,.int .i64,.int .i64,.int .i64,.str] none xs,.sl 57 [.str,.sl 51 [.int .i64,.int .i64,.int .i64,.str,.str,.bool,.int .i64,.int .i64,.int .i64,.int .i64,.int .i64,.int .i64,.int .i64]] none zs,.sl 59 [.str,.str] none ls],.agg [.str n,.sl 51 [.int .i64,.int .i64,.int .i64,.str,.str,.bool,.int .i64,.int .i64,.int .i64,.int .i64,.int .i64,.int .i64,.int .i64] none es]]=>some (ak (Z4 x b) (ak (znK xs n es) (ax (ay (bwL b)) 500000)),.oq (ak (nilB x) (ieq (ay es) 0)) (.out false (.tup []) [[x,b,.int .i64 (znW w xs n es)]]) (.out false (.tup []) [[.box HL 0,bxN b (znT n es),.int .i64 (znW w xs n es)]]))|_=>none
noncomputable def wS2:List (Nat×aD):=(GX+19,wZnS)::wS1
theorem WW (a b c) (K:V→Option V):
 bE rE (bC rE yS9 5 2) 5 39 [V.sl 29 [Kd.int .i64] none [V.int .i64 a,V.int .i64 b,V.int .i64 c]] K=
 sel (aL (ieq a 0)) (K (V.int .i64 a)) (sel (aL (ieq b 0)) (K (V.int .i64 b)) (sel (aL (ieq c 0)) (K (V.int .i64 c)) (K (V.int .i64 0)))):=by kernel_rfl
theorem wLnN_top (F w a b y) (K:V→Option V):
 bE rE (bC rE wS0 F 4) F 18 [V.bxa 0 [V.nilp,V.nilsl,V.int .i64 w],V.str a,V.sl 9 [Kd.str] none b,V.int .i64 y] K=
 let A:=dZ (dZ a [32]) (tC b);let B:=aH (dZ A [10]);sel (Uf b) (sel (fC a [32]) (sel (fC (dZ a [32]) (tC b)) (sel (fC A [10]) (sel (rJ B) (K (V.out false (V.tup []) [[V.box 1000000000 0,V.sl 5 [Kd.int .u8] (some 1002) B,V.int .i64 (Am w y (rz b))]])) none) none) none) none) none:=by kernel_rfl
theorem wLnB_top (F bs w a b y) (K:V→Option V):
 bE rE (bC rE wS0 F 4) F 18 [V.bxa 0 [V.box 1000000000 0,V.sl 5 [Kd.int .u8] (some 1000001002) bs,V.int .i64 w],V.str a,V.sl 9 [Kd.str] none b,V.int .i64 y] K=
 let A:=dZ (dZ a [32]) (tC b);let B:=aH (dZ A [10]);sel (Uf b) (sel (fC a [32]) (sel (fC (dZ a [32]) (tC b)) (sel (fC A [10]) (sel (dh bs B) (K (V.out false (V.tup []) [[V.box 1000000000 0,V.sl 5 [Kd.int .u8] (some 1000001002) (aX bs B),V.int .i64 (Am w y (rz b))]])) none) none) none) none) none:=by kernel_rfl
noncomputable def Pt:=fun F p n i e k j b q l o m f d h c g a K=>(qI rE wS1 F 4 19 [V.bxa 0 [],V.nilsl,V.nilsl] [1,1,1,1,0] p K n (fB 57 [(0,V.box 1000000000 0),(1,V.agg [V.sl 53 kR none i,V.sl 57 kZ none e,V.sl 59 [Kd.str,Kd.str] none k]),(2,V.agg [V.str j,V.sl 51 kE none b]),(4,V.box 4 0),(5,V.box 5 0),(7,V.int .i64 q),(34,V.sl 51 kE none l),(35,V.int .i64 o),(36,V.int .i64 m)] [(5,[V.str f,V.sl 51 kE none d]),(4,[V.sl 53 kR none h,V.sl 57 kZ none c,V.sl 59 [Kd.str,Kd.str] none g]),(1000000000,[V.nilp,V.nilsl,V.int .i64 a])]):Option V)
noncomputable def mV:=fun F q n i e l j b r m p o f d h c g k a K=>(qI rE wS1 F 4 19 [V.bxa 0 [],V.nilsl,V.nilsl] [1,1,1,1,0] q K n (fB 57 [(0,V.box 1000000000 0),(1,V.agg [V.sl 53 kR none i,V.sl 57 kZ none e,V.sl 59 [Kd.str,Kd.str] none l]),(2,V.agg [V.str j,V.sl 51 kE none b]),(4,V.box 4 0),(5,V.box 5 0),(7,V.int .i64 r),(34,V.sl 51 kE none m),(35,V.int .i64 p),(36,V.int .i64 o)] [(5,[V.str f,V.sl 51 kE none d]),(4,[V.sl 53 kR none h,V.sl 57 kZ none c,V.sl 59 [Kd.str,Kd.str] none g]),(1000000000,[V.box 1000000000 0,V.sl 5 [Kd.int .u8] (some 10001) k,V.int .i64 a])]):Option V)
theorem Sv (F w xs zs b n a) (K:V→Option V):
 bE rE (bC rE wS1 F 4) F 19 [V.bxa 0 [V.nilp,V.nilsl,V.int .i64 w],V.agg [V.sl 53 kR none xs,V.sl 57 kZ none zs,V.sl 59 [Kd.str,Kd.str] none b],V.agg [V.str n,V.sl 51 kE none a]] K=
 sel (ak (kK xs) (ax (ay a) 1000)) (Pt F [] F xs zs b n a (ndE xs a) a (ay a) 0 n a xs zs b (Am w (ndE xs a) (dK n)) K) none:=by kernel_rfl
theorem Cj (F n k g m l d p h o b a f j e i c K):
 Pt F [] (n+1) k g m l d p h o b a f j e i c K=
 let A:=aG h b;let B:=dZ [90,111,110,101,32] a;let D:=ax (ay []) 1000000;let E:=bg .i64 b 1;let C:=Am c (feE A) (rz (oz A));sel (aR b o) (sel (ak (ax 0 b) (aR b (ay h))) (sel (ieq b 0) (sel (fC [90,111,110,101,32] a) (sel (gE A) (sel (ak true (ak (CL B (oz A)) D)) (mV F [] n k g m l d p h o E a f j e i (aH (vg B (oz A))) C K) none) none) none) (sel (gE A) (sel (ak true (ak (CL [] (oz A)) D)) (mV F [] n k g m l d p h o E a f j e i (aH (vg [] (oz A))) C K) none) none)) none) (K (V.out false (V.tup []) [[V.nilp,V.nilsl,V.int .i64 c]])):=by kernel_rfl
theorem Ck (F n l h o m e q i p c a g k f j b d K):
 mV F [] (n+1) l h o m e q i p c a g k f j b d K=
 let A:=aG i c;let B:=dZ [90,111,110,101,32] a;let D:=ax (ay b) 1000000;let E:=bg .i64 c 1;let C:=Am d (feE A) (rz (oz A));sel (aR c p) (sel (ak (ax 0 c) (aR c (ay i))) (sel (ieq c 0) (sel (fC [90,111,110,101,32] a) (sel (gE A) (sel (ak true (ak (CL B (oz A)) D)) (mV F [] n l h o m e q i p E a g k f j (aX b (aH (vg B (oz A)))) C K) none) none) none) (sel (gE A) (sel (ak true (ak (CL [] (oz A)) D)) (mV F [] n l h o m e q i p E a g k f j (aX b (aH (vg [] (oz A)))) C K) none) none)) none) (K (V.out false (V.tup []) [[V.box 1000000000 0,V.sl 5 [Kd.int .u8] (some 1002) b,V.int .i64 d]])):=by kernel_rfl
noncomputable def qK:=fun F q n i e l j b r m p o f d h c g k a K=>(qI rE wS1 F 4 19 [V.bxa 0 [],V.nilsl,V.nilsl] [1,1,1,1,0] q K n (fB 57 [(0,V.box 1000000000 0),(1,V.agg [V.sl 53 kR none i,V.sl 57 kZ none e,V.sl 59 [Kd.str,Kd.str] none l]),(2,V.agg [V.str j,V.sl 51 kE none b]),(4,V.box 4 0),(5,V.box 5 0),(7,V.int .i64 r),(34,V.sl 51 kE none m),(35,V.int .i64 p),(36,V.int .i64 o)] [(5,[V.str f,V.sl 51 kE none d]),(4,[V.sl 53 kR none h,V.sl 57 kZ none c,V.sl 59 [Kd.str,Kd.str] none g]),(1000000000,[V.box 1000000000 0,V.sl 5 [Kd.int .u8] (some 1000010001) k,V.int .i64 a])]):Option V)
theorem wZnB_top (F bs w xs zs b n a) (K:V→Option V):
 bE rE (bC rE wS1 F 4) F 19 [V.bxa 0 [V.box 1000000000 0,V.sl 5 [Kd.int .u8] (some 1000001002) bs,V.int .i64 w],V.agg [V.sl 53 kR none xs,V.sl 57 kZ none zs,V.sl 59 [Kd.str,Kd.str] none b],V.agg [V.str n,V.sl 51 kE none a]] K=
 sel (ak (kK xs) (ax (ay a) 1000)) (qK F [] F xs zs b n a (ndE xs a) a (ay a) 0 n a xs zs b bs (Am w (ndE xs a) (dK n)) K) none:=by kernel_rfl
theorem Cm (F n l h o m e q i p c a g k f j b d K):
 qK F [] (n+1) l h o m e q i p c a g k f j b d K=
 let A:=aG i c;let B:=dZ [90,111,110,101,32] a;let D:=ax (ay b) 1000000;let E:=bg .i64 c 1;let C:=Am d (feE A) (rz (oz A));sel (aR c p) (sel (ak (ax 0 c) (aR c (ay i))) (sel (ieq c 0) (sel (fC [90,111,110,101,32] a) (sel (gE A) (sel (ak true (ak (CL B (oz A)) D)) (qK F [] n l h o m e q i p E a g k f j (aX b (aH (vg B (oz A)))) C K) none) none) none) (sel (gE A) (sel (ak true (ak (CL [] (oz A)) D)) (qK F [] n l h o m e q i p E a g k f j (aX b (aH (vg [] (oz A)))) C K) none) none)) none) (K (V.out false (V.tup []) [[V.box 1000000000 0,V.sl 5 [Kd.int .u8] (some 1000001002) b,V.int .i64 d]])):=by kernel_rfl
noncomputable def Vr:=fun F k n e a d h i j b c g f K=>(bR rE wS2 F 4 7 [1,1,0,1,0] k K n (fB 63 [(0,V.agg [V.sl 53 kR none e,V.sl 57 kZ none a,V.sl 59 [Kd.str,Kd.str] none d]),(1,V.box 1 0),(2,V.str []),(3,V.int .i64 0),(4,V.box 4 0),(10,V.tup []),(12,V.tup []),(13,V.tup []),(14,V.tup []),(16,V.sl 53 kR none h),(17,V.int .i64 i),(18,V.int .i64 j),(32,V.tup []),(33,V.tup []),(34,V.tup []),(43,V.tup []),(44,V.tup []),(45,V.tup [])] [(4,[V.nilp,V.nilsl,V.int .i64 b]),(1,[V.sl 53 kR none c,V.sl 57 kZ none g,V.sl 59 [Kd.str,Kd.str] none f])]):Option V)
noncomputable def Di:=fun F l n f a e i j k b c d h g K=>(bR rE wS2 F 4 7 [1,1,0,1,0] l K n (fB 63 [(0,V.agg [V.sl 53 kR none f,V.sl 57 kZ none a,V.sl 59 [Kd.str,Kd.str] none e]),(1,V.box 1 0),(2,V.str []),(3,V.int .i64 0),(4,V.box 4 0),(10,V.tup []),(12,V.tup []),(13,V.tup []),(14,V.tup []),(16,V.sl 53 kR none i),(17,V.int .i64 j),(18,V.int .i64 k),(32,V.tup []),(33,V.tup []),(34,V.tup []),(43,V.tup []),(44,V.tup []),(45,V.tup [])] [(4,[V.box 4 0,V.sl 5 [Kd.int .u8] (some 50001) b,V.int .i64 c]),(1,[V.sl 53 kR none d,V.sl 57 kZ none h,V.sl 59 [Kd.str,Kd.str] none g])]):Option V)
noncomputable def IA:=fun F o n g a b k l i h m j e f d c K=>(bR rE wS2 F 4 7 [1,1,1,0,1,0] o K n (fB 63 [(0,V.agg [V.sl 53 kR none g,V.sl 57 kZ none a,V.sl 59 [Kd.str,Kd.str] none b]),(1,V.box 1 0),(2,V.str []),(3,V.int .i64 0),(4,V.box 4 0),(12,V.tup []),(13,V.tup []),(14,V.tup []),(16,V.sl 53 kR none k),(17,V.int .i64 l),(18,V.int .i64 i),(32,V.sl 57 kZ none h),(33,V.int .i64 m),(34,V.int .i64 j),(43,V.tup []),(44,V.tup []),(45,V.tup [])] [(4,[V.nilp,V.nilsl,V.int .i64 e]),(1,[V.sl 53 kR none f,V.sl 57 kZ none d,V.sl 59 [Kd.str,Kd.str] none c])]):Option V)
noncomputable def zC:=fun F p n h a c l m j i o k b f g e d K=>(bR rE wS2 F 4 7 [1,1,1,0,1,0] p K n (fB 63 [(0,V.agg [V.sl 53 kR none h,V.sl 57 kZ none a,V.sl 59 [Kd.str,Kd.str] none c]),(1,V.box 1 0),(2,V.str []),(3,V.int .i64 0),(4,V.box 4 0),(12,V.tup []),(13,V.tup []),(14,V.tup []),(16,V.sl 53 kR none l),(17,V.int .i64 m),(18,V.int .i64 j),(32,V.sl 57 kZ none i),(33,V.int .i64 o),(34,V.int .i64 k),(43,V.tup []),(44,V.tup []),(45,V.tup [])] [(4,[V.box 4 0,V.sl 5 [Kd.int .u8] (some 50001) b,V.int .i64 f]),(1,[V.sl 53 kR none g,V.sl 57 kZ none e,V.sl 59 [Kd.str,Kd.str] none d])]):Option V)
noncomputable def Vs:=fun F r n g a b o p i h q k l m j e f d c K=>(bR rE wS2 F 4 7 [1,1,1,1,0,1,0] r K n (fB 63 [(0,V.agg [V.sl 53 kR none g,V.sl 57 kZ none a,V.sl 59 [Kd.str,Kd.str] none b]),(1,V.box 1 0),(2,V.str []),(3,V.int .i64 0),(4,V.box 4 0),(16,V.sl 53 kR none o),(17,V.int .i64 p),(18,V.int .i64 i),(32,V.sl 57 kZ none h),(33,V.int .i64 q),(34,V.int .i64 k),(43,V.sl 59 [Kd.str,Kd.str] none l),(44,V.int .i64 m),(45,V.int .i64 j)] [(4,[V.nilp,V.nilsl,V.int .i64 e]),(1,[V.sl 53 kR none f,V.sl 57 kZ none d,V.sl 59 [Kd.str,Kd.str] none c])]):Option V)
noncomputable def zD:=fun F s n h a c p q j i r l m o k b f g e d K=>(bR rE wS2 F 4 7 [1,1,1,1,0,1,0] s K n (fB 63 [(0,V.agg [V.sl 53 kR none h,V.sl 57 kZ none a,V.sl 59 [Kd.str,Kd.str] none c]),(1,V.box 1 0),(2,V.str []),(3,V.int .i64 0),(4,V.box 4 0),(16,V.sl 53 kR none p),(17,V.int .i64 q),(18,V.int .i64 j),(32,V.sl 57 kZ none i),(33,V.int .i64 r),(34,V.int .i64 l),(43,V.sl 59 [Kd.str,Kd.str] none m),(44,V.int .i64 o),(45,V.int .i64 k)] [(4,[V.box 4 0,V.sl 5 [Kd.int .u8] (some 50001) b,V.int .i64 f]),(1,[V.sl 53 kR none g,V.sl 57 kZ none e,V.sl 59 [Kd.str,Kd.str] none d])]):Option V)
theorem wTx_top (F xs zs a) (K:V→Option V):
 bE rE (bC rE wS2 F 4) F 7 [V.agg [V.sl 53 kR none xs,V.sl 57 kZ none zs,V.sl 59 [Kd.str,Kd.str] none a]] K=
 Vr F [] F xs zs a xs (ay xs) 0 0 xs zs a K:=by kernel_rfl
theorem TX (F n h c g d j b e f a i K):
 Vr F [] (n+1) h c g d j b e f a i K=
 let A:=aG d b;sel (aR b j) (sel (ak (ax 0 b) (aR b (ay d))) (sel (gR A) (sel (ak true (ak (CL [82,117,108,101] (Xh A)) (ax (ay []) 1000000))) (Di F [] n h c g d j (bg .i64 b 1) (aH (vg [82,117,108,101] (Xh A))) (Am e (feR A) (rz (Xh A))) f a i K) none) none) none) (IA F [] F h c g d j b a (ay a) 0 e f a i K):=by kernel_rfl
theorem Fa (F n i d h e k b c f g a j K):
 Di F [] (n+1) i d h e k b c f g a j K=
 let A:=aG e b;sel (aR b k) (sel (ak (ax 0 b) (aR b (ay e))) (sel (gR A) (sel (ak true (ak (CL [82,117,108,101] (Xh A)) (ax (ay c) 1000000))) (Di F [] n i d h e k (bg .i64 b 1) (aX c (aH (vg [82,117,108,101] (Xh A)))) (Am f (feR A) (rz (Xh A))) g a j K) none) none) none) (zC F [] F i d h e k b a (ay a) 0 c f g a j K):=by kernel_rfl
theorem Fb (F n h e f l m k d j c i b g a K):
 IA F [] (n+1) h e f l m k d j c i b g a K=
 let A:=jM (ai (aG d c) 1);let B:=aF (ai (aG d c) 0);let D:=bg .i64 c 1;let C:=znW i b B A;sel (aR c j) (sel (ak (ax 0 c) (aR c (ay d))) (sel (ak true (ak (znK b B A) (ax (ay []) 500000))) (sel (ak true (ieq (ay A) 0)) (IA F [] n h e f l m k d j D C b g a K) (zC F [] n h e f l m k d j D (aH (znT B A)) C b g a K)) none) none) (Vs F [] F h e f l m k d j c a (ay a) 0 i b g a K):=by kernel_rfl
theorem Fe (F n j e g m o l f k c d i b h a K):
 zC F [] (n+1) j e g m o l f k c d i b h a K=
 let A:=aG f c;let B:=aF (ai A 0);let C:=jM (ai A 1);sel (aR c k) (sel (ak (ax 0 c) (aR c (ay f))) (sel (ak true (ak (znK b B C) (ax (ay d) 500000))) (zC F [] n j e g m o l f k (bg .i64 c 1) (aX d (aH (znT B C))) (znW i b B C) b h a K) none) none) (zD F [] F j e g m o l f k c a (ay a) 0 d i b h a K):=by kernel_rfl
theorem TY (F n i d e o p l k q m c j a b h g f K):
 Vs F [] (n+1) i d e o p l k q m c j a b h g f K=
 let B:=aG c a;let C:=aF (ai B 0);let D:=aF (ai B 1);let A:=fdL C D;sel (aR a j) (sel (ak (ax 0 a) (aR a (ay c))) (sel (ak true (ak (CL [76,105,110,107] A) (ax (ay []) 1000000))) (zD F [] n i d e o p l k q m c j (bg .i64 a 1) (aH (vg [76,105,110,107] A)) (Am b (fdE C D) (rz A)) h g f K) none) none) (sel (aL (ieq b 0)) (K (V.tup [V.str [],V.int .i64 4])) (K (V.tup [V.str [],V.int .i64 0]))):=by kernel_rfl
theorem Ff (F n j e f p q m l r o d k b a c i h g K):
 zD F [] (n+1) j e f p q m l r o d k b a c i h g K=
 let B:=aG d b;let C:=aF (ai B 0);let D:=aF (ai B 1);let A:=fdL C D;sel (aR b k) (sel (ak (ax 0 b) (aR b (ay d))) (sel (ak true (ak (CL [76,105,110,107] A) (ax (ay a) 1000000))) (zD F [] n j e f p q m l r o d k (bg .i64 b 1) (aX a (aH (vg [76,105,110,107] A))) (Am c (fdE C D) (rz A)) i h g K) none) none) (sel (aL (ieq c 0)) (K (V.tup [V.str [],V.int .i64 4])) (K (V.tup [V.str (gq a),V.int .i64 0]))):=by kernel_rfl
theorem wLkS_ok (t n:af) (a:true=true):aj rE 20 [.agg [.str t,.str n]] (.tup [.sl 9 [.str] none (fdL t n),.int .i64 (fdE t n)]):=wM (rO (Lk.WL t n))
theorem wJnS_ok (xs:ah) (a:Uf xs=true):aj rE 38 [.sl 9 [.str] none xs] (.tup [.str (tC xs),.int .i64 (rz xs)]):=rH (hJnS_ok xs a)
theorem wOr_ev (a b c:Int):aj rE 39 [.sl 29 [.int .i64] none [.int .i64 a,.int .i64 b,.int .i64 c]] (.int .i64 (Am a b c)):=by
 refine au nD yS9_ok 5 2 ?_;rw[WW];unfold Am
 cases e:ieq a 0<;>cases f:ieq b 0<;>cases d:ieq c 0<;>first|rfl|(rw[aO] at d;subst d;rfl)
theorem wOrS_ok (e:Nat) (o:Option Nat) (a b c:Int) (i:true=true):aj rE 39 [.sl e [.int .i64] o [.int .i64 a,.int .i64 b,.int .i64 c]] (.int .i64 (Am a b c)):=by intro G w vs h g f;refine wOr_ev a b c G w vs h g ?_;obtain⟨x,rfl,d⟩:=zx f;refine .cons ?_ .nil;unfold aV at d⊢;exact d
theorem Qp {xs:ah} {k:Nat} (h:ax (ay xs) k=true):xs.length≤k:=by rw[aA,aC] at h;omega
theorem wEnS_ok (xs:ah) (n:af) (a:ah) (c:ak (kK xs) (ax (ay a) 1000)=true):aj rE 41 [.sl 53 [.str,.int .i64,.int .i64,.int .i64,.int .i64,.int .i64,.int .i64,.int .i64,.int .i64,.int .i64,.str] none xs,.agg [.str n,.sl 51 [.int .i64,.int .i64,.int .i64,.str,.str,.bool,.int .i64,.int .i64,.int .i64,.int .i64,.int .i64,.int .i64,.int .i64] none a]] (.tup [.sl 2 [.int .i64] (some 0) (vo xs a),.int .i64 (ndE xs a)]):=by obtain⟨b,d⟩:=aN c;exact rF (Rd.ends_ev xs a n b (Qp (k:=1000) d))
theorem Jh {x:V} (h:NA x=true):x=.nilp∨x=.box HL 0:=by
 unfold NA at h;split at h
 ·exact .inl rfl
 ·rename_i k off
  rw[bF,iJ,iJ] at h;rw[h.1,h.2];exact .inr rfl
 cases h
theorem wCpS_ok (x b:V) (w:Int) (a:NA x=true):nQ rE 60 [.bxa 0 [x,b,.int .i64 w]] (.out false (.tup []) [[.box HL 0,b,.int .i64 w]]):=
 nQ.out (YG rfl x b [.int .i64 w] (Jh a))
theorem wStS_ok (x b:V) (w:Int) (f:ak (NA x) (bbOk b)=true):nQ rE 21 [.bxa 0 [x,b,.int .i64 w]] (.out false (.str (bbS b)) [[x,bbN b,.int .i64 w]]):=by
 obtain⟨d,a⟩:=aN f;refine nQ.out ?_;unfold bbOk at a;split at a
 ·exact yK rfl x [.int .i64 w]
 ·rename_i e sh L xs
  rw[bF,bF,iJ,iJ] at a;obtain⟨⟨rfl,c⟩,rfl⟩:=a;have c:=Kd.cu _ _ c;subst c;exact MV rfl x [.int .i64 w] (by rcases Jh d with rfl|rfl<;>rfl) rfl xs
 cases a
theorem Vt:aZ rE wS0:=by
 unfold wS0;refine aZ.cons (fun args r h=>?_) (aZ.cons (fun args r h=>?_) (aZ.cons (fun args r h=>?_) (aZ.cons (fun args r h=>?_) (aZ.cons (fun args r h=>?_) (aZ.cons (fun args r h=>?_) (aZ.ny (fun args r h=>?_) (aZ.ny (fun args r h=>?_) (aZ.cons (fun args r h=>?_) aZ.nil))))))));all_goals (revert h;intro h;first|unfold wRfS at h|unfold wEfS at h|unfold wLkS at h|unfold wJnS at h|unfold wOrS at h|unfold wEnS at h|unfold wCpS at h|unfold wStS at h|unfold yNmS at h)
 all_goals (split at h;rotate_left; · cases h)
 all_goals (simp only[aT,bP] at h;obtain⟨a,rfl⟩:=h)
 ·exact wRfS_ok _ _ _ _ _ _ _ _ _ _ _ a
 ·exact wEfS_ok _ _ _ _ _ _ _ _ _ _ _ _ _ a
 ·exact wLkS_ok _ _ rfl
 ·exact wJnS_ok _ a
 ·exact wOrS_ok _ _ _ _ _ rfl
 ·exact wEnS_ok _ _ _ a
 ·exact wCpS_ok _ _ _ a
 ·exact wStS_ok _ _ _ a
 exact yNmS_ok _ rfl
theorem Sw {x b:V} (h:Z4 x b=true):(x=.nilp∧b=.nilsl)∨ ∃xs,x=.box HL 0∧b=.sl 5 [.int .u8] (some 1000001002) xs:=by
 unfold Z4 at h;split at h
 ·exact .inl ⟨rfl,rfl⟩
 ·rename_i k off e sh L xs
  simp only[bF,iJ] at h;obtain⟨⟨rfl,rfl⟩,rfl,a,rfl⟩:=h;have a:=Kd.cu _ _ a;subst a;exact .inr ⟨xs,rfl,rfl⟩
 cases h
theorem app_ok {xs:ah} {t:af} (h:xs.length+t.length≤16777216):dh xs (aH t)=true:=by rw[gW];unfold aH;rw[kS];exact h
theorem new_ok {t:af} (h:t.length≤16777216):rJ (aH t)=true:=by unfold rJ nle aH;rw[kS];exact uG h
theorem Dj {a b:af} (h:a.length+b.length≤1152921504606846976):fC a b=true:=by rw[gV];exact h
theorem sc (a b:af):dZ a b=a++b:=rfl
theorem Zg {a:af} {b:ah} (h:CL a b=true):Uf b=true∧a.length≤1000∧(tC b).length≤10000:=by unfold CL at h;obtain⟨c,e⟩:=aN h;obtain⟨d,f⟩:=aN e;rw[aA,aJ] at d f;exact⟨c,by omega,by omega⟩
theorem ln_cats {a:af} {b:ah} (h:CL a b=true):fC a [32]=true∧fC (dZ a [32]) (tC b)=true∧fC (dZ (dZ a [32]) (tC b)) [10]=true∧(vg a b).length≤11002:=by obtain⟨c,e,d⟩:=Zg h;unfold vg;refine⟨Dj ?_,Dj ?_,Dj ?_,?_⟩<;>(simp only[sc,iW,dN,mr];omega)
theorem wLnS_ok (x b:V) (w:Int) (a:af) (c:ah) (y:Int) (n:ak (Z4 x b) (ak (CL a c) (ax (ay (bwL b)) 1000000))=true):
  nQ rE 18 [.bxa 0 [x,b,.int .i64 w],.str a,.sl 9 [.str] none c,.int .i64 y] (.out false (.tup []) [[.box HL 0,bxN b (vg a c),.int .i64 (Am w y (rz c))]]):=by
 obtain⟨m,l⟩:=aN n;obtain⟨h,i⟩:=aN l;obtain⟨d,o,p⟩:=Zg h;obtain⟨j,f,g,q⟩:=ln_cats h;rcases Sw m with⟨rfl,rfl⟩|⟨bs,rfl,rfl⟩
 ·refine nQ.out (fT nD Vt 5 4 ?_)
  (rw[wLnN_top];(conv=>zeta);rw[av d,av j,av f,av g,av (new_ok (by show(vg a c).length≤_;omega))])
  rfl
 refine nQ.out (fT nD Vt 5 4 ?_);have i:bs.length≤1000000:=Qp (k:=1000000) i;have e:=wLnB_top 5 bs w a c y some;refine e.trans ?_;rw[av d,av j,av f,av g,av (app_ok (by show bs.length+(vg a c).length≤_;omega))];rfl
theorem Oi:aZ rE wS1:=by
 unfold wS1;refine aZ.ny (fun args r h=>?_) Vt;all_goals (revert h;intro h;first|unfold wLnS at h)
 all_goals (split at h;rotate_left; · cases h)
 all_goals (simp only[aT,bP] at h;obtain⟨a,rfl⟩:=h)
 ·exact wLnS_ok _ _ _ _ _ _ a
theorem Pn (l:List (af)):tC (bI l)=(eF l).1∧rz (bI l)=(eF l).2∧Uf (bI l)=decide (nU l≤3000000):=by unfold tC rz Uf jnC;rw[Sb];exact⟨rfl,rfl,rfl⟩
theorem xO (l:List (af)) (h: ∀x∈l,Gd x) (c:l.length≤16) (e:nU l≤400):Uf (bI l)=true∧rz (bI l)=0∧(tC (bI l)).length≤448:=by obtain⟨d,g,j,i⟩:=Gp l h c e;obtain⟨a,f,b⟩:=Pn l;rw[a,f,b,d];exact⟨uG (by omega),rfl,by omega⟩
theorem Jm:Uf []=true∧rz []=0∧(tC []).length≤448:=xO [] (fun _ h=>by cases h) (by decide) (by decide)
theorem Gr (e:V):Uf (Xh e)=true∧rz (Xh e)=0∧(tC (Xh e)).length≤448:=by
 unfold Xh rfV
 cases h:Qj (aF (ai e 0)) (asInt (ai e 1)) (asInt (ai e 2)) (asInt (ai e 3)) (asInt (ai e 4)) (asInt (ai e 5)) (asInt (ai e 6)) (asInt (ai e 7)) (asInt (ai e 8)) (asInt (ai e 9)) (aF (ai e 10)) with
 |false=>exact Jm
 |true=>obtain⟨g1,a⟩:=Y2 _ _ _ _ _ _ _ _ _ _ _ h;exact xO _ g1 (by show 9≤16;omega) a
theorem Bj (e:V):Uf (oz e)=true∧rz (oz e)=0∧(tC (oz e)).length≤448:=by
 unfold oz efV
 cases h:G8 (asInt (ai e 0)) (asInt (ai e 1)) (asInt (ai e 2)) (aF (ai e 3)) (aF (ai e 4)) (asBool (ai e 5)) (asInt (ai e 6)) (asInt (ai e 7)) (asInt (ai e 8)) (asInt (ai e 9)) (asInt (ai e 10)) (asInt (ai e 11)) (asInt (ai e 12)) with
 |false=>exact Jm
 |true=>obtain⟨g1,a,b⟩:=Y3 _ _ _ _ _ _ _ _ _ _ _ _ _ h;show Uf (Ql _ _ _ _ _ _ _ _ _ _ _ _ _)=true∧rz (Ql _ _ _ _ _ _ _ _ _ _ _ _ _)=0∧(tC (Ql _ _ _ _ _ _ _ _ _ _ _ _ _)).length≤448;rw[Pm];exact xO _ g1 (by omega) a
theorem Gs (e:V):Uf (fvL e)=true∧rz (fvL e)=0∧(tC (fvL e)).length≤448:=by
 unfold fvL fdL;split
 next h=>
  unfold rgB at h;rw[lK,uK,uK] at h;obtain⟨b,a,f⟩:=h;have d:=Nt.Ev.YtjcencojgajgdaaGreatDoor.tO _ b;have l2:=Nt.Ev.YtjcencojgajgdaaGreatDoor.tO _ a;refine xO [aF (ai e 0),aF (ai e 1)] ?_ (by show 2≤16;omega) ?_
  ·intro x c
   simp only[ZA,ab5,or_false] at c;rcases c with rfl|rfl
   ·exact Q8 _ b
   exact Q8 _ a
  show(aF (ai e 0)).length+((aF (ai e 1)).length+0)≤400;omega
 next=>exact Jm
theorem zF {a:af} {b:ah} (h:Uf b=true∧rz b=0∧(tC b).length≤448) (c:a.length≤1000):CL a b=true:=by unfold CL;rw[h.1,bn (show aB a≤1000 by rw[aJ];omega),bn (show aB (tC b)≤10000 by rw[aJ];omega)];rfl
theorem xw {a:af} {b:ah} (h:Uf b=true∧rz b=0∧(tC b).length≤448) (c:a.length≤950):(vg a b).length≤1500:=by unfold vg;simp only[sc,iW,dN,mr];omega
theorem BP (a b c:Int):Am a b c=0↔a=0∧b=0∧c=0:=by
 unfold Am;simp only[bM,bY,aO];split
 ·omega
 split<;>omega
theorem bn_app {bs:ah} {a b:af}:aX (aX bs (aH a)) (aH b)=aX bs (aH (a++b)):=by unfold aX aH;simp
theorem lc_len {bs:ah} {a:af}:(aX bs (aH a)).length=bs.length+a.length:=by unfold aX aH;simp
theorem lc_nil {bs:ah}:aX bs (aH [])=bs:=by unfold aX aH;simp
theorem bv_len {a:af}:(aH a).length=a.length:=by unfold aH;simp
theorem qL {p:V→Bool} {l:ah} (h:l.all p=true) {i:Nat} (a:i<l.length):p (aG l (i:Int))=true:=by rw[fo,l7,iK a];exact List.all_eq_true.1 h _ (GV a)
theorem Gt {a:ah} (h:zoK a=true):a.length≤100∧a.all gE=true:=by unfold zoK at h;obtain⟨b,c⟩:=aN h;exact⟨by have:=Qp (k:=12) b;omega,c⟩
theorem zoK_12 {a:ah} (h:zoK a=true):a.length≤12:=Qp (k:=12) (aN h).1
theorem Gu (n:af) (a:n.length≤900) (i:Nat):(Ao n i).length≤905:=by
 unfold Ao;split
 ·rw[sc];simp;omega
 simp
theorem eT_len (n:af) (b:ah) (c:n.length≤900): ∀(k i:Nat),(eT n b k i).length≤k*1500
 |0,_=>Ko _
 |k+1,i=>by unfold eT;have e:=xw (a:=Ao n i) (Bj (aG b i)) (by have:=Gu n c i;omega);have d:=eT_len n b c k (i+1);rw[iW];omega
theorem Hq:ak true (ak true true)=true:=rfl
theorem idx_in {xs:ah} {i:Nat} (h:i<xs.length):aR (i:Int) (ay xs)=true∧ak (ax 0 (i:Int)) (aR (i:Int) (ay xs))=true∧bg .i64 (i:Int) 1=((i+1:Nat):Int)∨1000000<xs.length:=by
 by_cases a:xs.length≤1000000
 ·refine .inl ⟨bu (by rw[aC];omega),?_,?_⟩
  ·rw[aM,aA,bq,aC];omega
  rw[cr (by omega)];omega
 exact .inr (by omega)
theorem iH {xs:ah} {i:Nat} (h:i<xs.length) (a:xs.length≤1000000):aR (i:Int) (ay xs)=true∧ak (ax 0 (i:Int)) (aR (i:Int) (ay xs))=true∧bg .i64 (i:Int) 1=((i+1:Nat):Int):=(idx_in h).elim id (fun h=>by omega)
theorem jK {xs:ah} {i:Nat} (h:i=xs.length):aR (i:Int) (ay xs)=false:=bB (by rw[aC];omega)
theorem znB_loop (F:Nat) (a b c:ah) (m n:af) (d f:ah) (x:Int) (q j h g:ah) (E:n.length≤900) (B:zoK f=true) (K:V→Option V): ∀(k i:Nat) (bs:ah) (w:Int) (G:Nat),i+k=f.length→k<G→bs.length+k*1500≤900000→
  qK F [] G a b c m d x f (ay f) i n q j h g bs w K=K (.out false (.tup []) [[.box 1000000000 0,.sl 5 [.int .u8] (some 1000001002) (aX bs (aH (eT n f k i))),.int .i64 (eW f k i w)]]):=by
 obtain⟨J,z⟩:=Gt B;intro k;induction k with
 |zero=>
  intro i bs w G A v D;obtain⟨G,rfl⟩:=uN (show G≠0 by omega)
  (rw[Cm];(conv=>zeta);rw[aI (jK (by omega))])
  unfold eT eW;rw[lc_nil]
 |succ k I=>
  intro i bs w G A v D;obtain⟨G,rfl⟩:=uN (show G≠0 by omega);obtain⟨H,y,C⟩:=iH (xs:=f) (i:=i) (by omega) (by omega);have r:=qL z (i:=i) (by omega);have u:=Bj (aG f i)
  (rw[Cm];(conv=>zeta);rw[av H,av y,C])
  show sel (ieq (i:Int) 0) (sel (fC [90,111,110,101,32] n) (sel (gE (aG f i)) (sel (ak true (ak (CL (dZ [90,111,110,101,32] n) (oz (aG f i))) (ax (ay bs) 1000000))) (qK F [] G a b c m d x f (ay f) ((i+1:Nat):Int) n q j h g (aX bs (aH (vg (dZ [90,111,110,101,32] n) (oz (aG f i))))) (Am w (feE (aG f i)) (rz (oz (aG f i)))) K) none) none) none)
   (sel (gE (aG f i)) (sel (ak true (ak (CL [] (oz (aG f i))) (ax (ay bs) 1000000))) (qK F [] G a b c m d x f (ay f) ((i+1:Nat):Int) n q j h g (aX bs (aH (vg [] (oz (aG f i))))) (Am w (feE (aG f i)) (rz (oz (aG f i)))) K) none) none)=_
  have p:ax (ay bs) 1000000=true:=bn (by rw[aC];omega);have M:=Gu n E i;have L:=xw (a:=Ao n i) u (by omega);have s:=zF (a:=Ao n i) u (by omega);have e: ∀t,t=Ao n i→qK F [] G a b c m d x f (ay f) ((i+1:Nat):Int) n q j h g (aX bs (aH (vg t (oz (aG f i))))) (Am w (feE (aG f i)) (rz (oz (aG f i)))) K=K (.out false (.tup []) [[.box 1000000000 0,.sl 5 [.int .u8] (some 1000001002) (aX bs (aH (eT n f (k+1) i))),.int .i64 (eW f (k+1) i w)]]):=by rintro _ rfl;rw[I (i+1) _ _ G (by omega) (by omega) (by rw[lc_len];omega),bn_app];rfl
  by_cases o:i=0
  ·have l:dZ [90,111,110,101,32] n=Ao n i:=by unfold Ao;rw[if_pos o]
   rw[av (bA (by omega)),av (Dj (by simp;omega)),av r,l,s,p,av Hq,e _ rfl]
  have l:([]:af)=Ao n i:=by unfold Ao;rw[if_neg o]
  rw[aI (bH (by omega)),av r,e _ l];rw[show CL [] (oz (aG f i))=true by rw[l];exact s,p,av Hq]
theorem znL_loop (F:Nat) (a b c:ah) (m n:af) (d f:ah) (x:Int) (q j h g:ah) (E:n.length≤900) (B:zoK f=true) (K:V→Option V): ∀(k i:Nat) (bs:ah) (w:Int) (G:Nat),i+k=f.length→k<G→bs.length+k*1500≤900000→
  mV F [] G a b c m d x f (ay f) i n q j h g bs w K=K (.out false (.tup []) [[.box 1000000000 0,.sl 5 [.int .u8] (some 1002) (aX bs (aH (eT n f k i))),.int .i64 (eW f k i w)]]):=by
 obtain⟨J,z⟩:=Gt B;intro k;induction k with
 |zero=>
  intro i bs w G A v D;obtain⟨G,rfl⟩:=uN (show G≠0 by omega)
  (rw[Ck];(conv=>zeta);rw[aI (jK (by omega))])
  unfold eT eW;rw[lc_nil]
 |succ k I=>
  intro i bs w G A v D;obtain⟨G,rfl⟩:=uN (show G≠0 by omega);obtain⟨H,y,C⟩:=iH (xs:=f) (i:=i) (by omega) (by omega);have r:=qL z (i:=i) (by omega);have u:=Bj (aG f i)
  (rw[Ck];(conv=>zeta);rw[av H,av y,C])
  show sel (ieq (i:Int) 0) (sel (fC [90,111,110,101,32] n) (sel (gE (aG f i)) (sel (ak true (ak (CL (dZ [90,111,110,101,32] n) (oz (aG f i))) (ax (ay bs) 1000000))) (mV F [] G a b c m d x f (ay f) ((i+1:Nat):Int) n q j h g (aX bs (aH (vg (dZ [90,111,110,101,32] n) (oz (aG f i))))) (Am w (feE (aG f i)) (rz (oz (aG f i)))) K) none) none) none)
   (sel (gE (aG f i)) (sel (ak true (ak (CL [] (oz (aG f i))) (ax (ay bs) 1000000))) (mV F [] G a b c m d x f (ay f) ((i+1:Nat):Int) n q j h g (aX bs (aH (vg [] (oz (aG f i))))) (Am w (feE (aG f i)) (rz (oz (aG f i)))) K) none) none)=_
  have p:ax (ay bs) 1000000=true:=bn (by rw[aC];omega);have M:=Gu n E i;have L:=xw (a:=Ao n i) u (by omega);have s:=zF (a:=Ao n i) u (by omega);have e: ∀t,t=Ao n i→mV F [] G a b c m d x f (ay f) ((i+1:Nat):Int) n q j h g (aX bs (aH (vg t (oz (aG f i))))) (Am w (feE (aG f i)) (rz (oz (aG f i)))) K=K (.out false (.tup []) [[.box 1000000000 0,.sl 5 [.int .u8] (some 1002) (aX bs (aH (eT n f (k+1) i))),.int .i64 (eW f (k+1) i w)]]):=by rintro _ rfl;rw[I (i+1) _ _ G (by omega) (by omega) (by rw[lc_len];omega),bn_app];rfl
  by_cases o:i=0
  ·have l:dZ [90,111,110,101,32] n=Ao n i:=by unfold Ao;rw[if_pos o]
   rw[av (bA (by omega)),av (Dj (by simp;omega)),av r,l,s,p,av Hq,e _ rfl]
  have l:([]:af)=Ao n i:=by unfold Ao;rw[if_neg o]
  rw[aI (bH (by omega)),av r,e _ l];rw[show CL [] (oz (aG f i))=true by rw[l];exact s,p,av Hq]
theorem znN_loop (F:Nat) (B:101≤F) (a b c:ah) (m n:af) (d f:ah) (x:Int) (q p l j:ah) (t:n.length≤900) (r:zoK f=true) (w:Int) (K:V→Option V) (u:f≠[]):
  Pt F [] F a b c m d x f (ay f) 0 n q p l j w K=K (.out false (.tup []) [[.box 1000000000 0,.sl 5 [.int .u8] (some 1002) (aH (znT n f)),.int .i64 (eW f f.length 0 w)]]):=by
 obtain⟨A,z⟩:=Gt r;obtain⟨k,y⟩: ∃k,f.length=k+1:=⟨f.length-1,by have:=List.length_pos_iff.2 u;omega⟩
 obtain⟨G,rfl⟩:=uN (show F≠0 by omega);obtain⟨o,g,D⟩:=iH (xs:=f) (i:=0) (by omega) (by omega);have o:aR 0 (ay f)=true:=o;have g:ak (ax 0 0) (aR 0 (ay f))=true:=g;have v:gE (aG f 0)=true:=qL z (i:=0) (by omega);have s:=Bj (aG f 0)
 (rw[Cj];(conv=>zeta);rw[av o,av g,av (bA rfl),av (Dj (by simp;omega)),show bg .i64 (0:Int) 1=((1:Nat):Int) from rfl])
 have E:=Gu n t 0;have C:=xw (a:=Ao n 0) s (by omega);have h:=zF (a:=Ao n 0) s (by omega);show sel (gE (aG f 0)) (sel (ak true (ak (CL (Ao n 0) (oz (aG f 0))) (ax (ay []) 1000000))) (mV (G+1) [] G a b c m d x f (ay f) ((1:Nat):Int) n q p l j (aH (vg (Ao n 0) (oz (aG f 0)))) (Am w (feE (aG f 0)) (rz (oz (aG f 0)))) K) none) none=_;rw[av v,h,show ax (ay []) 1000000=true from rfl,av Hq,znL_loop (G+1) a b c m n d f x q p l j t r K k 1 _ _ G (by omega) (by omega) (by rw[bv_len];omega)];unfold znT;rw[y];have e:aX (aH (vg (Ao n 0) (oz (aG f 0)))) (aH (eT n f k 1))=aH (eT n f (k+1) 0):=by show aH _++aH _=aH (vg (Ao n 0) (oz (aG f 0))++eT n f k 1);unfold aH;rw[aci]
 rw[e];rfl
theorem wZnS_ok (x b:V) (w:Int) (xs zs d:ah) (n:af) (a:ah) (s:ak (Z4 x b) (ak (znK xs n a) (ax (ay (bwL b)) 500000))=true):
  nQ rE 19 [.bxa 0 [x,b,.int .i64 w],.agg [.sl 53 [.str,.int .i64,.int .i64,.int .i64,.int .i64,.int .i64,.int .i64,.int .i64,.int .i64,.int .i64,.str] none xs,.sl 57 [.str,.sl 51 [.int .i64,.int .i64,.int .i64,.str,.str,.bool,.int .i64,.int .i64,.int .i64,.int .i64,.int .i64,.int .i64,.int .i64]] none zs,.sl 59 [.str,.str] none d],.agg [.str n,.sl 51 [.int .i64,.int .i64,.int .i64,.str,.str,.bool,.int .i64,.int .i64,.int .i64,.int .i64,.int .i64,.int .i64,.int .i64] none a]]
   (.oq (ak (nilB x) (ieq (ay a) 0)) (.out false (.tup []) [[x,b,.int .i64 (znW w xs n a)]]) (.out false (.tup []) [[.box HL 0,bxN b (znT n a),.int .i64 (znW w xs n a)]])):=by
 obtain⟨r,o⟩:=aN s;obtain⟨i,l⟩:=aN o;unfold znK at i;obtain⟨m,p⟩:=aN i;obtain⟨q,g⟩:=aN p;obtain⟨u,t⟩:=Gt g;have j:=l9 q;have c:ak (kK xs) (ax (ay a) 1000)=true:=by rw[m,bn (show ay a≤1000 by rw[aC];omega)];rfl
 rcases Sw r with⟨rfl,rfl⟩|⟨bs,rfl,rfl⟩
 ·refine nQ.oq (fun h=>?_) (fun h=>?_)
  ·have f:a=[]:=by have:=(aN h).2;rw[aO,aC] at this;exact List.length_eq_zero_iff.1 (by omega)
   subst f;refine nQ.out (fT nD Oi 200 4 ?_)
   (rw[Sv,av c,Cj];(conv=>zeta);rw[aI (by rfl)])
   rfl
  have f:a≠[]:=fun e=>by subst e;cases h
  refine nQ.out (fT nD Oi 200 4 ?_);rw[Sv,av c,znN_loop 200 (by omega) xs zs d n n a a _ a xs zs d j g _ some f];rfl
 refine nQ.oq (fun h=>by cases h) (fun h=>?_);have l:bs.length≤500000:=Qp (k:=500000) l;refine nQ.out (fT nD Oi 200 4 ?_);have e:=wZnB_top 200 bs w xs zs d n a some;refine e.trans ?_;rw[av c];exact znB_loop 200 xs zs d n n a a _ a xs zs d j g some a.length 0 bs _ 200 (by omega) (by omega) (by omega)
theorem wS2_ok:aZ rE wS2:=by
 unfold wS2;refine aZ.ny (fun args r h=>?_) Oi;all_goals (revert h;intro h;first|unfold wZnS at h)
 all_goals (split at h;rotate_left; · cases h)
 all_goals (simp only[aT,bP] at h;obtain⟨a,rfl⟩:=h)
 ·exact wZnS_ok _ _ _ _ _ _ _ _ a
end Nt.Ev.YtjcencojgajgdaaGreatDoor.Rx
