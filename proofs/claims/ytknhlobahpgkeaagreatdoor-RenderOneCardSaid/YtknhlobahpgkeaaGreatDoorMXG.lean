/-
  Render: equations of functions, as the evaluator prints them.
-/
import Derived.Test.YtknhlobahpgkeaaGreatDoorMXE
import Derived.Test.YtknhlobahpgkeaaGreatDoorMXA
set_option linter.all false
set_option maxRecDepth 100000
namespace Nt.Ev.YtknhlobahpgkeaaGreatDoor.Rd
open Go Nt.Num Go.Proofs.YtknhlobahpgkeaaGreatDoor
variable [kM]
open Nt.Ev.YtknhlobahpgkeaaGreatDoor
open Nt.Civil
open Nt.Ev.YtknhlobahpgkeaaGreatDoor.Rl
open Nt.Ev.YtknhlobahpgkeaaGreatDoor.Oc
open Nt.Ev.YtknhlobahpgkeaaGreatDoor.Un
noncomputable def dS0:List (Nat×aC):=(63,uErS)::(64,uInS)::[]
noncomputable def C4:=fun F j n h b a i l m k g f e c d K=>(gH fE dS0 F 3 37 [1,1,1,0,1,0] j K n (kD 52 [(0,V.sl 50 [Kd.str,Kd.int .i64,Kd.int .i64,Kd.int .i64,Kd.int .i64,Kd.int .i64,Kd.int .i64,Kd.int .i64,Kd.int .i64,Kd.int .i64,Kd.str] none h),(1,V.agg [V.str b,V.sl 48 [Kd.int .i64,Kd.int .i64,Kd.int .i64,Kd.str,Kd.str,Kd.bool,Kd.int .i64,Kd.int .i64,Kd.int .i64,Kd.int .i64,Kd.int .i64,Kd.int .i64,Kd.int .i64] none a]),(3,V.box 3 0),(4,V.sl 2 [Kd.int .i64] (some 4) i),(5,V.int .i64 l),(6,V.sl 2 [Kd.int .i64] (some 6) m),(7,V.int .i64 k),(17,V.sl 48 [Kd.int .i64,Kd.int .i64,Kd.int .i64,Kd.str,Kd.str,Kd.bool,Kd.int .i64,Kd.int .i64,Kd.int .i64,Kd.int .i64,Kd.int .i64,Kd.int .i64,Kd.int .i64] none g),(18,V.int .i64 f),(19,V.int .i64 e)] [(3,[V.str c,V.sl 48 [Kd.int .i64,Kd.int .i64,Kd.int .i64,Kd.str,Kd.str,Kd.bool,Kd.int .i64,Kd.int .i64,Kd.int .i64,Kd.int .i64,Kd.int .i64,Kd.int .i64,Kd.int .i64] none d])]):Option V)
theorem dEn_top (F xs a n) (K:V→Option V):
 bA fE (bu fE dS0 F 3) F 37 [V.sl 50 [Kd.str,Kd.int .i64,Kd.int .i64,Kd.int .i64,Kd.int .i64,Kd.int .i64,Kd.int .i64,Kd.int .i64,Kd.int .i64,Kd.int .i64,Kd.str] none xs,V.agg [V.str n,V.sl 48 [Kd.int .i64,Kd.int .i64,Kd.int .i64,Kd.str,Kd.str,Kd.bool,Kd.int .i64,Kd.int .i64,Kd.int .i64,Kd.int .i64,Kd.int .i64,Kd.int .i64,Kd.int .i64] none a]] K=
 C4 F [] F xs n a [] 0 [] (dw .i64 (ay a) 1) a (ay a) 0 n a K:=by kernel_rfl
theorem ES (F n h b d k l j i e g a f c K):
 C4 F [] (n+1) h b d k l j i e g a f c K=
 let A:=aG e a;let C:=K (V.tup [V.sl 2 [Kd.int .i64] (some 0) [],V.int .i64 4]);let S:=bJ .i64 a 1;let D:=asBool (ai A 5);let E:=asInt (ai A 10);let G:=asInt (ai A 11);let H:=asInt (ai A 12);let I:=asInt (ai A 0);let J:=asInt (ai A 1);let L:=asInt (ai A 2);let M:=aH (ai A 3);let N:=aH (ai A 4);let O:=asInt (ai A 6);let P:=asInt (ai A 7);let Q:=asInt (ai A 8);let R:=asInt (ai A 9);let B:=[V.int .i64 (inI h I J L M N D O P Q R E G H)];sel (aW a g) (sel (ak (av 0 a) (aW a (ay e))) (sel (aL (Tf I J L M N D O P Q R E G H)) C (sel (aL (beq D (aW a i))) C (sel (kP h) (sel (ieq (inE h I J L M N D O P Q R E G H) 0) (sel (eD j B) (C4 F [] n h b d k l (aX j B) i e g S f c K) none) (C4 F [] n h b d k l j i e g S f c K)) none))) none) (sel (aW i 0) C (K (V.tup [V.sl 2 [Kd.int .i64] (some 0) j,V.int .i64 0]))):=by kernel_rfl
open Go.RowKit Nt
theorem dS0_ok:bf fE dS0:=by
 unfold dS0;refine bf.cons (fun args r h=>?_) (bf.cons (fun args r h=>?_) bf.nil);all_goals (revert h;intro h;first|unfold uErS at h|unfold uInS at h)
 all_goals (split at h;rotate_left; · cases h)
 all_goals (simp only[aR,bM] at h;obtain⟨a,rfl⟩:=h)
 ·exact Ye _ _ _ _ _ _ _ _ _ _ _ _ _ rfl
 exact uInS_ok _ _ _ _ _ _ _ _ _ _ _ _ _ _ _ _ a
def eV (e:V):Bool:=Tf (asInt (ai e 0)) (asInt (ai e 1)) (asInt (ai e 2)) (aH (ai e 3)) (aH (ai e 4)) (asBool (ai e 5)) (asInt (ai e 6)) (asInt (ai e 7)) (asInt (ai e 8)) (asInt (ai e 9)) (asInt (ai e 10)) (asInt (ai e 11)) (asInt (ai e 12))
noncomputable def inV (xs:ah) (e:V):Int:=inI xs (asInt (ai e 0)) (asInt (ai e 1)) (asInt (ai e 2)) (aH (ai e 3)) (aH (ai e 4)) (asBool (ai e 5)) (asInt (ai e 6)) (asInt (ai e 7)) (asInt (ai e 8)) (asInt (ai e 9)) (asInt (ai e 10)) (asInt (ai e 11)) (asInt (ai e 12))
noncomputable def ieV (xs:ah) (e:V):Int:=inE xs (asInt (ai e 0)) (asInt (ai e 1)) (asInt (ai e 2)) (aH (ai e 3)) (aH (ai e 4)) (asBool (ai e 5)) (asInt (ai e 6)) (asInt (ai e 7)) (asInt (ai e 8)) (asInt (ai e 9)) (asInt (ai e 10)) (asInt (ai e 11)) (asInt (ai e 12))
def okE (a i:Int) (e:V):Bool:=eV e&&beq (asBool (ai e 5)) (aW i a)
noncomputable def enF (xs c:ah) (a:Int):Nat→Int→ah→ah×Int
 |0,_,b=>if a<0 then([],4) else(b,0)
 |k+1,i,b=>if okE a i (aG c i)=true then enF xs c a k (i+1) (if ieq (ieV xs (aG c i)) 0=true then aX b [.int .i64 (inV xs (aG c i))] else b) else([],4)
theorem en_loop (F:Nat) (xs c:ah) (y:af) (j e:ah) (f:Int) (b0:af) (d:ah) (a:Int) (n:kP xs=true) (p:c.length≤1000) (K:V→Option V): ∀(k:Nat) (i:Nat) (b:ah) (G:Nat),i+k=c.length→b.length≤i→k<G→
  C4 F [] G xs y j e f b a c (ay c) i b0 d K=K (.tup [.sl 2 [.int .i64] (some 0) (enF xs c a k i b).1,.int .i64 (enF xs c a k i b).2]):=by
 intro k;induction k with
 |zero=>
  intro i b G o l m;obtain⟨G,rfl⟩:=Am (show G≠0 by omega)
  (rw[ES];(conv=>zeta);rw[aK (bF (by rw[aD];omega))])
  unfold enF;by_cases h:a<0
  ·rw[ax (bH h),if_pos h]
  rw[aK (bF (by omega)),if_neg h]
 |succ k g=>
  intro i b G o l m;obtain⟨G,rfl⟩:=Am (show G≠0 by omega)
  (rw[ES];(conv=>zeta);rw[ax (bH (by rw[aD];omega)),ax (by rw[aM,aB,bq,aD];omega),cZ (by omega),show((i:Int)+1)=((i+1:Nat):Int) by omega])
  show sel (aL (eV (aG c i))) _ (sel _ _ (sel _ (sel (ieq (ieV xs (aG c i)) 0) (sel (eD b [.int .i64 (inV xs (aG c i))]) (C4 F [] G xs y j e f (aX b [.int .i64 (inV xs (aG c i))]) a c (ay c) ((i+1:Nat):Int) b0 d K) _) _) _))=_;unfold enF okE
  cases r:eV (aG c i) with
  |false=>rfl
  |true=>
   cases s:beq (asBool (ai (aG c i) 5)) (aW i a) with
   |false=>rfl
   |true=>
    rw[aK (show aL true=false from rfl),aK (show aL true=false from rfl),ax n,if_pos (show(true&&true)=true from rfl)]
    cases q:ieq (ieV xs (aG c i)) 0 with
    |false=>rw[aK rfl,g (i+1) b G (by omega) (by omega) (by omega)];rfl
    |true=>rw[ax rfl,ax (by rw[iY];simp;omega),g (i+1) _ G (by omega) (by unfold aX;simp;omega) (by omega)];rfl
theorem ends_ev (xs a:ah) (n:af) (b:kP xs=true) (c:a.length≤1000):aj fE 37 [.sl 50 [.str,.int .i64,.int .i64,.int .i64,.int .i64,.int .i64,.int .i64,.int .i64,.int .i64,.int .i64,.str] none xs,.agg [.str n,.sl 48 [.int .i64,.int .i64,.int .i64,.str,.str,.bool,.int .i64,.int .i64,.int .i64,.int .i64,.int .i64,.int .i64,.int .i64] none a]] (.tup [.sl 2 [.int .i64] (some 0) (enF xs a ((a.length:Int)-1) a.length 0 []).1,.int .i64 (enF xs a ((a.length:Int)-1) a.length 0 []).2]):=by refine au gL dS0_ok 1010 3 ?_;rw[dEn_top,dO (by rw[aD];omega),aD];exact en_loop 1010 xs a n a [] 0 n a _ b c some a.length 0 [] 1010 (by omega) (by simp) (by omega)
end Nt.Ev.YtknhlobahpgkeaaGreatDoor.Rd
namespace Nt.Ev.YtknhlobahpgkeaaGreatDoor.Rx
open Go Go.RowKit Nt Nt.Num Nt.Civil Nt.Fld Go.Proofs.YtknhlobahpgkeaaGreatDoor Nt.Ev.YtknhlobahpgkeaaGreatDoor
variable [kM]
noncomputable abbrev rE:Env:=eE
theorem qI:uL rE:=jL
theorem rO {f:Nat} {args:ah} {r:V} (h:aj oE f args r):aj rE f args r:=aj.env (E:=oE) rfl (fun n v h=>by cases h) h
theorem rH {f:Nat} {args:ah} {r:V} (h:aj hE f args r):aj rE f args r:=aj.env (E:=hE) rfl (fun n v h=>by cases h) h
theorem rF {f:Nat} {args:ah} {r:V} (h:aj fE f args r):aj rE f args r:=aj.env (E:=fE) rfl (fun n v h=>by
 unfold fE at h;simp only at h
 cases e:n==3 with
 |true=>
  obtain rfl:n=3:=by simpa using e
  exact h
 |false=>rw[e] at h;cases h) h
noncomputable def yNmS:aC:=fun a=>match a with|[.str s]=>some (true,.int .i64 (dG s))|_=>none
noncomputable def yS9:List (Nat×aC):=[]
theorem yS9_ok:bf rE yS9:=bf.nil
theorem He: ∀(s:af) (k:Nat),Nm.xV k s=Nt.Ev.YtknhlobahpgkeaaGreatDoor.xV k s
 |[],_=>rfl
 |c::t,k=>by
  show(Nm.JU k c&&Nm.xV (k+1) t)=(Nt.Ev.YtknhlobahpgkeaaGreatDoor.JU k c&&Nt.Ev.YtknhlobahpgkeaaGreatDoor.xV (k+1) t)
  rw[He t (k+1)];rfl
theorem uJ (s:af):Nm.dG s=Nt.Ev.YtknhlobahpgkeaaGreatDoor.dG s:=by unfold Nm.dG Nt.Ev.YtknhlobahpgkeaaGreatDoor.dG;rw[He]
theorem l9 {s:af} (h:av (aA s) 900=true):s.length≤900:=by rw[aB,aI] at h;omega
theorem er_eq (o k v:Int) (r q:af) (h:Bool) (y m ok d a c b:Int):Un.Tf o k v r q h y m ok d a c b=Gj o k v r q h y m ok d a c b:=by unfold Un.Tf Gj;show(av (-54000) o&&(av o 54000&&(ieq (ja q) 0&&(Un.enP h y m ok d a c b&&sel (ieq k 0) (ieq v 0&&seq r []) (sel (ieq k 1) (av (-10800) v&&(av v 10800&&seq r [])) (sel (ieq k 2) (ieq v 0&&ieq (Nm.dG r) 0) false))))))=_;rw[uJ];rfl
theorem yNmS_ok (s:af) (a:true=true):aj rE 38 [.str s] (.int .i64 (dG s)):=X3 s rfl
theorem wRfS_ok (n:af) (f t m k w d c b v:Int) (l:af) (a:ak (ak (av (aA n) 900) (av (aA l) 900)) (ak (ak (av (-9223372036854775808) v) (av v 9223372036854775807)) (ak (av (-9223372036854775808) m) (av m 9223372036854775807)))=true):aj rE 13 [.agg [.str n,.int .i64 f,.int .i64 t,.int .i64 m,.int .i64 k,.int .i64 w,.int .i64 d,.int .i64 c,.int .i64 b,.int .i64 v,.str l]] (.tup [.sl 9 [.str] none (rfV n f t m k w d c b v l),.int .i64 (rfE n f t m k w d c b v l)]):=tRFS_ok n f t m k w d c b v l (aO a).2
theorem wEfS_ok (o k v:Int) (r q:af) (h:Bool) (y m ok d a c b:Int) (e:ak (ak (av (aA r) 900) (av (aA q) 900)) (ak (ak (ak (av (-9223372036854775808) o) (av o 9223372036854775807)) (ak (av (-9223372036854775808) v) (av v 9223372036854775807))) (ak (ak (av (-9223372036854775808) y) (av y 9223372036854775807)) (ak (av (-9223372036854775808) m) (av m 9223372036854775807))))=true):aj rE 39 [.agg [.int .i64 o,.int .i64 k,.int .i64 v,.str r,.str q,.bool h,.int .i64 y,.int .i64 m,.int .i64 ok,.int .i64 d,.int .i64 a,.int .i64 c,.int .i64 b]] (.tup [.sl 9 [.str] none (efV o k v r q h y m ok d a c b),.int .i64 (efE o k v r q h y m ok d a c b)]):=tEFS_ok o k v r q h y m ok d a c b (aO e).2
open Nt.Ev.YtknhlobahpgkeaaGreatDoor.Lk
abbrev kE:List Kd:=[Kd.int .i64,Kd.int .i64,Kd.int .i64,Kd.str,Kd.str,Kd.bool,Kd.int .i64,Kd.int .i64,Kd.int .i64,Kd.int .i64,Kd.int .i64,Kd.int .i64,Kd.int .i64]
abbrev kR:List Kd:=[Kd.str,Kd.int .i64,Kd.int .i64,Kd.int .i64,Kd.int .i64,Kd.int .i64,Kd.int .i64,Kd.int .i64,Kd.int .i64,Kd.int .i64,Kd.str]
abbrev kZ:List Kd:=[Kd.str,Kd.sl 48 kE]
noncomputable abbrev kP (xs:ah):Bool:=Un.kP xs
def Aj (a b c:Int):Int:=sel (aL (ieq a 0)) a (sel (aL (ieq b 0)) b c)
noncomputable def ndE (xs a:ah):Int:=(Rd.enF xs a ((a.length:Int)-1) a.length 0 []).2
noncomputable def vv (xs a:ah):ah:=(Rd.enF xs a ((a.length:Int)-1) a.length 0 []).1
def Tg (xs:ah):Bool:=jnC xs
noncomputable def wRfS:aC:=fun a=>match a with|[.agg [.str n,.int .i64 f,.int .i64 t,.int .i64 m,.int .i64 k,.int .i64 w,.int .i64 d,.int .i64 c,.int .i64 b,.int .i64 v,.str l]]=>some (ak (ak (av (aA n) 900) (av (aA l) 900)) (ak (ak (av (-9223372036854775808) v) (av v 9223372036854775807)) (ak (av (-9223372036854775808) m) (av m 9223372036854775807))),.tup [.sl 9 [.str] none (rfV n f t m k w d c b v l),.int .i64 (rfE n f t m k w d c b v l)])|_=>none
noncomputable def wEfS:aC:=fun a=>match a with|[.agg [.int .i64 o,.int .i64 k,.int .i64 v,.str r,.str q,.bool h,.int .i64 y,.int .i64 m,.int .i64 ok,.int .i64 ow,.int .i64 od,.int .i64 c,.int .i64 b]]=>some (ak (ak (av (aA r) 900) (av (aA q) 900)) (ak (ak (ak (av (-9223372036854775808) o) (av o 9223372036854775807)) (ak (av (-9223372036854775808) v) (av v 9223372036854775807))) (ak (ak (av (-9223372036854775808) y) (av y 9223372036854775807)) (ak (av (-9223372036854775808) m) (av m 9223372036854775807)))),.tup [.sl 9 [.str] none (efV o k v r q h y m ok ow od c b),.int .i64 (efE o k v r q h y m ok ow od c b)])|_=>none
noncomputable def wLkS:aC:=fun a=>match a with|[.agg [.str t,.str n]]=>some (true,.tup [.sl 9 [.str] none (fdL t n),.int .i64 (fdE t n)])|_=>none
noncomputable def wJnS:aC:=fun a=>match a with|[.sl 9 [.str] none xs]=>some (Tg xs,.tup [.str (tF xs),.int .i64 (rC xs)])|_=>none
noncomputable def wOrS:aC:=fun a=>match a with|[.sl e [.int .i64] o [.int .i64 a,.int .i64 b,.int .i64 c]]=>some (true,.int .i64 (Aj a b c))|_=>none
noncomputable def wEnS:aC:=fun a=>match a with|[.sl 50 [.str,.int .i64,.int .i64,.int .i64,.int .i64,.int .i64,.int .i64,.int .i64,.int .i64,.int .i64,.str] none xs,.agg [.str n,.sl 48 [.int .i64,.int .i64,.int .i64,.str,.str,.bool,.int .i64,.int .i64,.int .i64,.int .i64,.int .i64,.int .i64,.int .i64] none es]]=>some (ak (kP xs) (av (ay es) 1000),.tup [.sl 2 [.int .i64] (some 0) (vv xs es),.int .i64 (ndE xs es)])|_=>none
noncomputable def Y2 (x b:V):Bool:=match x,b with| .nilp,.nilsl=>true| .box k off,.sl e sh (some L) xs=>(k==HL&&off==0)&&(e==5&&(Kd.Cs [.int .u8] sh&&L==1000001002))|_,_=>false
noncomputable def bxN (b:V) (t:af):V:=match b with| .sl e sh o xs=> .sl e sh o (aX xs (aF t))|_=> .sl 5 [.int .u8] (some 1002) (aF t)
noncomputable def bwL:V→ah| .sl _ _ _ xs=>xs|_=>[]
noncomputable def MN:V→Bool| .nilp=>true| .box k off=>k==HL&&off==0|_=>false
noncomputable def bbOk:V→Bool| .nilsl=>true| .sl e sh (some L) xs=>e==5&&Kd.Cs [.int .u8] sh&&L==1000001002|_=>false
noncomputable def bbS:V→af| .sl _ _ _ xs=>fZ xs|_=>[]
noncomputable def bbN:V→V| .sl e sh _ xs=> .sl e sh none xs|v=>v
noncomputable def wCpS:aC:=fun a=>match a with|[.bxa 0 [x,b,.int .i64 w]]=>some (MN x,.out false (.tup []) [[.box HL 0,b,.int .i64 w]])|_=>none
noncomputable def wStS:aC:=fun a=>match a with|[.bxa 0 [x,b,.int .i64 w]]=>some (ak (MN x) (bbOk b),.out false (.str (bbS b)) [[x,bbN b,.int .i64 w]])|_=>none
noncomputable def wS0:List (Nat×aC):=(13,wRfS)::(39,wEfS)::(16,wLkS)::(34,wJnS)::(35,wOrS)::(37,wEnS)::(GX+62,wCpS)::(GX+17,wStS)::(38,yNmS)::[]
def ve (a:af) (b:ah):af:=dU (dU (dU a [32]) (tF b)) [10]
def Ct (a:af) (b:ah):Bool:=ak (Tg b) (ak (av (aA a) 1000) (av (aA (tF b)) 10000))
def gR (e:V):Bool:=ak (ak (av (aA (aH (ai e 0))) 900) (av (aA (aH (ai e 10))) 900)) (ak (ak (av (-9223372036854775808) (asInt (ai e 9))) (av (asInt (ai e 9)) 9223372036854775807)) (ak (av (-9223372036854775808) (asInt (ai e 3))) (av (asInt (ai e 3)) 9223372036854775807)))
def gE (e:V):Bool:=ak (ak (av (aA (aH (ai e 3))) 900) (av (aA (aH (ai e 4))) 900)) (ak (ak (ak (av (-9223372036854775808) (asInt (ai e 0))) (av (asInt (ai e 0)) 9223372036854775807)) (ak (av (-9223372036854775808) (asInt (ai e 2))) (av (asInt (ai e 2)) 9223372036854775807))) (ak (ak (av (-9223372036854775808) (asInt (ai e 6))) (av (asInt (ai e 6)) 9223372036854775807)) (ak (av (-9223372036854775808) (asInt (ai e 7))) (av (asInt (ai e 7)) 9223372036854775807))))
noncomputable def V6 (e:V):ah:=rfV (aH (ai e 0)) (asInt (ai e 1)) (asInt (ai e 2)) (asInt (ai e 3)) (asInt (ai e 4)) (asInt (ai e 5)) (asInt (ai e 6)) (asInt (ai e 7)) (asInt (ai e 8)) (asInt (ai e 9)) (aH (ai e 10))
noncomputable def feR (e:V):Int:=rfE (aH (ai e 0)) (asInt (ai e 1)) (asInt (ai e 2)) (asInt (ai e 3)) (asInt (ai e 4)) (asInt (ai e 5)) (asInt (ai e 6)) (asInt (ai e 7)) (asInt (ai e 8)) (asInt (ai e 9)) (aH (ai e 10))
noncomputable def rrR (e:V):Bool:=Pm (aH (ai e 0)) (asInt (ai e 1)) (asInt (ai e 2)) (asInt (ai e 3)) (asInt (ai e 4)) (asInt (ai e 5)) (asInt (ai e 6)) (asInt (ai e 7)) (asInt (ai e 8)) (asInt (ai e 9)) (aH (ai e 10))
noncomputable def ou (e:V):ah:=efV (asInt (ai e 0)) (asInt (ai e 1)) (asInt (ai e 2)) (aH (ai e 3)) (aH (ai e 4)) (asBool (ai e 5)) (asInt (ai e 6)) (asInt (ai e 7)) (asInt (ai e 8)) (asInt (ai e 9)) (asInt (ai e 10)) (asInt (ai e 11)) (asInt (ai e 12))
noncomputable def feE (e:V):Int:=efE (asInt (ai e 0)) (asInt (ai e 1)) (asInt (ai e 2)) (aH (ai e 3)) (aH (ai e 4)) (asBool (ai e 5)) (asInt (ai e 6)) (asInt (ai e 7)) (asInt (ai e 8)) (asInt (ai e 9)) (asInt (ai e 10)) (asInt (ai e 11)) (asInt (ai e 12))
noncomputable def Ti (e:V):Bool:=Gj (asInt (ai e 0)) (asInt (ai e 1)) (asInt (ai e 2)) (aH (ai e 3)) (aH (ai e 4)) (asBool (ai e 5)) (asInt (ai e 6)) (asInt (ai e 7)) (asInt (ai e 8)) (asInt (ai e 9)) (asInt (ai e 10)) (asInt (ai e 11)) (asInt (ai e 12))
noncomputable def fvL (e:V):ah:=fdL (aH (ai e 0)) (aH (ai e 1))
noncomputable def feL (e:V):Int:=fdE (aH (ai e 0)) (aH (ai e 1))
noncomputable def rrL (e:V):Bool:=rgB (aH (ai e 0)) (aH (ai e 1))
def zN (e:V):af:=aH (ai e 0)
def Pt (e:V):ah:=Ap (ai e 1)
def allI (p:V→Bool) (l:ah):Nat→Nat→Bool|0,_=>true|k+1,i=>p (aG l i)&&allI p l k (i+1)
noncomputable def zB (b:ah) (a:Int):Nat→Nat→Bool|0,_=>true|k+1,i=>(Ti (aG b i)&&beq (asBool (ai (aG b i) 5)) (aW i a))&&zB b a k (i+1)
noncomputable def zoB (a:ah):Bool:=zB a ((a.length:Int)-1) a.length 0&&aW 0 (ay a)
def zoK (a:ah):Bool:=ak (av (ay a) 256) (a.all gE)
def gZ (e:V):Bool:=ak (av (aA (zN e)) 900) (zoK (Pt e))
noncomputable def zP (e:V):Bool:=ieq (dG (zN e)) 0&&zoB (Pt e)
def rD (l:ah):Nat→Nat→Nat|0,_=>0|k+1,i=>(Pt (aG l i)).length+rD l k (i+1)
def YE (xs zs a:ah):Bool:=ak (av (ay xs) 450) (ak (ak (av (ay zs) 1024) (nle (rD zs zs.length 0) 1400)) (ak (av (ay a) 1024) (ak (xs.all gR) (zs.all gZ))))
noncomputable def Kw (xs zs a:ah):Bool:=allI rrR xs xs.length 0&&(allI zP zs zs.length 0&&allI rrL a a.length 0)
noncomputable def Ak (n:af) (i:Nat):af:=if i=0 then dU [90,111,110,101,32] n else[]
noncomputable def eT (n:af) (a:ah):Nat→Nat→af|0,_=>[]|k+1,i=>ve (Ak n i) (ou (aG a i))++eT n a k (i+1)
noncomputable def eW (a:ah):Nat→Nat→Int→Int|0,_,w=>w|k+1,i,w=>eW a k (i+1) (Aj w (feE (aG a i)) (rC (ou (aG a i))))
noncomputable def znT (n:af) (a:ah):af:=eT n a a.length 0
noncomputable def znW (w:Int) (xs:ah) (n:af) (a:ah):Int:=eW a a.length 0 (Aj w (ndE xs a) (dG n))
noncomputable def znK (xs:ah) (n:af) (a:ah):Bool:=ak (kP xs) (ak (av (aA n) 900) (zoK a))
noncomputable def wLnS:aC:=fun a=>match a with|[.bxa 0 [x,b,.int .i64 w],.str a,.sl 9 [.str] none fs,.int .i64 y]=>some (ak (Y2 x b) (ak (Ct a fs) (av (ay (bwL b)) 9000000)),.out false (.tup []) [[.box HL 0,bxN b (ve a fs),.int .i64 (Aj w y (rC fs))]])|_=>none
noncomputable def wS1:List (Nat×aC):=(GX+14,wLnS)::wS0
noncomputable def nilB:V→Bool| .nilp=>true|_=>false
noncomputable def wZnS:aC:=fun a=>match a with|[.bxa 0 [x,b,.int .i64 w],.agg [.sl 50 [.str,.int .i64,.int .i64,.int .i64,.int .i64,.int .i64,.int .i64,.int .i64,.int .i64,.int .i64,.str] none xs,.sl 54 [.str,.sl 48 [.int .i64,.int .i64,.int .i64,.str,.str,.bool,.int .i64,.int .i64,.int .i64,.int .i64,.int .i64,.int .i64,.int .i64]] none zs,.sl 56 [.str,.str] none ls],.agg [.str n,.sl 48 [.int .i64,.int .i64,.int .i64,.str,.str,.bool,.int .i64,.int .i64,.int .i64,.int .i64,.int .i64,.int .i64,.int .i64] none es]]=>some (ak (Y2 x b) (ak (znK xs n es) (av (ay (bwL b)) 4400000)),.ni (ak (nilB x) (ieq (ay es) 0)) (.out false (.tup []) [[x,b,.int .i64 (znW w xs n es)]]) (.out false (.tup []) [[.box HL 0,bxN b (znT n es),.int .i64 (znW w xs n es)]]))|_=>none
noncomputable def wS2:List (Nat×aC):=(GX+15,wZnS)::wS1
theorem VT (a b c) (K:V→Option V):
 bA rE (bu rE yS9 5 2) 5 35 [V.sl 33 [Kd.int .i64] none [V.int .i64 a,V.int .i64 b,V.int .i64 c]] K=
 sel (aL (ieq a 0)) (K (V.int .i64 a)) (sel (aL (ieq b 0)) (K (V.int .i64 b)) (sel (aL (ieq c 0)) (K (V.int .i64 c)) (K (V.int .i64 0)))):=by kernel_rfl
theorem wLnN_top (F w a b y) (K:V→Option V):
 bA rE (bu rE wS0 F 4) F 14 [V.bxa 0 [V.nilp,V.nilsl,V.int .i64 w],V.str a,V.sl 9 [Kd.str] none b,V.int .i64 y] K=
 let A:=dU (dU a [32]) (tF b);let B:=aF (dU A [10]);sel (Tg b) (sel (fu a [32]) (sel (fu (dU a [32]) (tF b)) (sel (fu A [10]) (sel (rP B) (K (V.out false (V.tup []) [[V.box 1000000000 0,V.sl 5 [Kd.int .u8] (some 1002) B,V.int .i64 (Aj w y (rC b))]])) none) none) none) none) none:=by kernel_rfl
theorem wLnB_top (F bs w a b y) (K:V→Option V):
 bA rE (bu rE wS0 F 4) F 14 [V.bxa 0 [V.box 1000000000 0,V.sl 5 [Kd.int .u8] (some 1000001002) bs,V.int .i64 w],V.str a,V.sl 9 [Kd.str] none b,V.int .i64 y] K=
 let A:=dU (dU a [32]) (tF b);let B:=aF (dU A [10]);sel (Tg b) (sel (fu a [32]) (sel (fu (dU a [32]) (tF b)) (sel (fu A [10]) (sel (eD bs B) (K (V.out false (V.tup []) [[V.box 1000000000 0,V.sl 5 [Kd.int .u8] (some 1000001002) (aX bs B),V.int .i64 (Aj w y (rC b))]])) none) none) none) none) none:=by kernel_rfl
noncomputable def Ox:=fun F p n i e k j b q l o m f d h c g a K=>(qK rE wS1 F 4 15 [V.bxa 0 [],V.nilsl,V.nilsl] [1,1,1,1,0] p K n (kD 57 [(0,V.box 1000000000 0),(1,V.agg [V.sl 50 kR none i,V.sl 54 kZ none e,V.sl 56 [Kd.str,Kd.str] none k]),(2,V.agg [V.str j,V.sl 48 kE none b]),(4,V.box 4 0),(5,V.box 5 0),(7,V.int .i64 q),(34,V.sl 48 kE none l),(35,V.int .i64 o),(36,V.int .i64 m)] [(5,[V.str f,V.sl 48 kE none d]),(4,[V.sl 50 kR none h,V.sl 54 kZ none c,V.sl 56 [Kd.str,Kd.str] none g]),(1000000000,[V.nilp,V.nilsl,V.int .i64 a])]):Option V)
noncomputable def mW:=fun F q n i e l j b r m p o f d h c g k a K=>(qK rE wS1 F 4 15 [V.bxa 0 [],V.nilsl,V.nilsl] [1,1,1,1,0] q K n (kD 57 [(0,V.box 1000000000 0),(1,V.agg [V.sl 50 kR none i,V.sl 54 kZ none e,V.sl 56 [Kd.str,Kd.str] none l]),(2,V.agg [V.str j,V.sl 48 kE none b]),(4,V.box 4 0),(5,V.box 5 0),(7,V.int .i64 r),(34,V.sl 48 kE none m),(35,V.int .i64 p),(36,V.int .i64 o)] [(5,[V.str f,V.sl 48 kE none d]),(4,[V.sl 50 kR none h,V.sl 54 kZ none c,V.sl 56 [Kd.str,Kd.str] none g]),(1000000000,[V.box 1000000000 0,V.sl 5 [Kd.int .u8] (some 10001) k,V.int .i64 a])]):Option V)
theorem Ru (F w xs zs b n a) (K:V→Option V):
 bA rE (bu rE wS1 F 4) F 15 [V.bxa 0 [V.nilp,V.nilsl,V.int .i64 w],V.agg [V.sl 50 kR none xs,V.sl 54 kZ none zs,V.sl 56 [Kd.str,Kd.str] none b],V.agg [V.str n,V.sl 48 kE none a]] K=
 sel (ak (kP xs) (av (ay a) 1000)) (Ox F [] F xs zs b n a (ndE xs a) a (ay a) 0 n a xs zs b (Aj w (ndE xs a) (dG n)) K) none:=by kernel_rfl
theorem Cj (F n k g m l d p h o b a f j e i c K):
 Ox F [] (n+1) k g m l d p h o b a f j e i c K=
 let A:=aG h b;let B:=dU [90,111,110,101,32] a;let D:=av (ay []) 9000000;let E:=bJ .i64 b 1;let C:=Aj c (feE A) (rC (ou A));sel (aW b o) (sel (ak (av 0 b) (aW b (ay h))) (sel (ieq b 0) (sel (fu [90,111,110,101,32] a) (sel (gE A) (sel (ak true (ak (Ct B (ou A)) D)) (mW F [] n k g m l d p h o E a f j e i (aF (ve B (ou A))) C K) none) none) none) (sel (gE A) (sel (ak true (ak (Ct [] (ou A)) D)) (mW F [] n k g m l d p h o E a f j e i (aF (ve [] (ou A))) C K) none) none)) none) (K (V.out false (V.tup []) [[V.nilp,V.nilsl,V.int .i64 c]])):=by kernel_rfl
theorem Ck (F n l h o m e q i p c a g k f j b d K):
 mW F [] (n+1) l h o m e q i p c a g k f j b d K=
 let A:=aG i c;let B:=dU [90,111,110,101,32] a;let D:=av (ay b) 9000000;let E:=bJ .i64 c 1;let C:=Aj d (feE A) (rC (ou A));sel (aW c p) (sel (ak (av 0 c) (aW c (ay i))) (sel (ieq c 0) (sel (fu [90,111,110,101,32] a) (sel (gE A) (sel (ak true (ak (Ct B (ou A)) D)) (mW F [] n l h o m e q i p E a g k f j (aX b (aF (ve B (ou A)))) C K) none) none) none) (sel (gE A) (sel (ak true (ak (Ct [] (ou A)) D)) (mW F [] n l h o m e q i p E a g k f j (aX b (aF (ve [] (ou A)))) C K) none) none)) none) (K (V.out false (V.tup []) [[V.box 1000000000 0,V.sl 5 [Kd.int .u8] (some 1002) b,V.int .i64 d]])):=by kernel_rfl
noncomputable def qM:=fun F q n i e l j b r m p o f d h c g k a K=>(qK rE wS1 F 4 15 [V.bxa 0 [],V.nilsl,V.nilsl] [1,1,1,1,0] q K n (kD 57 [(0,V.box 1000000000 0),(1,V.agg [V.sl 50 kR none i,V.sl 54 kZ none e,V.sl 56 [Kd.str,Kd.str] none l]),(2,V.agg [V.str j,V.sl 48 kE none b]),(4,V.box 4 0),(5,V.box 5 0),(7,V.int .i64 r),(34,V.sl 48 kE none m),(35,V.int .i64 p),(36,V.int .i64 o)] [(5,[V.str f,V.sl 48 kE none d]),(4,[V.sl 50 kR none h,V.sl 54 kZ none c,V.sl 56 [Kd.str,Kd.str] none g]),(1000000000,[V.box 1000000000 0,V.sl 5 [Kd.int .u8] (some 1000010001) k,V.int .i64 a])]):Option V)
theorem wZnB_top (F bs w xs zs b n a) (K:V→Option V):
 bA rE (bu rE wS1 F 4) F 15 [V.bxa 0 [V.box 1000000000 0,V.sl 5 [Kd.int .u8] (some 1000001002) bs,V.int .i64 w],V.agg [V.sl 50 kR none xs,V.sl 54 kZ none zs,V.sl 56 [Kd.str,Kd.str] none b],V.agg [V.str n,V.sl 48 kE none a]] K=
 sel (ak (kP xs) (av (ay a) 1000)) (qM F [] F xs zs b n a (ndE xs a) a (ay a) 0 n a xs zs b bs (Aj w (ndE xs a) (dG n)) K) none:=by kernel_rfl
theorem Cm (F n l h o m e q i p c a g k f j b d K):
 qM F [] (n+1) l h o m e q i p c a g k f j b d K=
 let A:=aG i c;let B:=dU [90,111,110,101,32] a;let D:=av (ay b) 9000000;let E:=bJ .i64 c 1;let C:=Aj d (feE A) (rC (ou A));sel (aW c p) (sel (ak (av 0 c) (aW c (ay i))) (sel (ieq c 0) (sel (fu [90,111,110,101,32] a) (sel (gE A) (sel (ak true (ak (Ct B (ou A)) D)) (qM F [] n l h o m e q i p E a g k f j (aX b (aF (ve B (ou A)))) C K) none) none) none) (sel (gE A) (sel (ak true (ak (Ct [] (ou A)) D)) (qM F [] n l h o m e q i p E a g k f j (aX b (aF (ve [] (ou A)))) C K) none) none)) none) (K (V.out false (V.tup []) [[V.box 1000000000 0,V.sl 5 [Kd.int .u8] (some 1000001002) b,V.int .i64 d]])):=by kernel_rfl
noncomputable def UA:=fun F k n e a d h i j b c g f K=>(gH rE wS2 F 4 7 [1,1,0,1,0] k K n (kD 63 [(0,V.agg [V.sl 50 kR none e,V.sl 54 kZ none a,V.sl 56 [Kd.str,Kd.str] none d]),(1,V.box 1 0),(2,V.str []),(3,V.int .i64 0),(4,V.box 4 0),(10,V.tup []),(12,V.tup []),(13,V.tup []),(14,V.tup []),(16,V.sl 50 kR none h),(17,V.int .i64 i),(18,V.int .i64 j),(32,V.tup []),(33,V.tup []),(34,V.tup []),(43,V.tup []),(44,V.tup []),(45,V.tup [])] [(4,[V.nilp,V.nilsl,V.int .i64 b]),(1,[V.sl 50 kR none c,V.sl 54 kZ none g,V.sl 56 [Kd.str,Kd.str] none f])]):Option V)
noncomputable def C5:=fun F l n f a e i j k b c d h g K=>(gH rE wS2 F 4 7 [1,1,0,1,0] l K n (kD 63 [(0,V.agg [V.sl 50 kR none f,V.sl 54 kZ none a,V.sl 56 [Kd.str,Kd.str] none e]),(1,V.box 1 0),(2,V.str []),(3,V.int .i64 0),(4,V.box 4 0),(10,V.tup []),(12,V.tup []),(13,V.tup []),(14,V.tup []),(16,V.sl 50 kR none i),(17,V.int .i64 j),(18,V.int .i64 k),(32,V.tup []),(33,V.tup []),(34,V.tup []),(43,V.tup []),(44,V.tup []),(45,V.tup [])] [(4,[V.box 4 0,V.sl 5 [Kd.int .u8] (some 50001) b,V.int .i64 c]),(1,[V.sl 50 kR none d,V.sl 54 kZ none h,V.sl 56 [Kd.str,Kd.str] none g])]):Option V)
noncomputable def Ho:=fun F o n g a b k l i h m j e f d c K=>(gH rE wS2 F 4 7 [1,1,1,0,1,0] o K n (kD 63 [(0,V.agg [V.sl 50 kR none g,V.sl 54 kZ none a,V.sl 56 [Kd.str,Kd.str] none b]),(1,V.box 1 0),(2,V.str []),(3,V.int .i64 0),(4,V.box 4 0),(12,V.tup []),(13,V.tup []),(14,V.tup []),(16,V.sl 50 kR none k),(17,V.int .i64 l),(18,V.int .i64 i),(32,V.sl 54 kZ none h),(33,V.int .i64 m),(34,V.int .i64 j),(43,V.tup []),(44,V.tup []),(45,V.tup [])] [(4,[V.nilp,V.nilsl,V.int .i64 e]),(1,[V.sl 50 kR none f,V.sl 54 kZ none d,V.sl 56 [Kd.str,Kd.str] none c])]):Option V)
noncomputable def zy:=fun F p n h a c l m j i o k b f g e d K=>(gH rE wS2 F 4 7 [1,1,1,0,1,0] p K n (kD 63 [(0,V.agg [V.sl 50 kR none h,V.sl 54 kZ none a,V.sl 56 [Kd.str,Kd.str] none c]),(1,V.box 1 0),(2,V.str []),(3,V.int .i64 0),(4,V.box 4 0),(12,V.tup []),(13,V.tup []),(14,V.tup []),(16,V.sl 50 kR none l),(17,V.int .i64 m),(18,V.int .i64 j),(32,V.sl 54 kZ none i),(33,V.int .i64 o),(34,V.int .i64 k),(43,V.tup []),(44,V.tup []),(45,V.tup [])] [(4,[V.box 4 0,V.sl 5 [Kd.int .u8] (some 50001) b,V.int .i64 f]),(1,[V.sl 50 kR none g,V.sl 54 kZ none e,V.sl 56 [Kd.str,Kd.str] none d])]):Option V)
noncomputable def UB:=fun F r n g a b o p i h q k l m j e f d c K=>(gH rE wS2 F 4 7 [1,1,1,1,0,1,0] r K n (kD 63 [(0,V.agg [V.sl 50 kR none g,V.sl 54 kZ none a,V.sl 56 [Kd.str,Kd.str] none b]),(1,V.box 1 0),(2,V.str []),(3,V.int .i64 0),(4,V.box 4 0),(16,V.sl 50 kR none o),(17,V.int .i64 p),(18,V.int .i64 i),(32,V.sl 54 kZ none h),(33,V.int .i64 q),(34,V.int .i64 k),(43,V.sl 56 [Kd.str,Kd.str] none l),(44,V.int .i64 m),(45,V.int .i64 j)] [(4,[V.nilp,V.nilsl,V.int .i64 e]),(1,[V.sl 50 kR none f,V.sl 54 kZ none d,V.sl 56 [Kd.str,Kd.str] none c])]):Option V)
noncomputable def zz:=fun F s n h a c p q j i r l m o k b f g e d K=>(gH rE wS2 F 4 7 [1,1,1,1,0,1,0] s K n (kD 63 [(0,V.agg [V.sl 50 kR none h,V.sl 54 kZ none a,V.sl 56 [Kd.str,Kd.str] none c]),(1,V.box 1 0),(2,V.str []),(3,V.int .i64 0),(4,V.box 4 0),(16,V.sl 50 kR none p),(17,V.int .i64 q),(18,V.int .i64 j),(32,V.sl 54 kZ none i),(33,V.int .i64 r),(34,V.int .i64 l),(43,V.sl 56 [Kd.str,Kd.str] none m),(44,V.int .i64 o),(45,V.int .i64 k)] [(4,[V.box 4 0,V.sl 5 [Kd.int .u8] (some 50001) b,V.int .i64 f]),(1,[V.sl 50 kR none g,V.sl 54 kZ none e,V.sl 56 [Kd.str,Kd.str] none d])]):Option V)
theorem wTx_top (F xs zs a) (K:V→Option V):
 bA rE (bu rE wS2 F 4) F 7 [V.agg [V.sl 50 kR none xs,V.sl 54 kZ none zs,V.sl 56 [Kd.str,Kd.str] none a]] K=
 UA F [] F xs zs a xs (ay xs) 0 0 xs zs a K:=by kernel_rfl
theorem SV (F n h c g d j b e f a i K):
 UA F [] (n+1) h c g d j b e f a i K=
 let A:=aG d b;sel (aW b j) (sel (ak (av 0 b) (aW b (ay d))) (sel (gR A) (sel (ak true (ak (Ct [82,117,108,101] (V6 A)) (av (ay []) 9000000))) (C5 F [] n h c g d j (bJ .i64 b 1) (aF (ve [82,117,108,101] (V6 A))) (Aj e (feR A) (rC (V6 A))) f a i K) none) none) none) (Ho F [] F h c g d j b a (ay a) 0 e f a i K):=by kernel_rfl
theorem ET (F n i d h e k b c f g a j K):
 C5 F [] (n+1) i d h e k b c f g a j K=
 let A:=aG e b;sel (aW b k) (sel (ak (av 0 b) (aW b (ay e))) (sel (gR A) (sel (ak true (ak (Ct [82,117,108,101] (V6 A)) (av (ay c) 9000000))) (C5 F [] n i d h e k (bJ .i64 b 1) (aX c (aF (ve [82,117,108,101] (V6 A)))) (Aj f (feR A) (rC (V6 A))) g a j K) none) none) none) (zy F [] F i d h e k b a (ay a) 0 c f g a j K):=by kernel_rfl
theorem EU (F n h e f l m k d j c i b g a K):
 Ho F [] (n+1) h e f l m k d j c i b g a K=
 let A:=Ap (ai (aG d c) 1);let B:=aH (ai (aG d c) 0);let D:=bJ .i64 c 1;let C:=znW i b B A;sel (aW c j) (sel (ak (av 0 c) (aW c (ay d))) (sel (ak true (ak (znK b B A) (av (ay []) 4400000))) (sel (ak true (ieq (ay A) 0)) (Ho F [] n h e f l m k d j D C b g a K) (zy F [] n h e f l m k d j D (aF (znT B A)) C b g a K)) none) none) (UB F [] F h e f l m k d j c a (ay a) 0 i b g a K):=by kernel_rfl
theorem EV (F n j e g m o l f k c d i b h a K):
 zy F [] (n+1) j e g m o l f k c d i b h a K=
 let A:=aG f c;let B:=aH (ai A 0);let C:=Ap (ai A 1);sel (aW c k) (sel (ak (av 0 c) (aW c (ay f))) (sel (ak true (ak (znK b B C) (av (ay d) 4400000))) (zy F [] n j e g m o l f k (bJ .i64 c 1) (aX d (aF (znT B C))) (znW i b B C) b h a K) none) none) (zz F [] F j e g m o l f k c a (ay a) 0 d i b h a K):=by kernel_rfl
theorem SX (F n i d e o p l k q m c j a b h g f K):
 UB F [] (n+1) i d e o p l k q m c j a b h g f K=
 let B:=aG c a;let C:=aH (ai B 0);let D:=aH (ai B 1);let A:=fdL C D;sel (aW a j) (sel (ak (av 0 a) (aW a (ay c))) (sel (ak true (ak (Ct [76,105,110,107] A) (av (ay []) 9000000))) (zz F [] n i d e o p l k q m c j (bJ .i64 a 1) (aF (ve [76,105,110,107] A)) (Aj b (fdE C D) (rC A)) h g f K) none) none) (sel (aL (ieq b 0)) (K (V.tup [V.str [],V.int .i64 4])) (K (V.tup [V.str [],V.int .i64 0]))):=by kernel_rfl
theorem EW (F n j e f p q m l r o d k b a c i h g K):
 zz F [] (n+1) j e f p q m l r o d k b a c i h g K=
 let B:=aG d b;let C:=aH (ai B 0);let D:=aH (ai B 1);let A:=fdL C D;sel (aW b k) (sel (ak (av 0 b) (aW b (ay d))) (sel (ak true (ak (Ct [76,105,110,107] A) (av (ay a) 9000000))) (zz F [] n j e f p q m l r o d k (bJ .i64 b 1) (aX a (aF (ve [76,105,110,107] A))) (Aj c (fdE C D) (rC A)) i h g K) none) none) (sel (aL (ieq c 0)) (K (V.tup [V.str [],V.int .i64 4])) (K (V.tup [V.str (fZ a),V.int .i64 0]))):=by kernel_rfl
theorem wLkS_ok (t n:af) (a:true=true):aj rE 16 [.agg [.str t,.str n]] (.tup [.sl 9 [.str] none (fdL t n),.int .i64 (fdE t n)]):=wM (rO (Lk.VJ t n))
theorem wJnS_ok (xs:ah) (a:Tg xs=true):aj rE 34 [.sl 9 [.str] none xs] (.tup [.str (tF xs),.int .i64 (rC xs)]):=rH (hJnS_ok xs a)
theorem wOr_ev (a b c:Int):aj rE 35 [.sl 33 [.int .i64] none [.int .i64 a,.int .i64 b,.int .i64 c]] (.int .i64 (Aj a b c)):=by
 refine au qI yS9_ok 5 2 ?_;rw[VT];unfold Aj
 cases e:ieq a 0<;>cases f:ieq b 0<;>cases d:ieq c 0<;>first|rfl|(rw[aN] at d;subst d;rfl)
theorem wOrS_ok (e:Nat) (o:Option Nat) (a b c:Int) (i:true=true):aj rE 35 [.sl e [.int .i64] o [.int .i64 a,.int .i64 b,.int .i64 c]] (.int .i64 (Aj a b c)):=by intro G w vs h g f;refine wOr_ev a b c G w vs h g ?_;obtain⟨x,rfl,d⟩:=CR f;refine .cons ?_ .nil;unfold aV at d⊢;exact d
theorem YF {xs:ah} {k:Nat} (h:av (ay xs) k=true):xs.length≤k:=by rw[aB,aD] at h;omega
theorem wEnS_ok (xs:ah) (n:af) (a:ah) (c:ak (kP xs) (av (ay a) 1000)=true):aj rE 37 [.sl 50 [.str,.int .i64,.int .i64,.int .i64,.int .i64,.int .i64,.int .i64,.int .i64,.int .i64,.int .i64,.str] none xs,.agg [.str n,.sl 48 [.int .i64,.int .i64,.int .i64,.str,.str,.bool,.int .i64,.int .i64,.int .i64,.int .i64,.int .i64,.int .i64,.int .i64] none a]] (.tup [.sl 2 [.int .i64] (some 0) (vv xs a),.int .i64 (ndE xs a)]):=by obtain⟨b,d⟩:=aO c;exact rF (Rd.ends_ev xs a n b (YF (k:=1000) d))
theorem IA {x:V} (h:MN x=true):x=.nilp∨x=.box HL 0:=by
 unfold MN at h;split at h
 ·exact .inl rfl
 ·rename_i k off
  rw[bC,iM,iM] at h;rw[h.1,h.2];exact .inr rfl
 cases h
theorem wCpS_ok (x b:V) (w:Int) (a:MN x=true):nR rE 62 [.bxa 0 [x,b,.int .i64 w]] (.out false (.tup []) [[.box HL 0,b,.int .i64 w]]):=
 nR.out (XG rfl x b [.int .i64 w] (IA a))
theorem wStS_ok (x b:V) (w:Int) (f:ak (MN x) (bbOk b)=true):nR rE 17 [.bxa 0 [x,b,.int .i64 w]] (.out false (.str (bbS b)) [[x,bbN b,.int .i64 w]]):=by
 obtain⟨d,a⟩:=aO f;refine nR.out ?_;unfold bbOk at a;split at a
 ·exact yJ rfl x [.int .i64 w]
 ·rename_i e sh L xs
  rw[bC,bC,iM,iM] at a;obtain⟨⟨rfl,c⟩,rfl⟩:=a;have c:=Kd.fA _ _ c;subst c;exact Mf rfl x [.int .i64 w] (by rcases IA d with rfl|rfl<;>rfl) rfl xs
 cases a
theorem UC:bf rE wS0:=by
 unfold wS0;refine bf.cons (fun args r h=>?_) (bf.cons (fun args r h=>?_) (bf.cons (fun args r h=>?_) (bf.cons (fun args r h=>?_) (bf.cons (fun args r h=>?_) (bf.cons (fun args r h=>?_) (bf.nH (fun args r h=>?_) (bf.nH (fun args r h=>?_) (bf.cons (fun args r h=>?_) bf.nil))))))));all_goals (revert h;intro h;first|unfold wRfS at h|unfold wEfS at h|unfold wLkS at h|unfold wJnS at h|unfold wOrS at h|unfold wEnS at h|unfold wCpS at h|unfold wStS at h|unfold yNmS at h)
 all_goals (split at h;rotate_left; · cases h)
 all_goals (simp only[aR,bM] at h;obtain⟨a,rfl⟩:=h)
 ·exact wRfS_ok _ _ _ _ _ _ _ _ _ _ _ a
 ·exact wEfS_ok _ _ _ _ _ _ _ _ _ _ _ _ _ a
 ·exact wLkS_ok _ _ rfl
 ·exact wJnS_ok _ a
 ·exact wOrS_ok _ _ _ _ _ rfl
 ·exact wEnS_ok _ _ _ a
 ·exact wCpS_ok _ _ _ a
 ·exact wStS_ok _ _ _ a
 exact yNmS_ok _ rfl
theorem Rv {x b:V} (h:Y2 x b=true):(x=.nilp∧b=.nilsl)∨ ∃xs,x=.box HL 0∧b=.sl 5 [.int .u8] (some 1000001002) xs:=by
 unfold Y2 at h;split at h
 ·exact .inl ⟨rfl,rfl⟩
 ·rename_i k off e sh L xs
  simp only[bC,iM] at h;obtain⟨⟨rfl,rfl⟩,rfl,a,rfl⟩:=h;have a:=Kd.fA _ _ a;subst a;exact .inr ⟨xs,rfl,rfl⟩
 cases h
theorem app_ok {xs:ah} {t:af} (h:xs.length+t.length≤16777216):eD xs (aF t)=true:=by rw[iY];unfold aF;rw[kJ];exact h
theorem new_ok {t:af} (h:t.length≤16777216):rP (aF t)=true:=by unfold rP nle aF;rw[kJ];exact u6 h
theorem C6 {a b:af} (h:a.length+b.length≤1152921504606846976):fu a b=true:=by rw[gX];exact h
theorem sc (a b:af):dU a b=a++b:=rfl
theorem Yf {a:af} {b:ah} (h:Ct a b=true):Tg b=true∧a.length≤1000∧(tF b).length≤10000:=by unfold Ct at h;obtain⟨c,e⟩:=aO h;obtain⟨d,f⟩:=aO e;rw[aB,aI] at d f;exact⟨c,by omega,by omega⟩
theorem ln_cats {a:af} {b:ah} (h:Ct a b=true):fu a [32]=true∧fu (dU a [32]) (tF b)=true∧fu (dU (dU a [32]) (tF b)) [10]=true∧(ve a b).length≤11002:=by obtain⟨c,e,d⟩:=Yf h;unfold ve;refine⟨C6 ?_,C6 ?_,C6 ?_,?_⟩<;>(simp only[sc,iH,fI,qz];omega)
theorem wLnS_ok (x b:V) (w:Int) (a:af) (c:ah) (y:Int) (n:ak (Y2 x b) (ak (Ct a c) (av (ay (bwL b)) 9000000))=true):
  nR rE 14 [.bxa 0 [x,b,.int .i64 w],.str a,.sl 9 [.str] none c,.int .i64 y] (.out false (.tup []) [[.box HL 0,bxN b (ve a c),.int .i64 (Aj w y (rC c))]]):=by
 obtain⟨m,l⟩:=aO n;obtain⟨h,i⟩:=aO l;obtain⟨d,o,p⟩:=Yf h;obtain⟨j,f,g,q⟩:=ln_cats h;rcases Rv m with⟨rfl,rfl⟩|⟨bs,rfl,rfl⟩
 ·refine nR.out (fQ qI UC 5 4 ?_)
  (rw[wLnN_top];(conv=>zeta);rw[ax d,ax j,ax f,ax g,ax (new_ok (by show(ve a c).length≤_;omega))])
  rfl
 refine nR.out (fQ qI UC 5 4 ?_);have i:bs.length≤9000000:=YF (k:=9000000) i;have e:=wLnB_top 5 bs w a c y some;refine e.trans ?_;rw[ax d,ax j,ax f,ax g,ax (app_ok (by show bs.length+(ve a c).length≤_;omega))];rfl
theorem Ny:bf rE wS1:=by
 unfold wS1;refine bf.nH (fun args r h=>?_) UC;all_goals (revert h;intro h;first|unfold wLnS at h)
 all_goals (split at h;rotate_left; · cases h)
 all_goals (simp only[aR,bM] at h;obtain⟨a,rfl⟩:=h)
 ·exact wLnS_ok _ _ _ _ _ _ a
theorem Oo (l:List (af)):tF (bE l)=(dZ l).1∧rC (bE l)=(dZ l).2∧Tg (bE l)=decide (nW l≤3000000):=by unfold tF rC Tg jnC;rw[Q7];exact⟨rfl,rfl,rfl⟩
theorem xK (l:List (af)) (h: ∀x∈l,Gd x) (c:l.length≤16) (e:nW l≤400):Tg (bE l)=true∧rC (bE l)=0∧(tF (bE l)).length≤448:=by obtain⟨d,g,j,i⟩:=FU l h c e;obtain⟨a,f,b⟩:=Oo l;rw[a,f,b,d];exact⟨u6 (by omega),rfl,by omega⟩
theorem II:Tg []=true∧rC []=0∧(tF []).length≤448:=xK [] (fun _ h=>by cases h) (by decide) (by decide)
theorem FW (e:V):Tg (V6 e)=true∧rC (V6 e)=0∧(tF (V6 e)).length≤448:=by
 unfold V6 rfV
 cases h:Pm (aH (ai e 0)) (asInt (ai e 1)) (asInt (ai e 2)) (asInt (ai e 3)) (asInt (ai e 4)) (asInt (ai e 5)) (asInt (ai e 6)) (asInt (ai e 7)) (asInt (ai e 8)) (asInt (ai e 9)) (aH (ai e 10)) with
 |false=>exact II
 |true=>obtain⟨g1,a⟩:=XZ _ _ _ _ _ _ _ _ _ _ _ h;exact xK _ g1 (by show 9≤16;omega) a
theorem Bh (e:V):Tg (ou e)=true∧rC (ou e)=0∧(tF (ou e)).length≤448:=by
 unfold ou efV
 cases h:Gj (asInt (ai e 0)) (asInt (ai e 1)) (asInt (ai e 2)) (aH (ai e 3)) (aH (ai e 4)) (asBool (ai e 5)) (asInt (ai e 6)) (asInt (ai e 7)) (asInt (ai e 8)) (asInt (ai e 9)) (asInt (ai e 10)) (asInt (ai e 11)) (asInt (ai e 12)) with
 |false=>exact II
 |true=>obtain⟨g1,a,b⟩:=X0 _ _ _ _ _ _ _ _ _ _ _ _ _ h;show Tg (Po _ _ _ _ _ _ _ _ _ _ _ _ _)=true∧rC (Po _ _ _ _ _ _ _ _ _ _ _ _ _)=0∧(tF (Po _ _ _ _ _ _ _ _ _ _ _ _ _)).length≤448;rw[On];exact xK _ g1 (by omega) a
theorem FX (e:V):Tg (fvL e)=true∧rC (fvL e)=0∧(tF (fvL e)).length≤448:=by
 unfold fvL fdL;split
 next h=>
  unfold rgB at h;rw[lG,uJ,uJ] at h;obtain⟨b,a,f⟩:=h;have d:=Nt.Ev.YtknhlobahpgkeaaGreatDoor.oh _ b;have l2:=Nt.Ev.YtknhlobahpgkeaaGreatDoor.oh _ a;refine xK [aH (ai e 0),aH (ai e 1)] ?_ (by show 2≤16;omega) ?_
  ·intro x c
   simp only[Yy,ab7,or_false] at c;rcases c with rfl|rfl
   ·exact Qe _ b
   exact Qe _ a
  show(aH (ai e 0)).length+((aH (ai e 1)).length+0)≤400;omega
 next=>exact II
theorem zA {a:af} {b:ah} (h:Tg b=true∧rC b=0∧(tF b).length≤448) (c:a.length≤1000):Ct a b=true:=by unfold Ct;rw[h.1,bg (show aA a≤1000 by rw[aI];omega),bg (show aA (tF b)≤10000 by rw[aI];omega)];rfl
theorem xu {a:af} {b:ah} (h:Tg b=true∧rC b=0∧(tF b).length≤448) (c:a.length≤950):(ve a b).length≤1500:=by unfold ve;simp only[sc,iH,fI,qz];omega
theorem BN (a b c:Int):Aj a b c=0↔a=0∧b=0∧c=0:=by
 unfold Aj;simp only[bK,bW,aN];split
 ·omega
 split<;>omega
theorem bn_app {bs:ah} {a b:af}:aX (aX bs (aF a)) (aF b)=aX bs (aF (a++b)):=by unfold aX aF;simp
theorem lc_len {bs:ah} {a:af}:(aX bs (aF a)).length=bs.length+a.length:=by unfold aX aF;simp
theorem lc_nil {bs:ah}:aX bs (aF [])=bs:=by unfold aX aF;simp
theorem bv_len {a:af}:(aF a).length=a.length:=by unfold aF;simp
theorem qN {p:V→Bool} {l:ah} (h:l.all p=true) {i:Nat} (a:i<l.length):p (aG l (i:Int))=true:=by rw[eX,mg,iZ a];exact List.all_eq_true.1 h _ (Ga a)
theorem FY {a:ah} (h:zoK a=true):a.length≤256∧a.all gE=true:=by unfold zoK at h;obtain⟨b,c⟩:=aO h;exact⟨by have:=YF (k:=256) b;omega,c⟩
theorem zoK_12 {a:ah} (h:zoK a=true):a.length≤256:=YF (k:=256) (aO h).1
theorem FZ (n:af) (a:n.length≤900) (i:Nat):(Ak n i).length≤905:=by
 unfold Ak;split
 ·rw[sc];simp;omega
 simp
theorem eT_len (n:af) (b:ah) (c:n.length≤900): ∀(k i:Nat),(eT n b k i).length≤k*1500
 |0,_=>JS _
 |k+1,i=>by unfold eT;have e:=xu (a:=Ak n i) (Bh (aG b i)) (by have:=FZ n c i;omega);have d:=eT_len n b c k (i+1);rw[iH];omega
theorem Gu:ak true (ak true true)=true:=rfl
theorem idx_in {xs:ah} {i:Nat} (h:i<xs.length):aW (i:Int) (ay xs)=true∧ak (av 0 (i:Int)) (aW (i:Int) (ay xs))=true∧bJ .i64 (i:Int) 1=((i+1:Nat):Int)∨1000000<xs.length:=by
 by_cases a:xs.length≤1000000
 ·refine .inl ⟨bH (by rw[aD];omega),?_,?_⟩
  ·rw[aM,aB,bq,aD];omega
  rw[cZ (by omega)];omega
 exact .inr (by omega)
theorem jN {xs:ah} {i:Nat} (h:i<xs.length) (a:xs.length≤1000000):aW (i:Int) (ay xs)=true∧ak (av 0 (i:Int)) (aW (i:Int) (ay xs))=true∧bJ .i64 (i:Int) 1=((i+1:Nat):Int):=(idx_in h).elim id (fun h=>by omega)
theorem mX {xs:ah} {i:Nat} (h:i=xs.length):aW (i:Int) (ay xs)=false:=bF (by rw[aD];omega)
theorem znB_loop (F:Nat) (a b c:ah) (m n:af) (d f:ah) (x:Int) (q j h g:ah) (E:n.length≤900) (B:zoK f=true) (K:V→Option V): ∀(k i:Nat) (bs:ah) (w:Int) (G:Nat),i+k=f.length→k<G→bs.length+k*1500≤4800000→
  qM F [] G a b c m d x f (ay f) i n q j h g bs w K=K (.out false (.tup []) [[.box 1000000000 0,.sl 5 [.int .u8] (some 1000001002) (aX bs (aF (eT n f k i))),.int .i64 (eW f k i w)]]):=by
 obtain⟨J,z⟩:=FY B;intro k;induction k with
 |zero=>
  intro i bs w G A v D;obtain⟨G,rfl⟩:=Am (show G≠0 by omega)
  (rw[Cm];(conv=>zeta);rw[aK (mX (by omega))])
  unfold eT eW;rw[lc_nil]
 |succ k I=>
  intro i bs w G A v D;obtain⟨G,rfl⟩:=Am (show G≠0 by omega);obtain⟨H,y,C⟩:=jN (xs:=f) (i:=i) (by omega) (by omega);have r:=qN z (i:=i) (by omega);have u:=Bh (aG f i)
  (rw[Cm];(conv=>zeta);rw[ax H,ax y,C])
  show sel (ieq (i:Int) 0) (sel (fu [90,111,110,101,32] n) (sel (gE (aG f i)) (sel (ak true (ak (Ct (dU [90,111,110,101,32] n) (ou (aG f i))) (av (ay bs) 9000000))) (qM F [] G a b c m d x f (ay f) ((i+1:Nat):Int) n q j h g (aX bs (aF (ve (dU [90,111,110,101,32] n) (ou (aG f i))))) (Aj w (feE (aG f i)) (rC (ou (aG f i)))) K) none) none) none)
   (sel (gE (aG f i)) (sel (ak true (ak (Ct [] (ou (aG f i))) (av (ay bs) 9000000))) (qM F [] G a b c m d x f (ay f) ((i+1:Nat):Int) n q j h g (aX bs (aF (ve [] (ou (aG f i))))) (Aj w (feE (aG f i)) (rC (ou (aG f i)))) K) none) none)=_
  have p:av (ay bs) 9000000=true:=bg (by rw[aD];omega);have M:=FZ n E i;have L:=xu (a:=Ak n i) u (by omega);have s:=zA (a:=Ak n i) u (by omega);have e: ∀t,t=Ak n i→qM F [] G a b c m d x f (ay f) ((i+1:Nat):Int) n q j h g (aX bs (aF (ve t (ou (aG f i))))) (Aj w (feE (aG f i)) (rC (ou (aG f i)))) K=K (.out false (.tup []) [[.box 1000000000 0,.sl 5 [.int .u8] (some 1000001002) (aX bs (aF (eT n f (k+1) i))),.int .i64 (eW f (k+1) i w)]]):=by rintro _ rfl;rw[I (i+1) _ _ G (by omega) (by omega) (by rw[lc_len];omega),bn_app];rfl
  by_cases o:i=0
  ·have l:dU [90,111,110,101,32] n=Ak n i:=by unfold Ak;rw[if_pos o]
   rw[ax (bn (by omega)),ax (C6 (by simp;omega)),ax r,l,s,p,ax Gu,e _ rfl]
  have l:([]:af)=Ak n i:=by unfold Ak;rw[if_neg o]
  rw[aK (bD (by omega)),ax r,e _ l];rw[show Ct [] (ou (aG f i))=true by rw[l];exact s,p,ax Gu]
theorem znL_loop (F:Nat) (a b c:ah) (m n:af) (d f:ah) (x:Int) (q j h g:ah) (E:n.length≤900) (B:zoK f=true) (K:V→Option V): ∀(k i:Nat) (bs:ah) (w:Int) (G:Nat),i+k=f.length→k<G→bs.length+k*1500≤4800000→
  mW F [] G a b c m d x f (ay f) i n q j h g bs w K=K (.out false (.tup []) [[.box 1000000000 0,.sl 5 [.int .u8] (some 1002) (aX bs (aF (eT n f k i))),.int .i64 (eW f k i w)]]):=by
 obtain⟨J,z⟩:=FY B;intro k;induction k with
 |zero=>
  intro i bs w G A v D;obtain⟨G,rfl⟩:=Am (show G≠0 by omega)
  (rw[Ck];(conv=>zeta);rw[aK (mX (by omega))])
  unfold eT eW;rw[lc_nil]
 |succ k I=>
  intro i bs w G A v D;obtain⟨G,rfl⟩:=Am (show G≠0 by omega);obtain⟨H,y,C⟩:=jN (xs:=f) (i:=i) (by omega) (by omega);have r:=qN z (i:=i) (by omega);have u:=Bh (aG f i)
  (rw[Ck];(conv=>zeta);rw[ax H,ax y,C])
  show sel (ieq (i:Int) 0) (sel (fu [90,111,110,101,32] n) (sel (gE (aG f i)) (sel (ak true (ak (Ct (dU [90,111,110,101,32] n) (ou (aG f i))) (av (ay bs) 9000000))) (mW F [] G a b c m d x f (ay f) ((i+1:Nat):Int) n q j h g (aX bs (aF (ve (dU [90,111,110,101,32] n) (ou (aG f i))))) (Aj w (feE (aG f i)) (rC (ou (aG f i)))) K) none) none) none)
   (sel (gE (aG f i)) (sel (ak true (ak (Ct [] (ou (aG f i))) (av (ay bs) 9000000))) (mW F [] G a b c m d x f (ay f) ((i+1:Nat):Int) n q j h g (aX bs (aF (ve [] (ou (aG f i))))) (Aj w (feE (aG f i)) (rC (ou (aG f i)))) K) none) none)=_
  have p:av (ay bs) 9000000=true:=bg (by rw[aD];omega);have M:=FZ n E i;have L:=xu (a:=Ak n i) u (by omega);have s:=zA (a:=Ak n i) u (by omega);have e: ∀t,t=Ak n i→mW F [] G a b c m d x f (ay f) ((i+1:Nat):Int) n q j h g (aX bs (aF (ve t (ou (aG f i))))) (Aj w (feE (aG f i)) (rC (ou (aG f i)))) K=K (.out false (.tup []) [[.box 1000000000 0,.sl 5 [.int .u8] (some 1002) (aX bs (aF (eT n f (k+1) i))),.int .i64 (eW f (k+1) i w)]]):=by rintro _ rfl;rw[I (i+1) _ _ G (by omega) (by omega) (by rw[lc_len];omega),bn_app];rfl
  by_cases o:i=0
  ·have l:dU [90,111,110,101,32] n=Ak n i:=by unfold Ak;rw[if_pos o]
   rw[ax (bn (by omega)),ax (C6 (by simp;omega)),ax r,l,s,p,ax Gu,e _ rfl]
  have l:([]:af)=Ak n i:=by unfold Ak;rw[if_neg o]
  rw[aK (bD (by omega)),ax r,e _ l];rw[show Ct [] (ou (aG f i))=true by rw[l];exact s,p,ax Gu]
theorem znN_loop (F:Nat) (B:258≤F) (a b c:ah) (m n:af) (d f:ah) (x:Int) (q p l j:ah) (t:n.length≤900) (r:zoK f=true) (w:Int) (K:V→Option V) (u:f≠[]):
  Ox F [] F a b c m d x f (ay f) 0 n q p l j w K=K (.out false (.tup []) [[.box 1000000000 0,.sl 5 [.int .u8] (some 1002) (aF (znT n f)),.int .i64 (eW f f.length 0 w)]]):=by
 obtain⟨A,z⟩:=FY r;obtain⟨k,y⟩: ∃k,f.length=k+1:=⟨f.length-1,by have:=List.length_pos_iff.2 u;omega⟩
 obtain⟨G,rfl⟩:=Am (show F≠0 by omega);obtain⟨o,g,D⟩:=jN (xs:=f) (i:=0) (by omega) (by omega);have o:aW 0 (ay f)=true:=o;have g:ak (av 0 0) (aW 0 (ay f))=true:=g;have v:gE (aG f 0)=true:=qN z (i:=0) (by omega);have s:=Bh (aG f 0)
 (rw[Cj];(conv=>zeta);rw[ax o,ax g,ax (bn rfl),ax (C6 (by simp;omega)),show bJ .i64 (0:Int) 1=((1:Nat):Int) from rfl])
 have E:=FZ n t 0;have C:=xu (a:=Ak n 0) s (by omega);have h:=zA (a:=Ak n 0) s (by omega);show sel (gE (aG f 0)) (sel (ak true (ak (Ct (Ak n 0) (ou (aG f 0))) (av (ay []) 9000000))) (mW (G+1) [] G a b c m d x f (ay f) ((1:Nat):Int) n q p l j (aF (ve (Ak n 0) (ou (aG f 0)))) (Aj w (feE (aG f 0)) (rC (ou (aG f 0)))) K) none) none=_;rw[ax v,h,show av (ay []) 9000000=true from rfl,ax Gu,znL_loop (G+1) a b c m n d f x q p l j t r K k 1 _ _ G (by omega) (by omega) (by rw[bv_len];omega)];unfold znT;rw[y];have e:aX (aF (ve (Ak n 0) (ou (aG f 0)))) (aF (eT n f k 1))=aF (eT n f (k+1) 0):=by show aF _++aF _=aF (ve (Ak n 0) (ou (aG f 0))++eT n f k 1);unfold aF;rw[aci]
 rw[e];rfl
theorem wZnS_ok (x b:V) (w:Int) (xs zs d:ah) (n:af) (a:ah) (s:ak (Y2 x b) (ak (znK xs n a) (av (ay (bwL b)) 4400000))=true):
  nR rE 15 [.bxa 0 [x,b,.int .i64 w],.agg [.sl 50 [.str,.int .i64,.int .i64,.int .i64,.int .i64,.int .i64,.int .i64,.int .i64,.int .i64,.int .i64,.str] none xs,.sl 54 [.str,.sl 48 [.int .i64,.int .i64,.int .i64,.str,.str,.bool,.int .i64,.int .i64,.int .i64,.int .i64,.int .i64,.int .i64,.int .i64]] none zs,.sl 56 [.str,.str] none d],.agg [.str n,.sl 48 [.int .i64,.int .i64,.int .i64,.str,.str,.bool,.int .i64,.int .i64,.int .i64,.int .i64,.int .i64,.int .i64,.int .i64] none a]]
   (.ni (ak (nilB x) (ieq (ay a) 0)) (.out false (.tup []) [[x,b,.int .i64 (znW w xs n a)]]) (.out false (.tup []) [[.box HL 0,bxN b (znT n a),.int .i64 (znW w xs n a)]])):=by
 obtain⟨r,o⟩:=aO s;obtain⟨i,l⟩:=aO o;unfold znK at i;obtain⟨m,p⟩:=aO i;obtain⟨q,g⟩:=aO p;obtain⟨u,t⟩:=FY g;have j:=l9 q;have c:ak (kP xs) (av (ay a) 1000)=true:=by rw[m,bg (show ay a≤1000 by rw[aD];omega)];rfl
 rcases Rv r with⟨rfl,rfl⟩|⟨bs,rfl,rfl⟩
 ·refine nR.ni (fun h=>?_) (fun h=>?_)
  ·have f:a=[]:=by have:=(aO h).2;rw[aN,aD] at this;exact List.length_eq_zero_iff.1 (by omega)
   subst f;refine nR.out (fQ qI Ny 300 4 ?_)
   (rw[Ru,ax c,Cj];(conv=>zeta);rw[aK (by rfl)])
   rfl
  have f:a≠[]:=fun e=>by subst e;cases h
  refine nR.out (fQ qI Ny 300 4 ?_);rw[Ru,ax c,znN_loop 300 (by omega) xs zs d n n a a _ a xs zs d j g _ some f];rfl
 refine nR.ni (fun h=>by cases h) (fun h=>?_);have l:bs.length≤4400000:=YF (k:=4400000) l;refine nR.out (fQ qI Ny 300 4 ?_);have e:=wZnB_top 300 bs w xs zs d n a some;refine e.trans ?_;rw[ax c];exact znB_loop 300 xs zs d n n a a _ a xs zs d j g some a.length 0 bs _ 300 (by omega) (by omega) (by omega)
theorem wS2_ok:bf rE wS2:=by
 unfold wS2;refine bf.nH (fun args r h=>?_) Ny;all_goals (revert h;intro h;first|unfold wZnS at h)
 all_goals (split at h;rotate_left; · cases h)
 all_goals (simp only[aR,bM] at h;obtain⟨a,rfl⟩:=h)
 ·exact wZnS_ok _ _ _ _ _ _ _ _ a
end Nt.Ev.YtknhlobahpgkeaaGreatDoor.Rx
