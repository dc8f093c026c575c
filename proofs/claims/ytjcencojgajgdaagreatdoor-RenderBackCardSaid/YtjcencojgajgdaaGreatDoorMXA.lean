/-
  Top06: equations of functions, as the evaluator prints them. Lines of rules and of eras: what the fields' texts are made of, and how long the lines are.
-/
import Derived.Test.YtjcencojgajgdaaGreatDoorMN
import Derived.Test.YtjcencojgajgdaaGreatDoorMO
import Derived.Test.YtjcencojgajgdaaGreatDoorMQ
set_option linter.all false
set_option maxRecDepth 100000
namespace Nt.Ev.YtjcencojgajgdaaGreatDoor
open Go Nt.Num Go.Proofs.YtjcencojgajgdaaGreatDoor
variable [kH]
open Nt.Civil
open Nt.Fld
noncomputable def tLeS:aD:=fun a=>match a with|[.str s]=>some (true,.tup [.str (Aq s),.int .i64 (Ak s)])|_=>none
noncomputable def tSl:List (Nat×aD):=(56,tLeS)::[]
noncomputable def tNmS:aD:=fun a=>match a with|[.str s]=>some (true,.int .i64 (dK s))|_=>none
noncomputable def tLtS:aD:=fun a=>match a with|[.str s]=>some (true,.tup [.str (G5 s),.int .i64 (Kr s)])|_=>none
noncomputable def tChS:aD:=fun a=>match a with|[.str s]=>some (true,.int .i64 (iX s))|_=>none
noncomputable def tS0:List (Nat×aD):=(42,tNmS)::(36,tLtS)::(83,tChS)::(48,Db)::(31,zFxS)::(32,zTxS)::(33,ZL)::(34,ZM)::(49,ZN)::(35,ZO)::(37,ZQ)::(52,eNtS)::[]
noncomputable def tRrS:aD:=fun a=>match a with|[.agg [.str n,.int .i64 f,.int .i64 t,.int .i64 m,.int .i64 k,.int .i64 w,.int .i64 d,.int .i64 c,.int .i64 b,.int .i64 v,.str l]]=>some (true,.bool (Qj n f t m k w d c b v l))|_=>none
noncomputable def tErS:aD:=fun a=>match a with|[.agg [.int .i64 o,.int .i64 k,.int .i64 v,.str r,.str q,.bool h,.int .i64 y,.int .i64 m,.int .i64 ok,.int .i64 ow,.int .i64 od,.int .i64 c,.int .i64 b]]=>some (true,.bool (G8 o k v r q h y m ok ow od c b))|_=>none
noncomputable def tS1:List (Nat×aD):=(30,tRrS)::(61,tErS)::tS0
theorem tLT_top (F s) (K:V→Option V):
 bE eE (bC eE tSl F 2) F 36 [V.str s] K=
 let A:=K (V.tup [V.str [],V.int .i64 4]);sel (seq s []) (K (V.tup [V.str [45],V.int .i64 0])) (sel (aL (ieq (Ak s) 0)) A (sel (aL (seq (Aq s) s)) A (K (V.tup [V.str s,V.int .i64 0])))):=by kernel_rfl
theorem tRR_top (F n f t m k w d c b v l) (K:V→Option V):
 bE eE (bC eE tS0 F 3) F 30 [V.agg [V.str n,V.int .i64 f,V.int .i64 t,V.int .i64 m,V.int .i64 k,V.int .i64 w,V.int .i64 d,V.int .i64 c,V.int .i64 b,V.int .i64 v,V.str l]] K=
 let A:=K (V.bool false);sel (ieq (CW f t) 0) (sel (ieq (ZB f) 0) (sel (ieq (Kr l) 0) (sel (ieq (dK n) 0) (sel (qm k w d m) (sel (dO c b) (sel (ax (-10800) v) (K (V.bool (ax v 10800))) A) A) A) A) A) A) A:=by kernel_rfl
theorem tER_top (F o k v r q h y m ok a d c b) (K:V→Option V):
 bE eE (bC eE tS0 F 3) F 61 [V.agg [V.int .i64 o,V.int .i64 k,V.int .i64 v,V.str r,V.str q,V.bool h,V.int .i64 y,V.int .i64 m,V.int .i64 ok,V.int .i64 a,V.int .i64 d,V.int .i64 c,V.int .i64 b]] K=
 let A:=K (V.bool false);let C:=ak (beq h false) (ak (ieq y 0) (ak (ieq m 0) (ak (ak (ieq ok 0) (ak (ieq a 0) (ieq d 0))) (ak (ieq c 0) (ieq b 0)))));let G:=K (V.bool (seq r []));let H:=dO c b;let B:=sel (ieq k 0) A (sel (ieq k 1) A (sel (ieq k 2) A A));let D:=sel (ax (dB .i64 0 10800) v) (sel (ax v 10800) G A) A;let E:=sel (ieq v 0) (K (V.bool (ieq (dK r) 0))) A;let I:=sel (ieq v 0) G A;sel (ax (dB .i64 0 54000) o) (sel (ax o 54000) (sel (ieq (iX q) 0) (sel (aL h) (sel (ieq k 0) (sel C I A) (sel (ieq k 1) (sel C D A) (sel (ieq k 2) (sel C E A) A))) (sel (aR (-32767) y) (sel (aR y 32767) (sel (qm ok a d m) (sel (ieq k 0) (sel H I A) (sel (ieq k 1) (sel H D A) (sel (ieq k 2) (sel H E A) A))) B) B) B)) B) B) B:=by kernel_rfl
theorem tRF_top (F n f t m k w d c b v l) (K:V→Option V):
 bE eE (bC eE tS1 F 2) F 17 [V.agg [V.str n,V.int .i64 f,V.int .i64 t,V.int .i64 m,V.int .i64 k,V.int .i64 w,V.int .i64 d,V.int .i64 c,V.int .i64 b,V.int .i64 v,V.str l]] K=
 sel (aL (Qj n f t m k w d c b v l)) (K (V.tup [V.sl 9 [Kd.str] (some 0) [],V.int .i64 4])) (sel (ak (ax (-9223372036854775808) v) (ax v 9223372036854775807)) (sel (ak (ax (-9223372036854775808) m) (ax m 9223372036854775807)) (K (V.tup [V.sl 9 [Kd.str] (some 0) [V.str n,V.str (La f),V.str (uV f t),V.str [45],V.str (ql m),V.str (fI k w d),V.str (Ai c b),V.str (Aj v),V.str (G5 l)],V.int .i64 0])) none) none):=by kernel_rfl
theorem WR (o k v r q h y m ok a d c b) (K:V→Option V):
 bE eE (bC eE tS1 9 2) 9 43 [V.agg [V.int .i64 o,V.int .i64 k,V.int .i64 v,V.str r,V.str q,V.bool h,V.int .i64 y,V.int .i64 m,V.int .i64 ok,V.int .i64 a,V.int .i64 d,V.int .i64 c,V.int .i64 b]] K=
 let A:=V.str (Aj o);let B:=V.str (text y);let C:=V.int .i64 0;let D:=V.str (fI ok a d);let E:=V.str (ql m);let F:=[Kd.str];let G:=ak (ax (-9223372036854775808) y) (ax y 9223372036854775807);let H:=ak (ax (-9223372036854775808) m) (ax m 9223372036854775807);let I:=aL (ak (ieq ok 0) (ak (ieq a 0) (ieq d 1)));let J:=V.str (Ai c b);let L:=V.str (Aj v);let M:=aL (ak (ieq c 0) (ieq b 0));let N:=V.str [45];let O:=aL (ieq m 1);let P:=[A,V.str r,V.str q];let Q:=[B,E,D,J];let R:=[A,N,V.str q];let S:=[A,L,V.str q];sel (aL (G8 o k v r q h y m ok a d c b)) (K (V.tup [V.sl 9 F (some 0) [],V.int .i64 4])) (sel (ak (ax (-9223372036854775808) o) (ax o 9223372036854775807)) (sel (ak (ax (-9223372036854775808) v) (ax v 9223372036854775807)) (sel (ieq k 0) (sel (aL h) (K (V.tup [V.sl 9 F (some 0) R,C])) (sel G (sel H (sel (dh R Q) (sel M (K (V.tup [V.sl 9 F (some 0) [A,N,V.str q,B,E,D,J],C])) (sel I (K (V.tup [V.sl 9 F none [A,N,V.str q,B,E,D],C])) (sel O (K (V.tup [V.sl 9 F none [A,N,V.str q,B,E],C])) (K (V.tup [V.sl 9 F none [A,N,V.str q,B],C]))))) none) none) none)) (sel (ieq k 1) (sel (aL h) (K (V.tup [V.sl 9 F (some 0) S,C])) (sel G (sel H (sel (dh S Q) (sel M (K (V.tup [V.sl 9 F (some 0) [A,L,V.str q,B,E,D,J],C])) (sel I (K (V.tup [V.sl 9 F none [A,L,V.str q,B,E,D],C])) (sel O (K (V.tup [V.sl 9 F none [A,L,V.str q,B,E],C])) (K (V.tup [V.sl 9 F none [A,L,V.str q,B],C]))))) none) none) none)) (sel (ieq k 2) (sel (aL h) (K (V.tup [V.sl 9 F (some 0) P,C])) (sel G (sel H (sel (dh P Q) (sel M (K (V.tup [V.sl 9 F (some 0) [A,V.str r,V.str q,B,E,D,J],C])) (sel I (K (V.tup [V.sl 9 F none [A,V.str r,V.str q,B,E,D],C])) (sel O (K (V.tup [V.sl 9 F none [A,V.str r,V.str q,B,E],C])) (K (V.tup [V.sl 9 F none [A,V.str r,V.str q,B],C]))))) none) none) none)) none))) none) none):=by kernel_rfl
open Go.RowKit Nt
def GdB (c:UInt8):Prop:=33≤c.toNat∧c.toNat≤126∧c.toNat≠34
def Gd (l:af):Prop:=∀c∈l,GdB c
instance (c:UInt8):Decidable (GdB c):=by unfold GdB;infer_instance
instance (l:af):Decidable (Gd l):=by unfold Gd;infer_instance
theorem gd_app {a b:af} (f:Gd a) (d:Gd b):Gd (a++b):=fun c e=>(List.mem_append.1 e).elim (f c) (d c)
theorem lU:Gd []:=fun _ h=>by cases h
theorem Iz {c:UInt8} (h:GdB c):Gd [c]:=fun x a=>by rw[Ni] at a;rw[a];exact h
theorem Oa (k:Nat) (h:k<10):GdB (digit k):=by unfold GdB;rw[jV k h];omega
theorem Y0 (n:Nat):Gd (gy n):=by
 induction n using Nat.strongRecOn with
 |_ n a=>
  by_cases h:n<10
  ·rw[lq n h];exact Iz (Oa n h)
  rw[oQ n (by omega)];exact gd_app (a (n/10) (by omega)) (Iz (Oa _ (by omega)))
theorem xu (n:Int):Gd (text n):=by
 unfold text;refine gd_app ?_ (Y0 _);split
 ·decide
 exact lU
theorem gd_two (n:Nat) (h:n<100):Gd (aQ.two n):=by unfold aQ.two;exact gd_app (Iz (Oa _ (by omega))) (Iz (Oa _ (by omega)))
theorem Ob (n:Int):Gd (Aj n):=by
 unfold Aj aQ.text;split
 ·exact lU
 split
 ·decide
 refine gd_app (gd_app (gd_app (gd_app ?_ (Y0 _)) (by decide)) (gd_two _ (by omega))) ?_
 ·split
  ·decide
  exact lU
 split
 ·exact gd_app (a:=[58]) (by decide) (gd_two _ (by omega))
 exact lU
theorem gd_mo (m:Int):Gd (ql m):=by
 unfold ql;split
 next h=>
  obtain rfl|rfl|rfl|rfl|rfl|rfl|rfl|rfl|rfl|rfl|rfl|rfl:m=1∨m=2∨m=3∨m=4∨m=5∨m=6∨m=7∨m=8∨m=9∨m=10∨m=11∨m=12:=by omega
  all_goals decide
 next=>exact lU
theorem gd_wt (n:Int):Gd (Qh n):=by
 unfold Qh;split
 next h=>
  obtain rfl|rfl|rfl|rfl|rfl|rfl|rfl:n=0∨n=1∨n=2∨n=3∨n=4∨n=5∨n=6:=by omega
  all_goals decide
 next=>exact lU
theorem gd_ds (k w d:Int):Gd (fI k w d):=by
 unfold fI;split
 ·unfold dsT
  split
  ·exact gd_app (by decide) (gd_wt w)
  split
  ·exact gd_app (gd_app (gd_wt w) (by decide)) (xu d)
  split
  ·exact gd_app (gd_app (gd_wt w) (by decide)) (xu d)
  exact xu d
 exact lU
theorem gd_tc (n b:Int):Gd (Ai n b):=by
 unfold Ai Hz;split
 ·refine gd_app (Ob n) ?_
  unfold letC;split
  ·exact lU
  split<;>decide
 exact lU
theorem gd_fx (n:Int):Gd (La n):=by
 unfold La fw;split
 ·split
  ·show Gd minT;decide
  exact xu n
 exact lU
theorem gd_tx (m n:Int):Gd (uV m n):=by
 unfold uV iC;split
 ·split
  ·exact lU
  split
  ·show Gd Lt;decide
  split
  ·show Gd ZS;decide
  exact xu n
 exact lU
theorem gd_let {c:UInt8} (h:Lb.kz c=true):GdB c:=by unfold Lb.kz at h;rw[lK] at h;unfold GdB;omega
theorem gd_word {s:af} (h:Lb.dw s=true):Gd s:=fun c a=>gd_let (Lb.vY h a)
theorem gd_lt (l:af):Gd (G5 l):=by
 unfold G5 ltP;split
 ·decide
 split
 ·exact lU
 next h=>
  show Gd l;have a:Ak l=0:=by
   by_cases x:Ak l=0
   ·exact x
   exact absurd (.inl x) h
  have c:Aq l=l:=by
   by_cases x:Aq l=l
   ·exact x
   exact absurd (.inr x) h
  unfold Ak leP at a;split at a
  next e=>rw[e];decide
  split at a
  ·cases a
  split at a
  ·cases a
  next hw=>
   refine gd_word ?_
   cases b:Lb.dw l with
   |true=>rfl
   |false=>exact absurd (.inr b) hw
theorem gd_ck (q:af) (h:iX q=0):Gd q:=by
 intro c i;unfold iX at h;by_cases d:16<q.length
 ·rw[if_pos d] at h;cases h
 rw[if_neg d] at h;have g:fkK q≠0:=fun e=>by rw[if_pos e] at h;cases h
 cases b:Lb.kz c with
 |true=>exact gd_let b
 |false=>
  by_cases a:c=37
  ·rw[a];decide
  by_cases f:c=47
  ·rw[f];decide
  exact absurd (Lb.aeD i b a f) g
theorem gd_nmC (k:Nat) (c:UInt8) (h:Kq k c=true):GdB c:=by
 unfold Kq UI UJ at h;simp only[Kn,bF,lK,iJ] at h;unfold GdB;rcases h with((h|h)|h)|⟨_,(((h|h)|h)|h)|h⟩
 all_goals first|omega|(rw[h];decide)
theorem gd_nmF: ∀(s:af) (k:Nat),xZ k s=true→Gd s
 |[],_,_=>lU
 |c::t,k,h=>by unfold xZ at h;rw[bF] at h;exact gd_app (a:=[c]) (Iz (gd_nmC k c h.1)) (gd_nmF t (k+1) h.2)
theorem Q8 (n:af) (h:dK n=0):Gd n:=by
 unfold dK at h;split at h
 ·cases h
 split at h
 next hh=>exact gd_nmF n 0 hh.1
 next=>cases h
def PrB (c:UInt8):Prop:=32≤c.toNat∧c.toNat≤126
def Pr (l:af):Prop:=∀c∈l,PrB c
instance (c:UInt8):Decidable (PrB c):=by unfold PrB;infer_instance
instance (l:af):Decidable (Pr l):=by unfold Pr;infer_instance
theorem mF {a b:af} (f:Pr a) (d:Pr b):Pr (a++b):=fun c e=>(List.mem_append.1 e).elim (f c) (d c)
theorem gd_pr {a:af} (h:Gd a):Pr a:=fun c b=>by have:=h c b;unfold GdB at this;unfold PrB;omega
theorem H7 {a:af} (h:Gd a):a.contains 34=false:=by
 cases e:a.contains 34 with
 |false=>rfl
 |true=>rw[abt] at e;have:=h _ e;exact absurd this (by decide)
theorem pr_tx {a:af} (h:Gd a):Pr (ou a).1:=by
 unfold ou;split
 ·exact fun _ h=>by cases h
 split
 ·exact mF (mF (by decide) (gd_pr h)) (by decide)
 exact gd_pr h
theorem tx_len (x:af):(ou x).1.length≤x.length+2:=by
 unfold ou
 (repeat' split)<;>simp
theorem Y1: ∀(l:List (af)),(∀x∈l,Gd x)→Pr (bX l).1∧(bX l).1.length≤nU l+3*l.length
 |[],_=>⟨fun _ h=>(by cases h),Ko _⟩
 |x::l,h=>by
  obtain⟨c,i⟩:=Y1 l fun y a=>h y (uO _ a)
  have b:=h x rf;have d:=Pf (H7 b);have g:=r9 l fun y a=>H7 (h y (uO _ a))
  have e:(bX (x::l)).1=[32]++(ou x).1++(bX l).1:=by show(if(ou x).2=0 then(if(bX l).2=0 then(([32]++(ou x).1++(bX l).1,0):af×Int) else([],(bX l).2)) else([],(ou x).2)).1=_;rw[if_pos d,if_pos g]
  rw[e];refine⟨mF (mF (by decide) (pr_tx b)) c,?_⟩;have:=tx_len x;have f:nU (x::l)=x.length+nU l:=rfl;rw[iW,iW,dN,dN,mr,f];omega
theorem Gp (l:List (af)) (h: ∀x∈l,Gd x) (i:l.length≤16) (k:nU l≤400):(eF l).2=0∧wN (eF l).1=(l,0)∧Pr (eF l).1∧(eF l).1.length≤nU l+3*l.length:=by
 have e:=r9 l fun y f=>H7 (h y f)
 have a:eF l=((bX l).1.drop 1,0):=by unfold eF;rw[if_neg (by omega),if_pos e]
 have b:(eF l).2=0:=by rw[a]
 obtain⟨d,j⟩:=Y1 l h;refine⟨b,YB l b,?_,?_⟩
 ·rw[a];exact fun c g=>d c (acH g)
 rw[a];show((bX l).1.drop 1).length≤_;rw[Ui];omega
theorem odd_no (s:af) (h:Pr s):Kz s=false:=by
 unfold Kz;rw[abz];intro c a;have:=h c a;unfold PrB at this;rw[bB (show 32≤(c.toNat:Int) by omega),bB (show(c.toNat:Int)≤126 by omega)]
 cases ieq (c.toNat:Int) 9<;>decide
theorem Gq (s:af) (h:Pr s) (a:s.length≤511):Al s=0:=by unfold Al;rw[bB (by rw[aJ];omega),odd_no s h];rfl
def rfS (n:af) (f t m k w d c b v:Int) (l:af):List (af):=[n,La f,uV f t,[45],ql m,fI k w d,Ai c b,Aj v,G5 l]
theorem Y2 (n:af) (f t m k w d c b v:Int) (l:af) (h:Qj n f t m k w d c b v l=true):(∀x∈rfS n f t m k w d c b v l,Gd x)∧nU (rfS n f t m k w d c b v l)≤400:=by
 rw[O4] at h;obtain⟨g,p,a,i,y,j⟩:=h;constructor
 ·intro x e
  unfold rfS at e;simp only[ZA,ab5,or_false] at e;rcases e with rfl|rfl|rfl|rfl|rfl|rfl|rfl|rfl|rfl
  ·exact Q8 _ g
  ·exact gd_fx _
  ·exact gd_tx _ _
  ·decide
  ·exact gd_mo _
  ·exact gd_ds _ _ _
  ·exact gd_tc _ _
  ·exact Ob _
  exact gd_lt _
 have n1:=tO n g;have u:(La f).length≤25:=Yn f;have r:(uV f t).length≤25:=Yo f t;have s:=BB k w d;unfold qm at a;rw[bF,lK] at a;obtain⟨m1,o,q⟩:=Bf m a.2.1 a.2.2.1;obtain⟨A,C,D,G⟩:=Bg c b i;obtain⟨E,F,z⟩:=xq v (by omega) (by omega);have B:=(Yl l j).1;show n.length+((La f).length+((uV f t).length+(1+((ql m).length+((fI k w d).length+((Ai c b).length+((Aj v).length+((G5 l).length+0))))))))≤400;omega
def QN (h:Bool) (y m ok d a c b:Int):List (af):=sel h (sel (ak (ieq c 0) (ieq b 0)) (sel (ak (ieq ok 0) (ak (ieq d 0) (ieq a 1))) (sel (ieq m 1) [text y] [text y,ql m]) [text y,ql m,fI ok d a]) [text y,ql m,fI ok d a,Ai c b]) []
def efS (o k v:Int) (r q:af) (h:Bool) (y m ok d a c b:Int):List (af):=Aj o::UC k v r::q::QN h y m ok d a c b
theorem Pm (o k v:Int) (r q:af) (h:Bool) (y m ok d a c b:Int):Ql o k v r q h y m ok d a c b=bI (efS o k v r q h y m ok d a c b):=by
 unfold Ql efS Lc QN
 cases h<;>cases ak (ieq c 0) (ieq b 0)<;>cases ak (ieq ok 0) (ak (ieq d 0) (ieq a 1))<;>cases ieq m 1<;>rfl
theorem afo (y:Int) (a: -32767<y) (b:y<32767):(text y).length≤7:=by
 have h:(gy y.natAbs).length≤5:=(rW 5 y.natAbs (by omega) (by omega)).1;unfold text;rw[iW];split
 ·rw[dN,mr];omega
 rw[mr];omega
theorem Y3 (o k v:Int) (r q:af) (h:Bool) (y m ok a e c b:Int) (t:G8 o k v r q h y m ok a e c b=true):
  (∀x∈efS o k v r q h y m ok a e c b,Gd x)∧nU (efS o k v r q h y m ok a e c b)≤400∧(efS o k v r q h y m ok a e c b).length≤7:=by
 rw[Pb] at t;obtain⟨⟨N,L⟩,n,hE,j⟩:=t;obtain⟨R,S,K⟩:=xq o (by omega) (by omega);have u:Gd (UC k v r)∧(UC k v r).length≤64:=by
  unfold UC
  cases l:ieq k 0 with
  |true=>exact⟨(show Gd [45] by decide),(show([45]:af).length≤64 by decide)⟩
  |false=>
  cases s:ieq k 1 with
  |true=>rw[l,s] at j;have f:(ax (-10800) v&&(ax v 10800&&seq r []))=true:=j;rw[bF,bF,aA,aA] at f;obtain⟨J,Q,F⟩:=xq v (by omega) (by omega);exact⟨Ob v,by show(Aj v).length≤64;omega⟩
  |false=>
   rw[l,s] at j
   cases p:ieq k 2 with
   |false=>rw[p] at j;exact absurd (show false=true from j) (by decide)
   |true=>rw[p] at j;have f:(ieq v 0&&ieq (dK r) 0)=true:=j;rw[bF,aO,aO] at f;exact⟨Q8 r f.2,tO r f.2⟩
 have H:=O9 q n;have z:(∀x∈QN h y m ok a e c b,Gd x)∧nU (QN h y m ok a e c b)≤200∧(QN h y m ok a e c b).length≤4:=by
  cases h with
  |false=>exact⟨fun _ h=>(by cases h),Ko _,Ko _⟩
  |true=>
   rw[Gj] at hE;obtain⟨⟨w,C⟩,A,B⟩:=hE;have g:=A;unfold qm at g;rw[bF,lK] at g;obtain⟨m1,D,E⟩:=Bf m g.2.1 g.2.2.1;obtain⟨M,O,P,T⟩:=Bg c b B;have I:=BB ok a e;have n1:=afo y w C;have G: ∀x∈[text y,ql m,fI ok a e,Ai c b],Gd x:=by
    intro x d;simp only[ZA,ab5,or_false] at d;rcases d with rfl|rfl|rfl|rfl
    ·exact xu _
    ·exact gd_mo _
    ·exact gd_ds _ _ _
    exact gd_tc _ _
   unfold QN;refine⟨?_,?_,?_⟩
   ·cases ak (ieq c 0) (ieq b 0)<;>cases ak (ieq ok 0) (ak (ieq a 0) (ieq e 1))<;>cases ieq m 1
    all_goals (intro x d;refine G x ?_)
    all_goals first
     |exact abK (i:=4) d
     |exact abK (i:=3) d
     |exact abK (i:=2) d
     |exact abK (i:=1) d
   ·cases ak (ieq c 0) (ieq b 0)<;>cases ak (ieq ok 0) (ak (ieq a 0) (ieq e 1))<;>cases ieq m 1
    all_goals first
     |(show(text y).length+((ql m).length+((fI ok a e).length+((Ai c b).length+0)))≤200;omega)
     |(show(text y).length+((ql m).length+((fI ok a e).length+0))≤200;omega)
     |(show(text y).length+((ql m).length+0)≤200;omega)
     |(show(text y).length+0≤200;omega)
   cases ak (ieq c 0) (ieq b 0)<;>cases ak (ieq ok 0) (ak (ieq a 0) (ieq e 1))<;>cases ieq m 1<;>exact aa3 rfl
 refine⟨?_,?_,?_⟩
 ·intro x d
  unfold efS at d;rcases List.mem_cons.1 d with rfl|d
  ·exact Ob _
  rcases List.mem_cons.1 d with rfl|d
  ·exact u.1
  rcases List.mem_cons.1 d with rfl|d
  ·exact gd_ck _ n
  exact z.1 x d
 ·show(Aj o).length+((UC k v r).length+(q.length+nU (QN h y m ok a e c b)))≤400
  omega
 show(QN h y m ok a e c b).length+1+1+1≤7;omega
end Nt.Ev.YtjcencojgajgdaaGreatDoor
namespace Nt.Ev.YtjcencojgajgdaaGreatDoor.T6
open Go Nt.Num Go.Proofs.YtjcencojgajgdaaGreatDoor
variable [kH]
class TA where
 (dK:af→Int)
 (rB:af→Int→Int→Int→Int→Int→Int→Int→Int→Int→af→Bool)
 (rG:af→Int→Int→Int→Int→Int→Int→Int→Int→Int→af→Bool)
 (rfL:af→Int→Int→Int→Int→Int→Int→Int→Int→Int→af→ah)
 (eB:Int→Int→Int→af→af→Bool→Int→Int→Int→Int→Int→Int→Int→Bool)
 (eG:Int→Int→Int→af→af→Bool→Int→Int→Int→Int→Int→Int→Int→Bool)
 (Ql:Int→Int→Int→af→af→Bool→Int→Int→Int→Int→Int→Int→Int→ah)
 (jnG:ah→Bool)
 (tC:ah→af)
 (ofG:af→Bool)
 (dm:af→ah)
 (rdG:ah→Bool)
 (edG:ah→Bool)
 (ckG:af→Bool)
 (Uq:ah→af)
 (Ur:ah→Int)
 (Us:ah→Int)
 (Ut:ah→Int)
 (Uu:ah→Int)
 (Uv:ah→Int)
 (Uw:ah→Int)
 (Ux:ah→Int)
 (Uy:ah→Int)
 (Uz:ah→Int)
 (zh:ah→af)
 (T7:ah→Int)
 (Xb:ah→Int)
 (T8:ah→Int)
 (UA:ah→af)
 (UB:ah→af)
 (FF:ah→Bool)
 (T9:ah→Int)
 (Ua:ah→Int)
 (Xc:ah→Int)
 (Xd:ah→Int)
 (Ay:ah→Int)
 (Az:ah→Int)
 (AA:ah→Int)
noncomputable abbrev dK [TA]:af→Int:=TA.dK
noncomputable abbrev rB [TA]:af→Int→Int→Int→Int→Int→Int→Int→Int→Int→af→Bool:=TA.rB
noncomputable abbrev rG [TA]:af→Int→Int→Int→Int→Int→Int→Int→Int→Int→af→Bool:=TA.rG
noncomputable abbrev rfL [TA]:af→Int→Int→Int→Int→Int→Int→Int→Int→Int→af→ah:=TA.rfL
noncomputable abbrev eB [TA]:Int→Int→Int→af→af→Bool→Int→Int→Int→Int→Int→Int→Int→Bool:=TA.eB
noncomputable abbrev eG [TA]:Int→Int→Int→af→af→Bool→Int→Int→Int→Int→Int→Int→Int→Bool:=TA.eG
noncomputable abbrev Ql [TA]:Int→Int→Int→af→af→Bool→Int→Int→Int→Int→Int→Int→Int→ah:=TA.Ql
noncomputable abbrev jnG [TA]:ah→Bool:=TA.jnG
noncomputable abbrev tC [TA]:ah→af:=TA.tC
noncomputable abbrev ofG [TA]:af→Bool:=TA.ofG
noncomputable abbrev dm [TA]:af→ah:=TA.dm
noncomputable abbrev rdG [TA]:ah→Bool:=TA.rdG
noncomputable abbrev edG [TA]:ah→Bool:=TA.edG
noncomputable abbrev ckG [TA]:af→Bool:=TA.ckG
noncomputable abbrev Uq [TA]:ah→af:=TA.Uq
noncomputable abbrev Ur [TA]:ah→Int:=TA.Ur
noncomputable abbrev Us [TA]:ah→Int:=TA.Us
noncomputable abbrev Ut [TA]:ah→Int:=TA.Ut
noncomputable abbrev Uu [TA]:ah→Int:=TA.Uu
noncomputable abbrev Uv [TA]:ah→Int:=TA.Uv
noncomputable abbrev Uw [TA]:ah→Int:=TA.Uw
noncomputable abbrev Ux [TA]:ah→Int:=TA.Ux
noncomputable abbrev Uy [TA]:ah→Int:=TA.Uy
noncomputable abbrev Uz [TA]:ah→Int:=TA.Uz
noncomputable abbrev zh [TA]:ah→af:=TA.zh
noncomputable abbrev T7 [TA]:ah→Int:=TA.T7
noncomputable abbrev Xb [TA]:ah→Int:=TA.Xb
noncomputable abbrev T8 [TA]:ah→Int:=TA.T8
noncomputable abbrev UA [TA]:ah→af:=TA.UA
noncomputable abbrev UB [TA]:ah→af:=TA.UB
noncomputable abbrev FF [TA]:ah→Bool:=TA.FF
noncomputable abbrev T9 [TA]:ah→Int:=TA.T9
noncomputable abbrev Ua [TA]:ah→Int:=TA.Ua
noncomputable abbrev Xc [TA]:ah→Int:=TA.Xc
noncomputable abbrev Xd [TA]:ah→Int:=TA.Xd
noncomputable abbrev Ay [TA]:ah→Int:=TA.Ay
noncomputable abbrev Az [TA]:ah→Int:=TA.Az
noncomputable abbrev AA [TA]:ah→Int:=TA.AA
variable [TA]
end Nt.Ev.YtjcencojgajgdaaGreatDoor.T6
namespace Nt.Ev.YtjcencojgajgdaaGreatDoor
open Go Go.RowKit Nt Nt.Num Nt.Civil Nt.Fld Go.Proofs.YtjcencojgajgdaaGreatDoor
variable [kH]
theorem Y4 (s:af) (a:true=true):aj eE 42 [.str s] (.int .i64 (dK s)):=by
 by_cases h:s.length≤1000
 ·exact Au (DV s (bn (by rw[aJ];omega)))
 refine Au (au XA NU 100 2 ?_);rw[MF];unfold dK;rw[av (bu (by rw[aJ];omega)),if_pos (by omega)]
theorem tChS_ok (s:af) (a:true=true):aj eE 83 [.str s] (.int .i64 (iX s)):=by
 by_cases h:s.length≤900
 ·exact Yz s (bn (by rw[aJ];omega))
 refine Au (toZf (au gJ NW 5 2 ?_));rw[zY];unfold iX;rw[av (bu (by rw[aJ];omega)),if_pos (by omega)]
theorem tLeS_ok (s:af) (b:true=true):aj eE 56 [.str s] (.tup [.str (Aq s),.int .i64 (Ak s)]):=by
 by_cases h:s.length≤900
 ·exact Au (RL s (bn (by rw[aJ];omega)))
 refine Au (toZf (au gJ NV 5 2 ?_))
 (rw[EV];(conv=>zeta))
 have a:s≠[45]:=fun e=>by rw[e] at h;exact h (by decide)
 unfold Aq Ak leP;rw[if_neg a,if_pos (by omega),aI (by rw[←ac9,dx];exact a),av (bu (by rw[aJ];omega))]
theorem tSl_ok:aZ eE tSl:=by
 unfold tSl;refine aZ.cons (fun args r h=>?_) aZ.nil;all_goals (revert h;intro h;first|unfold tLeS at h)
 all_goals (split at h;rotate_left; · cases h)
 all_goals (simp only[aT,bP] at h;obtain⟨a,rfl⟩:=h)
 ·exact tLeS_ok _ rfl
theorem tLtS_ok (s:af) (d:true=true):aj eE 36 [.str s] (.tup [.str (G5 s),.int .i64 (Kr s)]):=by
 refine au iZ tSl_ok 5 2 ?_
 (rw[tLT_top];(conv=>zeta))
 unfold G5 Kr ltP;by_cases b:s=[]
 ·rw[if_pos b,av (by rw[dx];exact b)]
 rw[if_neg b,aI (by rw[←ac9,dx];exact b)];by_cases a:Ak s=0
 ·by_cases c:Aq s=s
  ·rw[if_neg (fun e=>e.elim (fun x=>x a) (fun x=>x c)),aI (by rw[bA a];rfl),aI (by rw[show seq (Aq s) s=true by rw[dx];exact c];rfl)]
  rw[if_pos (.inr c),aI (by rw[bA a];rfl),av (by rw[bY,dx];exact c)]
 rw[if_pos (.inl a),av (by rw[bY,aO];exact a)]
theorem Vp:aZ eE tS0:=by
 unfold tS0;refine aZ.cons (fun args r h=>?_) (aZ.cons (fun args r h=>?_) (aZ.cons (fun args r h=>?_) (aZ.cons (fun args r h=>?_) (aZ.cons (fun args r h=>?_) (aZ.cons (fun args r h=>?_) (aZ.cons (fun args r h=>?_) (aZ.cons (fun args r h=>?_) (aZ.cons (fun args r h=>?_) (aZ.cons (fun args r h=>?_) (aZ.cons (fun args r h=>?_) (aZ.cons (fun args r h=>?_) aZ.nil)))))))))));all_goals (revert h;intro h;first|unfold tNmS at h|unfold tLtS at h|unfold tChS at h|unfold Db at h|unfold zFxS at h|unfold zTxS at h|unfold ZL at h|unfold ZM at h|unfold ZN at h|unfold ZO at h|unfold ZQ at h|unfold eNtS at h)
 all_goals (split at h;rotate_left; · cases h)
 all_goals (simp only[aT,bP] at h;obtain⟨a,rfl⟩:=h)
 ·exact Y4 _ rfl
 ·exact tLtS_ok _ rfl
 ·exact tChS_ok _ rfl
 ·exact Au (DW _ _ _ _ rfl)
 ·exact Au (Yi _ rfl)
 ·exact Au (Yj _ _ rfl)
 ·exact Au (OW _ _ _ rfl)
 ·exact Au (OX _ _ rfl)
 ·exact Au (OY _ _ rfl)
 ·exact Au (OZ _ a)
 ·exact Au (O0 _ a)
 exact Yy _ a
theorem tRrS_ok (n:af) (f t m k w d c b v:Int) (l:af) (a:true=true):aj eE 30 [.agg [.str n,.int .i64 f,.int .i64 t,.int .i64 m,.int .i64 k,.int .i64 w,.int .i64 d,.int .i64 c,.int .i64 b,.int .i64 v,.str l]] (.bool (Qj n f t m k w d c b v l)):=by
 refine au iZ Vp 5 3 ?_
 (rw[tRR_top];(conv=>zeta))
 unfold Qj;rw[←yr_eq]
 cases ieq (CW f t) 0<;>cases ieq (ZB f) 0<;>cases ieq (Kr l) 0<;>cases ieq (dK n) 0<;>cases qm k w d m<;>cases dO c b<;>cases ax (-10800) v<;>cases ax v 10800<;>rfl
theorem tErS_ok (o k v:Int) (r q:af) (h:Bool) (y m ok a d c b:Int) (f:true=true):aj eE 61 [.agg [.int .i64 o,.int .i64 k,.int .i64 v,.str r,.str q,.bool h,.int .i64 y,.int .i64 m,.int .i64 ok,.int .i64 a,.int .i64 d,.int .i64 c,.int .i64 b]] (.bool (G8 o k v r q h y m ok a d c b)):=by
 refine au iZ Vp 5 3 ?_
 (rw[tER_top];(conv=>zeta);rw[show dB .i64 0 54000= -54000 by decide,show dB .i64 0 10800= -10800 by decide])
 unfold G8 enR
 cases ax (-54000) o with
 |false=>cases ieq k 0<;>cases ieq k 1<;>cases ieq k 2<;>rfl
 |true=>
 cases ax o 54000 with
 |false=>cases ieq k 0<;>cases ieq k 1<;>cases ieq k 2<;>rfl
 |true=>
 cases ieq (iX q) 0 with
 |false=>cases ieq k 0<;>cases ieq k 1<;>cases ieq k 2<;>rfl
 |true=>
 cases h with
 |false=>
  have e:ak (beq false false) (ak (ieq y 0) (ak (ieq m 0) (ak (ak (ieq ok 0) (ak (ieq a 0) (ieq d 0))) (ak (ieq c 0) (ieq b 0)))))=(ak (ieq y 0) (ak (ieq m 0) (ak (ak (ieq ok 0) (ak (ieq a 0) (ieq d 0))) (ak (ieq c 0) (ieq b 0))))):=rfl;rw[e];generalize ak (ieq y 0) (ak (ieq m 0) (ak (ak (ieq ok 0) (ak (ieq a 0) (ieq d 0))) (ak (ieq c 0) (ieq b 0))))=z
  cases z with
  |false=>cases ieq k 0<;>cases ieq k 1<;>cases ieq k 2<;>rfl
  |true=>
  cases ieq k 0 with
  |true=>cases ieq v 0<;>rfl
  |false=>
  cases ieq k 1 with
  |true=>cases ax (-10800) v<;>cases ax v 10800<;>rfl
  |false=>cases ieq k 2<;>cases ieq v 0<;>rfl
 |true=>
  cases aR (-32767) y with
  |false=>cases ieq k 0<;>cases ieq k 1<;>cases ieq k 2<;>rfl
  |true=>
  cases aR y 32767 with
  |false=>cases ieq k 0<;>cases ieq k 1<;>cases ieq k 2<;>rfl
  |true=>
  cases qm ok a d m with
  |false=>cases ieq k 0<;>cases ieq k 1<;>cases ieq k 2<;>rfl
  |true=>
  cases dO c b with
  |false=>cases ieq k 0<;>cases ieq k 1<;>cases ieq k 2<;>rfl
  |true=>
  cases ieq k 0 with
  |true=>cases ieq v 0<;>rfl
  |false=>
  cases ieq k 1 with
  |true=>cases ax (-10800) v<;>cases ax v 10800<;>rfl
  |false=>cases ieq k 2<;>cases ieq v 0<;>rfl
theorem tS1_ok:aZ eE tS1:=by
 unfold tS1;refine aZ.cons (fun args r h=>?_) (aZ.cons (fun args r h=>?_) Vp);all_goals (revert h;intro h;first|unfold tRrS at h|unfold tErS at h)
 all_goals (split at h;rotate_left; · cases h)
 all_goals (simp only[aT,bP] at h;obtain⟨a,rfl⟩:=h)
 ·exact tRrS_ok _ _ _ _ _ _ _ _ _ _ _ rfl
 exact tErS_ok _ _ _ _ _ _ _ _ _ _ _ _ _ rfl
theorem tRFS_ok (n:af) (f t m k w d c b v:Int) (l:af) (g:ak (ak (ax (-9223372036854775808) v) (ax v 9223372036854775807)) (ak (ax (-9223372036854775808) m) (ax m 9223372036854775807))=true):aj eE 17 [.agg [.str n,.int .i64 f,.int .i64 t,.int .i64 m,.int .i64 k,.int .i64 w,.int .i64 d,.int .i64 c,.int .i64 b,.int .i64 v,.str l]] (.tup [.sl 9 [.str] none (rfV n f t m k w d c b v l),.int .i64 (rfE n f t m k w d c b v l)]):=by
 obtain⟨e,a⟩:=aN g;refine Ch (L:=0) iZ tS1_ok 5 2 ?_;rw[tRF_top,e,a];unfold rfV rfE
 cases h:Qj n f t m k w d c b v l<;>exact .inl rfl
theorem tEFS_ok (o k v:Int) (r q:af) (h:Bool) (y m ok a d c b:Int) (s:ak (ak (ak (ax (-9223372036854775808) o) (ax o 9223372036854775807)) (ak (ax (-9223372036854775808) v) (ax v 9223372036854775807))) (ak (ak (ax (-9223372036854775808) y) (ax y 9223372036854775807)) (ak (ax (-9223372036854775808) m) (ax m 9223372036854775807)))=true):aj eE 43 [.agg [.int .i64 o,.int .i64 k,.int .i64 v,.str r,.str q,.bool h,.int .i64 y,.int .i64 m,.int .i64 ok,.int .i64 a,.int .i64 d,.int .i64 c,.int .i64 b]] (.tup [.sl 9 [.str] none (efV o k v r q h y m ok a d c b),.int .i64 (efE o k v r q h y m ok a d c b)]):=by
 obtain⟨f,j⟩:=aN s;obtain⟨p,i⟩:=aN f;obtain⟨n,e⟩:=aN j;refine Ch (L:=0) iZ tS1_ok 9 2 ?_
 (rw[WR];(conv=>zeta))
 unfold efV efE
 cases l:G8 o k v r q h y m ok a d c b with
 |false=>exact .inl rfl
 |true=>
  have g:=erR_k o k v r q h y m ok a d c b l;rw[aI (show aL true=false from rfl),av p,av i,n,e];unfold Ql UC Lc;rcases g with rfl|rfl|rfl;all_goals
   cases h
   ·first|exact .inl rfl|exact .inr rfl
   cases ak (ieq c 0) (ieq b 0)<;>cases ak (ieq ok 0) (ak (ieq a 0) (ieq d 1))<;>cases ieq m 1<;>first|exact .inl rfl|exact .inr rfl
def rRng (m v:Int):Bool:=(ak (ak (ax (-9223372036854775808) v) (ax v 9223372036854775807)) (ak (ax (-9223372036854775808) m) (ax m 9223372036854775807)))
def eRng (o v y m:Int):Bool:=(ak (ak (ak (ax (-9223372036854775808) o) (ax o 9223372036854775807)) (ak (ax (-9223372036854775808) v) (ax v 9223372036854775807))) (ak (ak (ax (-9223372036854775808) y) (ax y 9223372036854775807)) (ak (ax (-9223372036854775808) m) (ax m 9223372036854775807))))
theorem Pn (l:List (af)):tC (bI l)=(eF l).1∧rz (bI l)=(eF l).2∧jnC (bI l)=decide (nU l≤3000000):=by unfold tC rz jnC;rw[Sb];exact⟨rfl,rfl,rfl⟩
namespace T6
noncomputable instance tA:TA where
 dK:=Nt.Ev.YtjcencojgajgdaaGreatDoor.dK
 rB:=fun n f t m k w d c b v l=>ak (aL (Qj n f t m k w d c b v l)) (rRng m v)
 rG:=fun n f t m k w d c b v l=>ak (Qj n f t m k w d c b v l) (rRng m v)
 rfL:=Nt.Ev.YtjcencojgajgdaaGreatDoor.rfL
 eB:=fun o k v r q h y m ok ow od c b=>ak (aL (G8 o k v r q h y m ok ow od c b)) (eRng o v y m)
 eG:=fun o k v r q h y m ok ow od c b=>ak (G8 o k v r q h y m ok ow od c b) (eRng o v y m)
 Ql:=Nt.Ev.YtjcencojgajgdaaGreatDoor.Ql
 jnG:=fun xs=>ak (jnC xs) (ieq (rz xs) 0)
 tC:=Nt.Ev.YtjcencojgajgdaaGreatDoor.tC
 ofG:=fun s=>ak (ax (aB s) 4000000) (ieq (Ns s) 0)
 dm:=Nt.Ev.YtjcencojgajgdaaGreatDoor.dm
 rdG:=fun xs=>ak (gL xs) (ieq (Qz xs) 0)
 edG:=fun xs=>ak (gL xs) (ieq (kT xs) 0)
 ckG:=fun s=>ak (ax (aB s) 4000000) (ieq (Al s) 0)
 Uq:=Nt.Ev.YtjcencojgajgdaaGreatDoor.Uq
 Ur:=Nt.Ev.YtjcencojgajgdaaGreatDoor.Ur
 Us:=Nt.Ev.YtjcencojgajgdaaGreatDoor.Us
 Ut:=Nt.Ev.YtjcencojgajgdaaGreatDoor.Ut
 Uu:=Nt.Ev.YtjcencojgajgdaaGreatDoor.Uu
 Uv:=Nt.Ev.YtjcencojgajgdaaGreatDoor.Uv
 Uw:=Nt.Ev.YtjcencojgajgdaaGreatDoor.Uw
 Ux:=Nt.Ev.YtjcencojgajgdaaGreatDoor.Ux
 Uy:=Nt.Ev.YtjcencojgajgdaaGreatDoor.Uy
 Uz:=Nt.Ev.YtjcencojgajgdaaGreatDoor.Uz
 zh:=Nt.Ev.YtjcencojgajgdaaGreatDoor.zh
 T7:=Nt.Ev.YtjcencojgajgdaaGreatDoor.T7
 Xb:=Nt.Ev.YtjcencojgajgdaaGreatDoor.Xb
 T8:=Nt.Ev.YtjcencojgajgdaaGreatDoor.T8
 UA:=Nt.Ev.YtjcencojgajgdaaGreatDoor.UA
 UB:=Nt.Ev.YtjcencojgajgdaaGreatDoor.UB
 FF:=Nt.Ev.YtjcencojgajgdaaGreatDoor.FF
 T9:=Nt.Ev.YtjcencojgajgdaaGreatDoor.T9
 Ua:=Nt.Ev.YtjcencojgajgdaaGreatDoor.Ua
 Xc:=Nt.Ev.YtjcencojgajgdaaGreatDoor.Xc
 Xd:=Nt.Ev.YtjcencojgajgdaaGreatDoor.Xd
 Ay:=Nt.Ev.YtjcencojgajgdaaGreatDoor.Ay
 Az:=Nt.Ev.YtjcencojgajgdaaGreatDoor.Az
 AA:=Nt.Ev.YtjcencojgajgdaaGreatDoor.AA
theorem n1:aL (ieq (dK [49]) 10)=false:=by
 have h:Nt.Ev.YtjcencojgajgdaaGreatDoor.dK [49]=10:=by decide
 show aL (ieq (Nt.Ev.YtjcencojgajgdaaGreatDoor.dK [49]) 10)=false;rw[h];rfl
theorem bN:aL true=false:=rfl
end T6
end Nt.Ev.YtjcencojgajgdaaGreatDoor
