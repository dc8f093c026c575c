/-
  Top06: equations of functions, as the evaluator prints them. Lines of rules and of eras: what the fields' texts are made of, and how long the lines are.
-/
import Derived.Test.YtknhlobahpgkeaaGreatDoorMN
import Derived.Test.YtknhlobahpgkeaaGreatDoorMO
import Derived.Test.YtknhlobahpgkeaaGreatDoorMQ
set_option linter.all false
set_option maxRecDepth 100000
namespace Nt.Ev.YtknhlobahpgkeaaGreatDoor
open Go Nt.Num Go.Proofs.YtknhlobahpgkeaaGreatDoor
variable [kM]
open Nt.Civil
open Nt.Fld
noncomputable def tLeS:aC:=fun a=>match a with|[.str s]=>some (true,.tup [.str (Aq s),.int .i64 (Ah s)])|_=>none
noncomputable def tSl:List (Nat×aC):=(58,tLeS)::[]
noncomputable def tNmS:aC:=fun a=>match a with|[.str s]=>some (true,.int .i64 (dG s))|_=>none
noncomputable def tLtS:aC:=fun a=>match a with|[.str s]=>some (true,.tup [.str (Gg s),.int .i64 (JV s)])|_=>none
noncomputable def tChS:aC:=fun a=>match a with|[.str s]=>some (true,.int .i64 (ja s))|_=>none
noncomputable def tS0:List (Nat×aC):=(38,tNmS)::(32,tLtS)::(87,tChS)::(50,CV)::(27,zFxS)::(28,zTxS)::(29,YL)::(30,YM)::(51,YN)::(31,YO)::(33,YP)::(54,eNtS)::[]
noncomputable def tRrS:aC:=fun a=>match a with|[.agg [.str n,.int .i64 f,.int .i64 t,.int .i64 m,.int .i64 k,.int .i64 w,.int .i64 d,.int .i64 c,.int .i64 b,.int .i64 v,.str l]]=>some (true,.bool (Pm n f t m k w d c b v l))|_=>none
noncomputable def tErS:aC:=fun a=>match a with|[.agg [.int .i64 o,.int .i64 k,.int .i64 v,.str r,.str q,.bool h,.int .i64 y,.int .i64 m,.int .i64 ok,.int .i64 ow,.int .i64 od,.int .i64 c,.int .i64 b]]=>some (true,.bool (Gj o k v r q h y m ok ow od c b))|_=>none
noncomputable def tS1:List (Nat×aC):=(26,tRrS)::(63,tErS)::tS0
theorem tLT_top (F s) (K:V→Option V):
 bA eE (bu eE tSl F 2) F 32 [V.str s] K=
 let A:=K (V.tup [V.str [],V.int .i64 4]);sel (seq s []) (K (V.tup [V.str [45],V.int .i64 0])) (sel (aL (ieq (Ah s) 0)) A (sel (aL (seq (Aq s) s)) A (K (V.tup [V.str s,V.int .i64 0])))):=by kernel_rfl
theorem tRR_top (F n f t m k w d c b v l) (K:V→Option V):
 bA eE (bu eE tS0 F 3) F 26 [V.agg [V.str n,V.int .i64 f,V.int .i64 t,V.int .i64 m,V.int .i64 k,V.int .i64 w,V.int .i64 d,V.int .i64 c,V.int .i64 b,V.int .i64 v,V.str l]] K=
 let A:=K (V.bool false);sel (ieq (CF f t) 0) (sel (ieq (YA f) 0) (sel (ieq (JV l) 0) (sel (ieq (dG n) 0) (sel (oQ k w d m) (sel (dJ c b) (sel (av (-10800) v) (K (V.bool (av v 10800))) A) A) A) A) A) A) A:=by kernel_rfl
theorem tER_top (F o k v r q h y m ok a d c b) (K:V→Option V):
 bA eE (bu eE tS0 F 3) F 63 [V.agg [V.int .i64 o,V.int .i64 k,V.int .i64 v,V.str r,V.str q,V.bool h,V.int .i64 y,V.int .i64 m,V.int .i64 ok,V.int .i64 a,V.int .i64 d,V.int .i64 c,V.int .i64 b]] K=
 let A:=K (V.bool false);let C:=ak (beq h false) (ak (ieq y 0) (ak (ieq m 0) (ak (ak (ieq ok 0) (ak (ieq a 0) (ieq d 0))) (ak (ieq c 0) (ieq b 0)))));let G:=K (V.bool (seq r []));let H:=dJ c b;let B:=sel (ieq k 0) A (sel (ieq k 1) A (sel (ieq k 2) A A));let D:=sel (av (dw .i64 0 10800) v) (sel (av v 10800) G A) A;let E:=sel (ieq v 0) (K (V.bool (ieq (dG r) 0))) A;let I:=sel (ieq v 0) G A;sel (av (dw .i64 0 54000) o) (sel (av o 54000) (sel (ieq (ja q) 0) (sel (aL h) (sel (ieq k 0) (sel C I A) (sel (ieq k 1) (sel C D A) (sel (ieq k 2) (sel C E A) A))) (sel (aW (-32767) y) (sel (aW y 32767) (sel (oQ ok a d m) (sel (ieq k 0) (sel H I A) (sel (ieq k 1) (sel H D A) (sel (ieq k 2) (sel H E A) A))) B) B) B)) B) B) B:=by kernel_rfl
theorem tRF_top (F n f t m k w d c b v l) (K:V→Option V):
 bA eE (bu eE tS1 F 2) F 13 [V.agg [V.str n,V.int .i64 f,V.int .i64 t,V.int .i64 m,V.int .i64 k,V.int .i64 w,V.int .i64 d,V.int .i64 c,V.int .i64 b,V.int .i64 v,V.str l]] K=
 sel (aL (Pm n f t m k w d c b v l)) (K (V.tup [V.sl 9 [Kd.str] (some 0) [],V.int .i64 4])) (sel (ak (av (-9223372036854775808) v) (av v 9223372036854775807)) (sel (ak (av (-9223372036854775808) m) (av m 9223372036854775807)) (K (V.tup [V.sl 9 [Kd.str] (some 0) [V.str n,V.str (Kt f),V.str (uP f t),V.str [45],V.str (ql m),V.str (fF k w d),V.str (Af c b),V.str (Ag v),V.str (Gg l)],V.int .i64 0])) none) none):=by kernel_rfl
theorem VO (o k v r q h y m ok a d c b) (K:V→Option V):
 bA eE (bu eE tS1 9 2) 9 39 [V.agg [V.int .i64 o,V.int .i64 k,V.int .i64 v,V.str r,V.str q,V.bool h,V.int .i64 y,V.int .i64 m,V.int .i64 ok,V.int .i64 a,V.int .i64 d,V.int .i64 c,V.int .i64 b]] K=
 let A:=V.str (Ag o);let B:=V.str (text y);let C:=V.int .i64 0;let D:=V.str (fF ok a d);let E:=V.str (ql m);let F:=[Kd.str];let G:=ak (av (-9223372036854775808) y) (av y 9223372036854775807);let H:=ak (av (-9223372036854775808) m) (av m 9223372036854775807);let I:=aL (ak (ieq ok 0) (ak (ieq a 0) (ieq d 1)));let J:=V.str (Af c b);let L:=V.str (Ag v);let M:=aL (ak (ieq c 0) (ieq b 0));let N:=V.str [45];let O:=aL (ieq m 1);let P:=[A,V.str r,V.str q];let Q:=[B,E,D,J];let R:=[A,N,V.str q];let S:=[A,L,V.str q];sel (aL (Gj o k v r q h y m ok a d c b)) (K (V.tup [V.sl 9 F (some 0) [],V.int .i64 4])) (sel (ak (av (-9223372036854775808) o) (av o 9223372036854775807)) (sel (ak (av (-9223372036854775808) v) (av v 9223372036854775807)) (sel (ieq k 0) (sel (aL h) (K (V.tup [V.sl 9 F (some 0) R,C])) (sel G (sel H (sel (eD R Q) (sel M (K (V.tup [V.sl 9 F (some 0) [A,N,V.str q,B,E,D,J],C])) (sel I (K (V.tup [V.sl 9 F none [A,N,V.str q,B,E,D],C])) (sel O (K (V.tup [V.sl 9 F none [A,N,V.str q,B,E],C])) (K (V.tup [V.sl 9 F none [A,N,V.str q,B],C]))))) none) none) none)) (sel (ieq k 1) (sel (aL h) (K (V.tup [V.sl 9 F (some 0) S,C])) (sel G (sel H (sel (eD S Q) (sel M (K (V.tup [V.sl 9 F (some 0) [A,L,V.str q,B,E,D,J],C])) (sel I (K (V.tup [V.sl 9 F none [A,L,V.str q,B,E,D],C])) (sel O (K (V.tup [V.sl 9 F none [A,L,V.str q,B,E],C])) (K (V.tup [V.sl 9 F none [A,L,V.str q,B],C]))))) none) none) none)) (sel (ieq k 2) (sel (aL h) (K (V.tup [V.sl 9 F (some 0) P,C])) (sel G (sel H (sel (eD P Q) (sel M (K (V.tup [V.sl 9 F (some 0) [A,V.str r,V.str q,B,E,D,J],C])) (sel I (K (V.tup [V.sl 9 F none [A,V.str r,V.str q,B,E,D],C])) (sel O (K (V.tup [V.sl 9 F none [A,V.str r,V.str q,B,E],C])) (K (V.tup [V.sl 9 F none [A,V.str r,V.str q,B],C]))))) none) none) none)) none))) none) none):=by kernel_rfl
open Go.RowKit Nt
def GdB (c:UInt8):Prop:=33≤c.toNat∧c.toNat≤126∧c.toNat≠34
def Gd (l:af):Prop:=∀c∈l,GdB c
instance (c:UInt8):Decidable (GdB c):=by unfold GdB;infer_instance
instance (l:af):Decidable (Gd l):=by unfold Gd;infer_instance
theorem gd_app {a b:af} (f:Gd a) (d:Gd b):Gd (a++b):=fun c e=>(List.mem_append.1 e).elim (f c) (d c)
theorem lY:Gd []:=fun _ h=>by cases h
theorem Hl {c:UInt8} (h:GdB c):Gd [c]:=fun x a=>by rw[S7] at a;rw[a];exact h
theorem Nq (k:Nat) (h:k<10):GdB (digit k):=by unfold GdB;rw[jV k h];omega
theorem XX (n:Nat):Gd (gy n):=by
 induction n using Nat.strongRecOn with
 |_ n a=>
  by_cases h:n<10
  ·rw[lD n h];exact Hl (Nq n h)
  rw[oO n (by omega)];exact gd_app (a (n/10) (by omega)) (Hl (Nq _ (by omega)))
theorem xq (n:Int):Gd (text n):=by
 unfold text;refine gd_app ?_ (XX _);split
 ·decide
 exact lY
theorem gd_two (n:Nat) (h:n<100):Gd (aQ.two n):=by unfold aQ.two;exact gd_app (Hl (Nq _ (by omega))) (Hl (Nq _ (by omega)))
theorem Nr (n:Int):Gd (Ag n):=by
 unfold Ag aQ.text;split
 ·exact lY
 split
 ·decide
 refine gd_app (gd_app (gd_app (gd_app ?_ (XX _)) (by decide)) (gd_two _ (by omega))) ?_
 ·split
  ·decide
  exact lY
 split
 ·exact gd_app (a:=[58]) (by decide) (gd_two _ (by omega))
 exact lY
theorem gd_mo (m:Int):Gd (ql m):=by
 unfold ql;split
 next h=>
  obtain rfl|rfl|rfl|rfl|rfl|rfl|rfl|rfl|rfl|rfl|rfl|rfl:m=1∨m=2∨m=3∨m=4∨m=5∨m=6∨m=7∨m=8∨m=9∨m=10∨m=11∨m=12:=by omega
  all_goals decide
 next=>exact lY
theorem gd_wt (n:Int):Gd (Pj n):=by
 unfold Pj;split
 next h=>
  obtain rfl|rfl|rfl|rfl|rfl|rfl|rfl:n=0∨n=1∨n=2∨n=3∨n=4∨n=5∨n=6:=by omega
  all_goals decide
 next=>exact lY
theorem gd_ds (k w d:Int):Gd (fF k w d):=by
 unfold fF;split
 ·unfold dsT
  split
  ·exact gd_app (by decide) (gd_wt w)
  split
  ·exact gd_app (gd_app (gd_wt w) (by decide)) (xq d)
  split
  ·exact gd_app (gd_app (gd_wt w) (by decide)) (xq d)
  exact xq d
 exact lY
theorem gd_tc (n b:Int):Gd (Af n b):=by
 unfold Af GA;split
 ·refine gd_app (Nr n) ?_
  unfold letC;split
  ·exact lY
  split<;>decide
 exact lY
theorem gd_fx (n:Int):Gd (Kt n):=by
 unfold Kt fe;split
 ·split
  ·show Gd minT;decide
  exact xq n
 exact lY
theorem gd_tx (m n:Int):Gd (uP m n):=by
 unfold uP iC;split
 ·split
  ·exact lY
  split
  ·show Gd KM;decide
  split
  ·show Gd YR;decide
  exact xq n
 exact lY
theorem gd_let {c:UInt8} (h:Ku.kF c=true):GdB c:=by unfold Ku.kF at h;rw[lG] at h;unfold GdB;omega
theorem gd_word {s:af} (h:Ku.dm s=true):Gd s:=fun c a=>gd_let (Ku.vZ h a)
theorem gd_lt (l:af):Gd (Gg l):=by
 unfold Gg ltP;split
 ·decide
 split
 ·exact lY
 next h=>
  show Gd l;have a:Ah l=0:=by
   by_cases x:Ah l=0
   ·exact x
   exact absurd (.inl x) h
  have c:Aq l=l:=by
   by_cases x:Aq l=l
   ·exact x
   exact absurd (.inr x) h
  unfold Ah leP at a;split at a
  next e=>rw[e];decide
  split at a
  ·cases a
  split at a
  ·cases a
  next hw=>
   refine gd_word ?_
   cases b:Ku.dm l with
   |true=>rfl
   |false=>exact absurd (.inr b) hw
theorem gd_ck (q:af) (h:ja q=0):Gd q:=by
 intro c i;unfold ja at h;by_cases d:16<q.length
 ·rw[if_pos d] at h;cases h
 rw[if_neg d] at h;have g:fkK q≠0:=fun e=>by rw[if_pos e] at h;cases h
 cases b:Ku.kF c with
 |true=>exact gd_let b
 |false=>
  by_cases a:c=37
  ·rw[a];decide
  by_cases f:c=47
  ·rw[f];decide
  exact absurd (Ku.adA i b a f) g
theorem gd_nmC (k:Nat) (c:UInt8) (h:JU k c=true):GdB c:=by
 unfold JU TQ TR at h;simp only[JR,bC,lG,iM] at h;unfold GdB;rcases h with((h|h)|h)|⟨_,(((h|h)|h)|h)|h⟩
 all_goals first|omega|(rw[h];decide)
theorem gd_nmF: ∀(s:af) (k:Nat),xV k s=true→Gd s
 |[],_,_=>lY
 |c::t,k,h=>by unfold xV at h;rw[bC] at h;exact gd_app (a:=[c]) (Hl (gd_nmC k c h.1)) (gd_nmF t (k+1) h.2)
theorem Qe (n:af) (h:dG n=0):Gd n:=by
 unfold dG at h;split at h
 ·cases h
 split at h
 next hh=>exact gd_nmF n 0 hh.1
 next=>cases h
def PrB (c:UInt8):Prop:=32≤c.toNat∧c.toNat≤126
def Pr (l:af):Prop:=∀c∈l,PrB c
instance (c:UInt8):Decidable (PrB c):=by unfold PrB;infer_instance
instance (l:af):Decidable (Pr l):=by unfold Pr;infer_instance
theorem mH {a b:af} (f:Pr a) (d:Pr b):Pr (a++b):=fun c e=>(List.mem_append.1 e).elim (f c) (d c)
theorem gd_pr {a:af} (h:Gd a):Pr a:=fun c b=>by have:=h c b;unfold GdB at this;unfold PrB;omega
theorem GH {a:af} (h:Gd a):a.contains 34=false:=by
 cases e:a.contains 34 with
 |false=>rfl
 |true=>rw[abr] at e;have:=h _ e;exact absurd this (by decide)
theorem pr_tx {a:af} (h:Gd a):Pr (oq a).1:=by
 unfold oq;split
 ·exact fun _ h=>by cases h
 split
 ·exact mH (mH (by decide) (gd_pr h)) (by decide)
 exact gd_pr h
theorem tx_len (x:af):(oq x).1.length≤x.length+2:=by
 unfold oq
 (repeat' split)<;>simp
theorem XY: ∀(l:List (af)),(∀x∈l,Gd x)→Pr (bU l).1∧(bU l).1.length≤nW l+3*l.length
 |[],_=>⟨fun _ h=>(by cases h),JS _⟩
 |x::l,h=>by
  obtain⟨c,i⟩:=XY l fun y a=>h y (wN _ a)
  have b:=h x uY;have d:=Oh (GH b);have g:=sw l fun y a=>GH (h y (wN _ a))
  have e:(bU (x::l)).1=[32]++(oq x).1++(bU l).1:=by show(if(oq x).2=0 then(if(bU l).2=0 then(([32]++(oq x).1++(bU l).1,0):af×Int) else([],(bU l).2)) else([],(oq x).2)).1=_;rw[if_pos d,if_pos g]
  rw[e];refine⟨mH (mH (by decide) (pr_tx b)) c,?_⟩;have:=tx_len x;have f:nW (x::l)=x.length+nW l:=rfl;rw[iH,iH,fI,fI,qz,f];omega
theorem FU (l:List (af)) (h: ∀x∈l,Gd x) (i:l.length≤16) (k:nW l≤400):(dZ l).2=0∧vo (dZ l).1=(l,0)∧Pr (dZ l).1∧(dZ l).1.length≤nW l+3*l.length:=by
 have e:=sw l fun y f=>GH (h y f)
 have a:dZ l=((bU l).1.drop 1,0):=by unfold dZ;rw[if_neg (by omega),if_pos e]
 have b:(dZ l).2=0:=by rw[a]
 obtain⟨d,j⟩:=XY l h;refine⟨b,XA l b,?_,?_⟩
 ·rw[a];exact fun c g=>d c (acF g)
 rw[a];show((bU l).1.drop 1).length≤_;rw[Tn];omega
theorem odd_no (s:af) (h:Pr s):JZ s=false:=by
 unfold JZ;rw[abw];intro c a;have:=h c a;unfold PrB at this;rw[bF (show 32≤(c.toNat:Int) by omega),bF (show(c.toNat:Int)≤126 by omega)]
 cases ieq (c.toNat:Int) 9<;>decide
theorem FV (s:af) (h:Pr s) (a:s.length≤511):Ai s=0:=by unfold Ai;rw[bF (by rw[aI];omega),odd_no s h];rfl
def rfS (n:af) (f t m k w d c b v:Int) (l:af):List (af):=[n,Kt f,uP f t,[45],ql m,fF k w d,Af c b,Ag v,Gg l]
theorem XZ (n:af) (f t m k w d c b v:Int) (l:af) (h:Pm n f t m k w d c b v l=true):(∀x∈rfS n f t m k w d c b v l,Gd x)∧nW (rfS n f t m k w d c b v l)≤400:=by
 rw[FK] at h;obtain⟨g,p,a,i,y,j⟩:=h;constructor
 ·intro x e
  unfold rfS at e;simp only[Yy,ab7,or_false] at e;rcases e with rfl|rfl|rfl|rfl|rfl|rfl|rfl|rfl|rfl
  ·exact Qe _ g
  ·exact gd_fx _
  ·exact gd_tx _ _
  ·decide
  ·exact gd_mo _
  ·exact gd_ds _ _ _
  ·exact gd_tc _ _
  ·exact Nr _
  exact gd_lt _
 have n1:=oh n g;have u:(Kt f).length≤25:=Xm f;have r:(uP f t).length≤25:=Xn f t;have s:=Bz k w d;unfold oQ at a;rw[bC,lG] at a;obtain⟨m1,o,q⟩:=Bc m a.2.1 a.2.2.1;obtain⟨A,C,D,G⟩:=Bd c b i;obtain⟨E,F,z⟩:=xh v (by omega) (by omega);have B:=(Oa l j).1;show n.length+((Kt f).length+((uP f t).length+(1+((ql m).length+((fF k w d).length+((Af c b).length+((Ag v).length+((Gg l).length+0))))))))≤400;omega
def PU (h:Bool) (y m ok d a c b:Int):List (af):=sel h (sel (ak (ieq c 0) (ieq b 0)) (sel (ak (ieq ok 0) (ak (ieq d 0) (ieq a 1))) (sel (ieq m 1) [text y] [text y,ql m]) [text y,ql m,fF ok d a]) [text y,ql m,fF ok d a,Af c b]) []
def efS (o k v:Int) (r q:af) (h:Bool) (y m ok d a c b:Int):List (af):=Ag o::TK k v r::q::PU h y m ok d a c b
theorem On (o k v:Int) (r q:af) (h:Bool) (y m ok d a c b:Int):Po o k v r q h y m ok d a c b=bE (efS o k v r q h y m ok d a c b):=by
 unfold Po efS Kv PU
 cases h<;>cases ak (ieq c 0) (ieq b 0)<;>cases ak (ieq ok 0) (ak (ieq d 0) (ieq a 1))<;>cases ieq m 1<;>rfl
theorem ael (y:Int) (a: -32767<y) (b:y<32767):(text y).length≤7:=by
 have h:(gy y.natAbs).length≤5:=(rZ 5 y.natAbs (by omega) (by omega)).1;unfold text;rw[iH];split
 ·rw[fI,qz];omega
 rw[qz];omega
theorem X0 (o k v:Int) (r q:af) (h:Bool) (y m ok a e c b:Int) (t:Gj o k v r q h y m ok a e c b=true):
  (∀x∈efS o k v r q h y m ok a e c b,Gd x)∧nW (efS o k v r q h y m ok a e c b)≤400∧(efS o k v r q h y m ok a e c b).length≤7:=by
 rw[FP] at t;obtain⟨⟨N,L⟩,n,hE,j⟩:=t;obtain⟨R,S,K⟩:=xh o (by omega) (by omega);have u:Gd (TK k v r)∧(TK k v r).length≤64:=by
  unfold TK
  cases l:ieq k 0 with
  |true=>exact⟨(show Gd [45] by decide),(show([45]:af).length≤64 by decide)⟩
  |false=>
  cases s:ieq k 1 with
  |true=>rw[l,s] at j;have f:(av (-10800) v&&(av v 10800&&seq r []))=true:=j;rw[bC,bC,aB,aB] at f;obtain⟨J,Q,F⟩:=xh v (by omega) (by omega);exact⟨Nr v,by show(Ag v).length≤64;omega⟩
  |false=>
   rw[l,s] at j
   cases p:ieq k 2 with
   |false=>rw[p] at j;exact absurd (show false=true from j) (by decide)
   |true=>rw[p] at j;have f:(ieq v 0&&ieq (dG r) 0)=true:=j;rw[bC,aN,aN] at f;exact⟨Qe r f.2,oh r f.2⟩
 have H:=FN q n;have z:(∀x∈PU h y m ok a e c b,Gd x)∧nW (PU h y m ok a e c b)≤200∧(PU h y m ok a e c b).length≤4:=by
  cases h with
  |false=>exact⟨fun _ h=>(by cases h),JS _,JS _⟩
  |true=>
   rw[Bf] at hE;obtain⟨⟨w,C⟩,A,B⟩:=hE;have g:=A;unfold oQ at g;rw[bC,lG] at g;obtain⟨m1,D,E⟩:=Bc m g.2.1 g.2.2.1;obtain⟨M,O,P,T⟩:=Bd c b B;have I:=Bz ok a e;have n1:=ael y w C;have G: ∀x∈[text y,ql m,fF ok a e,Af c b],Gd x:=by
    intro x d;simp only[Yy,ab7,or_false] at d;rcases d with rfl|rfl|rfl|rfl
    ·exact xq _
    ·exact gd_mo _
    ·exact gd_ds _ _ _
    exact gd_tc _ _
   unfold PU;refine⟨?_,?_,?_⟩
   ·cases ak (ieq c 0) (ieq b 0)<;>cases ak (ieq ok 0) (ak (ieq a 0) (ieq e 1))<;>cases ieq m 1
    all_goals (intro x d;refine G x ?_)
    all_goals first
     |exact abK (i:=4) d
     |exact abK (i:=3) d
     |exact abK (i:=2) d
     |exact abK (i:=1) d
   ·cases ak (ieq c 0) (ieq b 0)<;>cases ak (ieq ok 0) (ak (ieq a 0) (ieq e 1))<;>cases ieq m 1
    all_goals first
     |(show(text y).length+((ql m).length+((fF ok a e).length+((Af c b).length+0)))≤200;omega)
     |(show(text y).length+((ql m).length+((fF ok a e).length+0))≤200;omega)
     |(show(text y).length+((ql m).length+0)≤200;omega)
     |(show(text y).length+0≤200;omega)
   cases ak (ieq c 0) (ieq b 0)<;>cases ak (ieq ok 0) (ak (ieq a 0) (ieq e 1))<;>cases ieq m 1<;>exact aa6 rfl
 refine⟨?_,?_,?_⟩
 ·intro x d
  unfold efS at d;rcases List.mem_cons.1 d with rfl|d
  ·exact Nr _
  rcases List.mem_cons.1 d with rfl|d
  ·exact u.1
  rcases List.mem_cons.1 d with rfl|d
  ·exact gd_ck _ n
  exact z.1 x d
 ·show(Ag o).length+((TK k v r).length+(q.length+nW (PU h y m ok a e c b)))≤400
  omega
 show(PU h y m ok a e c b).length+1+1+1≤7;omega
end Nt.Ev.YtknhlobahpgkeaaGreatDoor
namespace Nt.Ev.YtknhlobahpgkeaaGreatDoor.T6
open Go Nt.Num Go.Proofs.YtknhlobahpgkeaaGreatDoor
variable [kM]
class TA where
 (dG:af→Int)
 (rB:af→Int→Int→Int→Int→Int→Int→Int→Int→Int→af→Bool)
 (rG:af→Int→Int→Int→Int→Int→Int→Int→Int→Int→af→Bool)
 (rfL:af→Int→Int→Int→Int→Int→Int→Int→Int→Int→af→ah)
 (eB:Int→Int→Int→af→af→Bool→Int→Int→Int→Int→Int→Int→Int→Bool)
 (eG:Int→Int→Int→af→af→Bool→Int→Int→Int→Int→Int→Int→Int→Bool)
 (Po:Int→Int→Int→af→af→Bool→Int→Int→Int→Int→Int→Int→Int→ah)
 (jnG:ah→Bool)
 (tF:ah→af)
 (ofG:af→Bool)
 (bY:af→ah)
 (rdG:ah→Bool)
 (edG:ah→Bool)
 (ckG:af→Bool)
 (Tx:ah→af)
 (Ty:ah→Int)
 (Tz:ah→Int)
 (TB:ah→Int)
 (TC:ah→Int)
 (TD:ah→Int)
 (TE:ah→Int)
 (TF:ah→Int)
 (TG:ah→Int)
 (TH:ah→Int)
 (zf:ah→af)
 (S9:ah→Int)
 (VY:ah→Int)
 (Ta:ah→Int)
 (TI:ah→af)
 (TJ:ah→af)
 (E6:ah→Bool)
 (Tc:ah→Int)
 (Td:ah→Int)
 (VZ:ah→Int)
 (V2:ah→Int)
 (Aw:ah→Int)
 (Ay:ah→Int)
 (Az:ah→Int)
noncomputable abbrev dG [TA]:af→Int:=TA.dG
noncomputable abbrev rB [TA]:af→Int→Int→Int→Int→Int→Int→Int→Int→Int→af→Bool:=TA.rB
noncomputable abbrev rG [TA]:af→Int→Int→Int→Int→Int→Int→Int→Int→Int→af→Bool:=TA.rG
noncomputable abbrev rfL [TA]:af→Int→Int→Int→Int→Int→Int→Int→Int→Int→af→ah:=TA.rfL
noncomputable abbrev eB [TA]:Int→Int→Int→af→af→Bool→Int→Int→Int→Int→Int→Int→Int→Bool:=TA.eB
noncomputable abbrev eG [TA]:Int→Int→Int→af→af→Bool→Int→Int→Int→Int→Int→Int→Int→Bool:=TA.eG
noncomputable abbrev Po [TA]:Int→Int→Int→af→af→Bool→Int→Int→Int→Int→Int→Int→Int→ah:=TA.Po
noncomputable abbrev jnG [TA]:ah→Bool:=TA.jnG
noncomputable abbrev tF [TA]:ah→af:=TA.tF
noncomputable abbrev ofG [TA]:af→Bool:=TA.ofG
noncomputable abbrev bY [TA]:af→ah:=TA.bY
noncomputable abbrev rdG [TA]:ah→Bool:=TA.rdG
noncomputable abbrev edG [TA]:ah→Bool:=TA.edG
noncomputable abbrev ckG [TA]:af→Bool:=TA.ckG
noncomputable abbrev Tx [TA]:ah→af:=TA.Tx
noncomputable abbrev Ty [TA]:ah→Int:=TA.Ty
noncomputable abbrev Tz [TA]:ah→Int:=TA.Tz
noncomputable abbrev TB [TA]:ah→Int:=TA.TB
noncomputable abbrev TC [TA]:ah→Int:=TA.TC
noncomputable abbrev TD [TA]:ah→Int:=TA.TD
noncomputable abbrev TE [TA]:ah→Int:=TA.TE
noncomputable abbrev TF [TA]:ah→Int:=TA.TF
noncomputable abbrev TG [TA]:ah→Int:=TA.TG
noncomputable abbrev TH [TA]:ah→Int:=TA.TH
noncomputable abbrev zf [TA]:ah→af:=TA.zf
noncomputable abbrev S9 [TA]:ah→Int:=TA.S9
noncomputable abbrev VY [TA]:ah→Int:=TA.VY
noncomputable abbrev Ta [TA]:ah→Int:=TA.Ta
noncomputable abbrev TI [TA]:ah→af:=TA.TI
noncomputable abbrev TJ [TA]:ah→af:=TA.TJ
noncomputable abbrev E6 [TA]:ah→Bool:=TA.E6
noncomputable abbrev Tc [TA]:ah→Int:=TA.Tc
noncomputable abbrev Td [TA]:ah→Int:=TA.Td
noncomputable abbrev VZ [TA]:ah→Int:=TA.VZ
noncomputable abbrev V2 [TA]:ah→Int:=TA.V2
noncomputable abbrev Aw [TA]:ah→Int:=TA.Aw
noncomputable abbrev Ay [TA]:ah→Int:=TA.Ay
noncomputable abbrev Az [TA]:ah→Int:=TA.Az
variable [TA]
end Nt.Ev.YtknhlobahpgkeaaGreatDoor.T6
namespace Nt.Ev.YtknhlobahpgkeaaGreatDoor
open Go Go.RowKit Nt Nt.Num Nt.Civil Nt.Fld Go.Proofs.YtknhlobahpgkeaaGreatDoor
variable [kM]
theorem X3 (s:af) (a:true=true):aj eE 38 [.str s] (.int .i64 (dG s)):=by
 by_cases h:s.length≤1000
 ·exact Au (Dx s (bg (by rw[aI];omega)))
 refine Au (au Ws Nf 100 2 ?_);rw[LW];unfold dG;rw[ax (bH (by rw[aI];omega)),if_pos (by omega)]
theorem tChS_ok (s:af) (a:true=true):aj eE 87 [.str s] (.int .i64 (ja s)):=by
 by_cases h:s.length≤900
 ·exact Xy s (bg (by rw[aI];omega))
 refine Au (toZf (au gL Nh 5 2 ?_));rw[zU];unfold ja;rw[ax (bH (by rw[aI];omega)),if_pos (by omega)]
theorem tLeS_ok (s:af) (b:true=true):aj eE 58 [.str s] (.tup [.str (Aq s),.int .i64 (Ah s)]):=by
 by_cases h:s.length≤900
 ·exact Au (QJ s (bg (by rw[aI];omega)))
 refine Au (toZf (au gL Ng 5 2 ?_))
 (rw[EL];(conv=>zeta))
 have a:s≠[45]:=fun e=>by rw[e] at h;exact h (by decide)
 unfold Aq Ah leP;rw[if_neg a,if_pos (by omega),aK (by rw[←ac8,cK];exact a),ax (bH (by rw[aI];omega))]
theorem tSl_ok:bf eE tSl:=by
 unfold tSl;refine bf.cons (fun args r h=>?_) bf.nil;all_goals (revert h;intro h;first|unfold tLeS at h)
 all_goals (split at h;rotate_left; · cases h)
 all_goals (simp only[aR,bM] at h;obtain⟨a,rfl⟩:=h)
 ·exact tLeS_ok _ rfl
theorem tLtS_ok (s:af) (d:true=true):aj eE 32 [.str s] (.tup [.str (Gg s),.int .i64 (JV s)]):=by
 refine au jL tSl_ok 5 2 ?_
 (rw[tLT_top];(conv=>zeta))
 unfold Gg JV ltP;by_cases b:s=[]
 ·rw[if_pos b,ax (by rw[cK];exact b)]
 rw[if_neg b,aK (by rw[←ac8,cK];exact b)];by_cases a:Ah s=0
 ·by_cases c:Aq s=s
  ·rw[if_neg (fun e=>e.elim (fun x=>x a) (fun x=>x c)),aK (by rw[bn a];rfl),aK (by rw[show seq (Aq s) s=true by rw[cK];exact c];rfl)]
  rw[if_pos (.inr c),aK (by rw[bn a];rfl),ax (by rw[bW,cK];exact c)]
 rw[if_pos (.inl a),ax (by rw[bW,aN];exact a)]
theorem Uy:bf eE tS0:=by
 unfold tS0;refine bf.cons (fun args r h=>?_) (bf.cons (fun args r h=>?_) (bf.cons (fun args r h=>?_) (bf.cons (fun args r h=>?_) (bf.cons (fun args r h=>?_) (bf.cons (fun args r h=>?_) (bf.cons (fun args r h=>?_) (bf.cons (fun args r h=>?_) (bf.cons (fun args r h=>?_) (bf.cons (fun args r h=>?_) (bf.cons (fun args r h=>?_) (bf.cons (fun args r h=>?_) bf.nil)))))))))));all_goals (revert h;intro h;first|unfold tNmS at h|unfold tLtS at h|unfold tChS at h|unfold CV at h|unfold zFxS at h|unfold zTxS at h|unfold YL at h|unfold YM at h|unfold YN at h|unfold YO at h|unfold YP at h|unfold eNtS at h)
 all_goals (split at h;rotate_left; · cases h)
 all_goals (simp only[aR,bM] at h;obtain⟨a,rfl⟩:=h)
 ·exact X3 _ rfl
 ·exact tLtS_ok _ rfl
 ·exact tChS_ok _ rfl
 ·exact Au (Dy _ _ _ _ rfl)
 ·exact Au (Xi _ rfl)
 ·exact Au (Xj _ _ rfl)
 ·exact Au (NY _ _ _ rfl)
 ·exact Au (NZ _ _ rfl)
 ·exact Au (N5 _ _ rfl)
 ·exact Au (N6 _ a)
 ·exact Au (N7 _ a)
 exact Xx _ a
theorem tRrS_ok (n:af) (f t m k w d c b v:Int) (l:af) (a:true=true):aj eE 26 [.agg [.str n,.int .i64 f,.int .i64 t,.int .i64 m,.int .i64 k,.int .i64 w,.int .i64 d,.int .i64 c,.int .i64 b,.int .i64 v,.str l]] (.bool (Pm n f t m k w d c b v l)):=by
 refine au jL Uy 5 3 ?_
 (rw[tRR_top];(conv=>zeta))
 unfold Pm;rw[←yr_eq]
 cases ieq (CF f t) 0<;>cases ieq (YA f) 0<;>cases ieq (JV l) 0<;>cases ieq (dG n) 0<;>cases oQ k w d m<;>cases dJ c b<;>cases av (-10800) v<;>cases av v 10800<;>rfl
theorem tErS_ok (o k v:Int) (r q:af) (h:Bool) (y m ok a d c b:Int) (f:true=true):aj eE 63 [.agg [.int .i64 o,.int .i64 k,.int .i64 v,.str r,.str q,.bool h,.int .i64 y,.int .i64 m,.int .i64 ok,.int .i64 a,.int .i64 d,.int .i64 c,.int .i64 b]] (.bool (Gj o k v r q h y m ok a d c b)):=by
 refine au jL Uy 5 3 ?_
 (rw[tER_top];(conv=>zeta);rw[show dw .i64 0 54000= -54000 by decide,show dw .i64 0 10800= -10800 by decide])
 unfold Gj enR
 cases av (-54000) o with
 |false=>cases ieq k 0<;>cases ieq k 1<;>cases ieq k 2<;>rfl
 |true=>
 cases av o 54000 with
 |false=>cases ieq k 0<;>cases ieq k 1<;>cases ieq k 2<;>rfl
 |true=>
 cases ieq (ja q) 0 with
 |false=>cases ieq k 0<;>cases ieq k 1<;>cases ieq k 2<;>rfl
 |true=>
 cases h with
 |false=>
  have e:ak (beq false false) (ak (ieq y 0) (ak (ieq m 0) (ak (ak (ieq ok 0) (ak (ieq a 0) (ieq d 0))) (ak (ieq c 0) (ieq b 0)))))=(ak (ieq y 0) (ak (ieq m 0) (ak (ak (ieq ok 0) (ak (ieq a 0) (ieq d 0))) (ak (ieq c 0) (ieq b 0))))):=rfl;rw[e];generalize ak (ieq y 0) (ak (ieq m 0) (ak (ak (ieq ok 0) (ak (ieq a 0) (ieq d 0))) (ak (ieq c 0) (ieq b 0))))=z
  cases z with
  |false=>cases ieq k 0<;>cases ieq k 1<;>cases ieq k 2<;>rfl
  |true=>
  cases ieq k 0 with
  |true=>cases ieq v 0<;>rfl
  |false=>
  cases ieq k 1 with
  |true=>cases av (-10800) v<;>cases av v 10800<;>rfl
  |false=>cases ieq k 2<;>cases ieq v 0<;>rfl
 |true=>
  cases aW (-32767) y with
  |false=>cases ieq k 0<;>cases ieq k 1<;>cases ieq k 2<;>rfl
  |true=>
  cases aW y 32767 with
  |false=>cases ieq k 0<;>cases ieq k 1<;>cases ieq k 2<;>rfl
  |true=>
  cases oQ ok a d m with
  |false=>cases ieq k 0<;>cases ieq k 1<;>cases ieq k 2<;>rfl
  |true=>
  cases dJ c b with
  |false=>cases ieq k 0<;>cases ieq k 1<;>cases ieq k 2<;>rfl
  |true=>
  cases ieq k 0 with
  |true=>cases ieq v 0<;>rfl
  |false=>
  cases ieq k 1 with
  |true=>cases av (-10800) v<;>cases av v 10800<;>rfl
  |false=>cases ieq k 2<;>cases ieq v 0<;>rfl
theorem tS1_ok:bf eE tS1:=by
 unfold tS1;refine bf.cons (fun args r h=>?_) (bf.cons (fun args r h=>?_) Uy);all_goals (revert h;intro h;first|unfold tRrS at h|unfold tErS at h)
 all_goals (split at h;rotate_left; · cases h)
 all_goals (simp only[aR,bM] at h;obtain⟨a,rfl⟩:=h)
 ·exact tRrS_ok _ _ _ _ _ _ _ _ _ _ _ rfl
 exact tErS_ok _ _ _ _ _ _ _ _ _ _ _ _ _ rfl
theorem tRFS_ok (n:af) (f t m k w d c b v:Int) (l:af) (g:ak (ak (av (-9223372036854775808) v) (av v 9223372036854775807)) (ak (av (-9223372036854775808) m) (av m 9223372036854775807))=true):aj eE 13 [.agg [.str n,.int .i64 f,.int .i64 t,.int .i64 m,.int .i64 k,.int .i64 w,.int .i64 d,.int .i64 c,.int .i64 b,.int .i64 v,.str l]] (.tup [.sl 9 [.str] none (rfV n f t m k w d c b v l),.int .i64 (rfE n f t m k w d c b v l)]):=by
 obtain⟨e,a⟩:=aO g;refine Ch (L:=0) jL tS1_ok 5 2 ?_;rw[tRF_top,e,a];unfold rfV rfE
 cases h:Pm n f t m k w d c b v l<;>exact .inl rfl
theorem tEFS_ok (o k v:Int) (r q:af) (h:Bool) (y m ok a d c b:Int) (s:ak (ak (ak (av (-9223372036854775808) o) (av o 9223372036854775807)) (ak (av (-9223372036854775808) v) (av v 9223372036854775807))) (ak (ak (av (-9223372036854775808) y) (av y 9223372036854775807)) (ak (av (-9223372036854775808) m) (av m 9223372036854775807)))=true):aj eE 39 [.agg [.int .i64 o,.int .i64 k,.int .i64 v,.str r,.str q,.bool h,.int .i64 y,.int .i64 m,.int .i64 ok,.int .i64 a,.int .i64 d,.int .i64 c,.int .i64 b]] (.tup [.sl 9 [.str] none (efV o k v r q h y m ok a d c b),.int .i64 (efE o k v r q h y m ok a d c b)]):=by
 obtain⟨f,j⟩:=aO s;obtain⟨p,i⟩:=aO f;obtain⟨n,e⟩:=aO j;refine Ch (L:=0) jL tS1_ok 9 2 ?_
 (rw[VO];(conv=>zeta))
 unfold efV efE
 cases l:Gj o k v r q h y m ok a d c b with
 |false=>exact .inl rfl
 |true=>
  have g:=erR_k o k v r q h y m ok a d c b l;rw[aK (show aL true=false from rfl),ax p,ax i,n,e];unfold Po TK Kv;rcases g with rfl|rfl|rfl;all_goals
   cases h
   ·first|exact .inl rfl|exact .inr rfl
   cases ak (ieq c 0) (ieq b 0)<;>cases ak (ieq ok 0) (ak (ieq a 0) (ieq d 1))<;>cases ieq m 1<;>first|exact .inl rfl|exact .inr rfl
def rRng (m v:Int):Bool:=(ak (ak (av (-9223372036854775808) v) (av v 9223372036854775807)) (ak (av (-9223372036854775808) m) (av m 9223372036854775807)))
def eRng (o v y m:Int):Bool:=(ak (ak (ak (av (-9223372036854775808) o) (av o 9223372036854775807)) (ak (av (-9223372036854775808) v) (av v 9223372036854775807))) (ak (ak (av (-9223372036854775808) y) (av y 9223372036854775807)) (ak (av (-9223372036854775808) m) (av m 9223372036854775807))))
theorem Oo (l:List (af)):tF (bE l)=(dZ l).1∧rC (bE l)=(dZ l).2∧jnC (bE l)=decide (nW l≤3000000):=by unfold tF rC jnC;rw[Q7];exact⟨rfl,rfl,rfl⟩
namespace T6
noncomputable instance tA:TA where
 dG:=Nt.Ev.YtknhlobahpgkeaaGreatDoor.dG
 rB:=fun n f t m k w d c b v l=>ak (aL (Pm n f t m k w d c b v l)) (rRng m v)
 rG:=fun n f t m k w d c b v l=>ak (Pm n f t m k w d c b v l) (rRng m v)
 rfL:=Nt.Ev.YtknhlobahpgkeaaGreatDoor.rfL
 eB:=fun o k v r q h y m ok ow od c b=>ak (aL (Gj o k v r q h y m ok ow od c b)) (eRng o v y m)
 eG:=fun o k v r q h y m ok ow od c b=>ak (Gj o k v r q h y m ok ow od c b) (eRng o v y m)
 Po:=Nt.Ev.YtknhlobahpgkeaaGreatDoor.Po
 jnG:=fun xs=>ak (jnC xs) (ieq (rC xs) 0)
 tF:=Nt.Ev.YtknhlobahpgkeaaGreatDoor.tF
 ofG:=fun s=>ak (av (aA s) 4000000) (ieq (MF s) 0)
 bY:=Nt.Ev.YtknhlobahpgkeaaGreatDoor.bY
 rdG:=fun xs=>ak (gN xs) (ieq (Mx xs) 0)
 edG:=fun xs=>ak (gN xs) (ieq (kK xs) 0)
 ckG:=fun s=>ak (av (aA s) 4000000) (ieq (Ai s) 0)
 Tx:=Nt.Ev.YtknhlobahpgkeaaGreatDoor.Tx
 Ty:=Nt.Ev.YtknhlobahpgkeaaGreatDoor.Ty
 Tz:=Nt.Ev.YtknhlobahpgkeaaGreatDoor.Tz
 TB:=Nt.Ev.YtknhlobahpgkeaaGreatDoor.TB
 TC:=Nt.Ev.YtknhlobahpgkeaaGreatDoor.TC
 TD:=Nt.Ev.YtknhlobahpgkeaaGreatDoor.TD
 TE:=Nt.Ev.YtknhlobahpgkeaaGreatDoor.TE
 TF:=Nt.Ev.YtknhlobahpgkeaaGreatDoor.TF
 TG:=Nt.Ev.YtknhlobahpgkeaaGreatDoor.TG
 TH:=Nt.Ev.YtknhlobahpgkeaaGreatDoor.TH
 zf:=Nt.Ev.YtknhlobahpgkeaaGreatDoor.zf
 S9:=Nt.Ev.YtknhlobahpgkeaaGreatDoor.S9
 VY:=Nt.Ev.YtknhlobahpgkeaaGreatDoor.VY
 Ta:=Nt.Ev.YtknhlobahpgkeaaGreatDoor.Ta
 TI:=Nt.Ev.YtknhlobahpgkeaaGreatDoor.TI
 TJ:=Nt.Ev.YtknhlobahpgkeaaGreatDoor.TJ
 E6:=Nt.Ev.YtknhlobahpgkeaaGreatDoor.E6
 Tc:=Nt.Ev.YtknhlobahpgkeaaGreatDoor.Tc
 Td:=Nt.Ev.YtknhlobahpgkeaaGreatDoor.Td
 VZ:=Nt.Ev.YtknhlobahpgkeaaGreatDoor.VZ
 V2:=Nt.Ev.YtknhlobahpgkeaaGreatDoor.V2
 Aw:=Nt.Ev.YtknhlobahpgkeaaGreatDoor.Aw
 Ay:=Nt.Ev.YtknhlobahpgkeaaGreatDoor.Ay
 Az:=Nt.Ev.YtknhlobahpgkeaaGreatDoor.Az
theorem n1:aL (ieq (dG [49]) 10)=false:=by
 have h:Nt.Ev.YtknhlobahpgkeaaGreatDoor.dG [49]=10:=by decide
 show aL (ieq (Nt.Ev.YtknhlobahpgkeaaGreatDoor.dG [49]) 10)=false;rw[h];rfl
theorem bN:aL true=false:=rfl
end T6
end Nt.Ev.YtknhlobahpgkeaaGreatDoor
