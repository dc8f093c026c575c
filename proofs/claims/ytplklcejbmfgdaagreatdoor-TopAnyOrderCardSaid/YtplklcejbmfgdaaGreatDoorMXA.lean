/-
  Top06: equations of functions, as the evaluator prints them. Lines of rules and of eras: what the fields' texts are made of, and how long the lines are. Top06L: equations of functions, as the evaluator prints them. Lines of rules and of eras: the statement.
-/
import Derived.Test.YtplklcejbmfgdaaGreatDoorMN
import Derived.Test.YtplklcejbmfgdaaGreatDoorMO
import Derived.Test.YtplklcejbmfgdaaGreatDoorMQ
set_option linter.unusedVariables false
set_option linter.unusedSimpArgs false
set_option linter.unusedSectionVars false
namespace Nt.Ev.YtplklcejbmfgdaaGreatDoor
set_option maxRecDepth 100000
open Go Nt.Num Go.Proofs.YtplklcejbmfgdaaGreatDoor
variable [nP]
open Nt.Civil
open Nt.Fld
noncomputable def tLeS:aG:=fun a=>match a with|[.str s]=>some (true,.tup [.str (Ag s),.int .i64 (zZ s)])|_=>none
noncomputable def tSl:List (Nat×aG):=(70,tLeS)::[]
noncomputable def tNmS:aG:=fun a=>match a with|[.str s]=>some (true,.int .i64 (dZ s))|_=>none
noncomputable def tLtS:aG:=fun a=>match a with|[.str s]=>some (true,.tup [.str (I7 s),.int .i64 (RF s)])|_=>none
noncomputable def tChS:aG:=fun a=>match a with|[.str s]=>some (true,.int .i64 (jy s))|_=>none
noncomputable def tS0:List (Nat×aG):=(16,tNmS)::(38,tLtS)::(45,tChS)::(39,Cq)::(37,zFxS)::(36,zTxS)::(58,Xp)::(59,Xq)::(40,Xr)::(60,Xt)::(61,Xu)::(63,eNtS)::[]
noncomputable def tRrS:aG:=fun a=>match a with|[.agg [.str n,.int .i64 f,.int .i64 t,.int .i64 m,.int .i64 k,.int .i64 w,.int .i64 d,.int .i64 c,.int .i64 b,.int .i64 v,.str l]]=>some (true,.bool (RG n f t m k w d c b v l))|_=>none
noncomputable def tErS:aG:=fun a=>match a with|[.agg [.int .i64 o,.int .i64 k,.int .i64 v,.str r,.str q,.bool h,.int .i64 y,.int .i64 m,.int .i64 ok,.int .i64 ow,.int .i64 od,.int .i64 c,.int .i64 b]]=>some (true,.bool (z8 o k v r q h y m ok ow od c b))|_=>none
noncomputable def tS1:List (Nat×aG):=(14,tRrS)::(17,tErS)::tS0
theorem tLT_top (F:Nat) (s:List UInt8) (K:V→Option V):
 bW eE (bT eE tSl F 2) F 38 [V.str s] K=
 let A:=K (V.tup [V.str [],V.int .i64 4]);sel (seq s []) (K (V.tup [V.str [45],V.int .i64 0])) (sel (aK (ieq (zZ s) 0)) A (sel (aK (seq (Ag s) s)) A (K (V.tup [V.str s,V.int .i64 0])))):=by kernel_rfl
theorem tRR_top (F:Nat) (n:List UInt8) (f t m k w d c b v:Int) (l:List UInt8) (K:V→Option V):
 bW eE (bT eE tS0 F 3) F 14 [V.agg [V.str n,V.int .i64 f,V.int .i64 t,V.int .i64 m,V.int .i64 k,V.int .i64 w,V.int .i64 d,V.int .i64 c,V.int .i64 b,V.int .i64 v,V.str l]] K=
 let A:=K (V.bool false);sel (ieq (Xo f t) 0) (sel (ieq (fxW f) 0) (sel (ieq (RF l) 0) (sel (ieq (dZ n) 0) (sel (qf k w d m) (sel (iq c b) (sel (ak (-10800) v) (K (V.bool (ak v 10800))) A) A) A) A) A) A) A:=by kernel_rfl
theorem tER_top (F:Nat) (o k v:Int) (r q:List UInt8) (h:Bool) (y m ok ow od c b:Int) (K:V→Option V):
 bW eE (bT eE tS0 F 3) F 17 [V.agg [V.int .i64 o,V.int .i64 k,V.int .i64 v,V.str r,V.str q,V.bool h,V.int .i64 y,V.int .i64 m,V.int .i64 ok,V.int .i64 ow,V.int .i64 od,V.int .i64 c,V.int .i64 b]] K=
 let A:=K (V.bool false);let C:=ai (beq h false) (ai (ieq y 0) (ai (ieq m 0) (ai (ai (ieq ok 0) (ai (ieq ow 0) (ieq od 0))) (ai (ieq c 0) (ieq b 0)))));let G:=K (V.bool (seq r []));let H:=iq c b;let B:=sel (ieq k 0) A (sel (ieq k 1) A (sel (ieq k 2) A A));let D:=sel (ak (jN .i64 0 10800) v) (sel (ak v 10800) G A) A;let E:=sel (ieq v 0) (K (V.bool (ieq (dZ r) 0))) A;let I:=sel (ieq v 0) G A;sel (ak (jN .i64 0 54000) o) (sel (ak o 54000) (sel (ieq (jy q) 0) (sel (aK h) (sel (ieq k 0) (sel C I A) (sel (ieq k 1) (sel C D A) (sel (ieq k 2) (sel C E A) A))) (sel (aU (-32767) y) (sel (aU y 32767) (sel (qf ok ow od m) (sel (ieq k 0) (sel H I A) (sel (ieq k 1) (sel H D A) (sel (ieq k 2) (sel H E A) A))) B) B) B)) B) B) B:=by kernel_rfl
theorem tRF_top (F:Nat) (n:List UInt8) (f t m k w d c b v:Int) (l:List UInt8) (K:V→Option V):
 bW eE (bT eE tS1 F 2) F 25 [V.agg [V.str n,V.int .i64 f,V.int .i64 t,V.int .i64 m,V.int .i64 k,V.int .i64 w,V.int .i64 d,V.int .i64 c,V.int .i64 b,V.int .i64 v,V.str l]] K=
 sel (aK (RG n f t m k w d c b v l)) (K (V.tup [V.sl 9 [Kd.str] (some 0) [],V.int .i64 4])) (sel (ai (ak (-9223372036854775808) v) (ak v 9223372036854775807)) (sel (ai (ak (-9223372036854775808) m) (ak m 9223372036854775807)) (K (V.tup [V.sl 9 [Kd.str] (some 0) [V.str n,V.str (Ox f),V.str (y9 f t),V.str [45],V.str (qd m),V.str (fe k w d),V.str (zX c b),V.str (zY v),V.str (I7 l)],V.int .i64 0])) none) none):=by kernel_rfl
theorem UQ (o k v:Int) (r q:List UInt8) (h:Bool) (y m ok ow od c b:Int) (K:V→Option V):
 bW eE (bT eE tS1 9 2) 9 28 [V.agg [V.int .i64 o,V.int .i64 k,V.int .i64 v,V.str r,V.str q,V.bool h,V.int .i64 y,V.int .i64 m,V.int .i64 ok,V.int .i64 ow,V.int .i64 od,V.int .i64 c,V.int .i64 b]] K=
 let A:=V.str (zY o);let B:=V.str (text y);let C:=V.int .i64 0;let D:=V.str (fe ok ow od);let E:=V.str (qd m);let F:=[Kd.str];let G:=ai (ak (-9223372036854775808) y) (ak y 9223372036854775807);let H:=ai (ak (-9223372036854775808) m) (ak m 9223372036854775807);let I:=aK (ai (ieq ok 0) (ai (ieq ow 0) (ieq od 1)));let J:=V.str (zX c b);let L:=V.str (zY v);let M:=aK (ai (ieq c 0) (ieq b 0));let N:=V.str [45];let O:=aK (ieq m 1);let P:=[A,V.str r,V.str q];let Q:=[B,E,D,J];let R:=[A,N,V.str q];let S:=[A,L,V.str q];sel (aK (z8 o k v r q h y m ok ow od c b)) (K (V.tup [V.sl 9 F (some 0) [],V.int .i64 4])) (sel (ai (ak (-9223372036854775808) o) (ak o 9223372036854775807)) (sel (ai (ak (-9223372036854775808) v) (ak v 9223372036854775807)) (sel (ieq k 0) (sel (aK h) (K (V.tup [V.sl 9 F (some 0) R,C])) (sel G (sel H (sel (cO R Q) (sel M (K (V.tup [V.sl 9 F (some 0) [A,N,V.str q,B,E,D,J],C])) (sel I (K (V.tup [V.sl 9 F none [A,N,V.str q,B,E,D],C])) (sel O (K (V.tup [V.sl 9 F none [A,N,V.str q,B,E],C])) (K (V.tup [V.sl 9 F none [A,N,V.str q,B],C]))))) none) none) none)) (sel (ieq k 1) (sel (aK h) (K (V.tup [V.sl 9 F (some 0) S,C])) (sel G (sel H (sel (cO S Q) (sel M (K (V.tup [V.sl 9 F (some 0) [A,L,V.str q,B,E,D,J],C])) (sel I (K (V.tup [V.sl 9 F none [A,L,V.str q,B,E,D],C])) (sel O (K (V.tup [V.sl 9 F none [A,L,V.str q,B,E],C])) (K (V.tup [V.sl 9 F none [A,L,V.str q,B],C]))))) none) none) none)) (sel (ieq k 2) (sel (aK h) (K (V.tup [V.sl 9 F (some 0) P,C])) (sel G (sel H (sel (cO P Q) (sel M (K (V.tup [V.sl 9 F (some 0) [A,V.str r,V.str q,B,E,D,J],C])) (sel I (K (V.tup [V.sl 9 F none [A,V.str r,V.str q,B,E,D],C])) (sel O (K (V.tup [V.sl 9 F none [A,V.str r,V.str q,B,E],C])) (K (V.tup [V.sl 9 F none [A,V.str r,V.str q,B],C]))))) none) none) none)) none))) none) none):=by kernel_rfl
open Go.RowKit Nt
def GdB (c:UInt8):Prop:=33≤c.toNat∧c.toNat≤126∧c.toNat≠34
def Gd (l:List UInt8):Prop:=∀c∈l,GdB c
instance (c:UInt8):Decidable (GdB c):=by unfold GdB;infer_instance
instance (l:List UInt8):Decidable (Gd l):=by unfold Gd;infer_instance
theorem gd_app {a b:List UInt8} (ha:Gd a) (hb:Gd b):Gd (a++b):=fun c hc=>(List.mem_append.1 hc).elim (ha c) (hb c)
theorem lQ:Gd []:=fun _ h=>by cases h
theorem GA {c:UInt8} (h:GdB c):Gd [c]:=fun x hx=>by rw[List.mem_singleton] at hx;rw[hx];exact h
theorem MJ (k:Nat) (h:k<10):GdB (digit k):=by
 unfold GdB;rw[jM k h];omega
theorem WT (n:Nat):Gd (fP n):=by
 induction n using Nat.strongRecOn with
 |_ n ih=>
  by_cases h:n<10
  ·rw[lm n h];exact GA (MJ n h)
  ·rw[oK n (by omega)]
   exact gd_app (ih (n/10) (by omega)) (GA (MJ _ (by omega)))
theorem wK (n:Int):Gd (text n):=by
 unfold text;refine gd_app ?_ (WT _);split
 ·decide
 ·exact lQ
theorem gd_two (n:Nat) (h:n<100):Gd (aF.two n):=by
 unfold aF.two;exact gd_app (GA (MJ _ (by omega))) (GA (MJ _ (by omega)))
theorem MK (n:Int):Gd (zY n):=by
 unfold zY aF.text;split
 ·exact lQ
 split
 ·decide
 refine gd_app (gd_app (gd_app (gd_app ?_ (WT _)) (by decide)) (gd_two _ (by omega))) ?_
 ·split
  ·decide
  ·exact lQ
 ·split
  ·exact gd_app (a:=[58]) (by decide) (gd_two _ (by omega))
  ·exact lQ
theorem gd_mo (m:Int):Gd (qd m):=by
 unfold qd;split
 next h=>
  obtain rfl|rfl|rfl|rfl|rfl|rfl|rfl|rfl|rfl|rfl|rfl|rfl:m=1∨m=2∨m=3∨m=4∨m=5∨m=6∨m=7∨m=8∨m=9∨m=10∨m=11∨m=12:=by omega
  all_goals decide
 next=>exact lQ
theorem gd_wt (n:Int):Gd (Oh n):=by
 unfold Oh;split
 next h=>
  obtain rfl|rfl|rfl|rfl|rfl|rfl|rfl:n=0∨n=1∨n=2∨n=3∨n=4∨n=5∨n=6:=by omega
  all_goals decide
 next=>exact lQ
theorem gd_ds (k w d:Int):Gd (fe k w d):=by
 unfold fe;split
 ·unfold dsT
  split
  ·exact gd_app (by decide) (gd_wt w)
  split
  ·exact gd_app (gd_app (gd_wt w) (by decide)) (wK d)
  split
  ·exact gd_app (gd_app (gd_wt w) (by decide)) (wK d)
  ·exact wK d
 ·exact lQ
theorem gd_tc (n b:Int):Gd (zX n b):=by
 unfold zX F6;split
 ·refine gd_app (MK n) ?_
  unfold letC;split
  ·exact lQ
  split<;>decide
 ·exact lQ
theorem gd_fx (n:Int):Gd (Ox n):=by
 unfold Ox gu;split
 ·split
  ·show Gd minT;decide
  ·exact wK n
 ·exact lQ
theorem gd_tx (m n:Int):Gd (y9 m n):=by
 unfold y9 jE;split
 ·split
  ·exact lQ
  split
  ·show Gd Kb;decide
  split
  ·show Gd Xw;decide
  ·exact wK n
 ·exact lQ
theorem gd_let {c:UInt8} (h:JX.kg c=true):GdB c:=by
 unfold JX.kg at h;rw[decide_eq_true_eq] at h;unfold GdB;omega
theorem gd_word {s:List UInt8} (h:JX.cZ s=true):Gd s:=fun c hc=>gd_let (JX.vH h hc)
theorem gd_lt (l:List UInt8):Gd (I7 l):=by
 unfold I7 ltP;split
 ·decide
 split
 ·exact lQ
 next h=>
  show Gd l;have h1:zZ l=0:=by
   by_cases x:zZ l=0
   ·exact x
   ·exact absurd (.inl x) h
  have h2:Ag l=l:=by
   by_cases x:Ag l=l
   ·exact x
   ·exact absurd (.inr x) h
  unfold zZ leP at h1;split at h1
  next e=>rw[e];decide
  split at h1
  ·cases h1
  split at h1
  ·cases h1
  next hw=>
   refine gd_word ?_
   cases hx:JX.cZ l with
   |true=>rfl
   |false=>exact absurd (.inr hx) hw
theorem gd_ck (q:List UInt8) (h:jy q=0):Gd q:=by
 intro c hc;unfold jy at h;by_cases h1:16<q.length
 ·rw[if_pos h1] at h;cases h
 rw[if_neg h1] at h;have h2:fkK q≠0:=fun e=>by rw[if_pos e] at h;cases h
 cases hl:JX.kg c with
 |true=>exact gd_let hl
 |false=>
  by_cases e1:c=37
  ·rw[e1];decide
  by_cases e2:c=47
  ·rw[e2];decide
  exact absurd (JX.Y5 hc hl e1 e2) h2
theorem gd_nmC (k:Nat) (c:UInt8) (h:LH k c=true):GdB c:=by
 unfold LH Sy Sz at h;simp only[Bool.or_eq_true,Bool.and_eq_true,decide_eq_true_eq,beq_iff_eq] at h;unfold GdB;rcases h with((h|h)|h)|⟨_,(((h|h)|h)|h)|h⟩
 all_goals first|omega|(rw[h];decide)
theorem gd_nmF: ∀(s:List UInt8) (k:Nat),B6 k s=true→Gd s
 |[],_,_=>lQ
 |c::t,k,h=>by
  unfold B6 at h;rw[Bool.and_eq_true] at h;exact gd_app (a:=[c]) (GA (gd_nmC k c h.1)) (gd_nmF t (k+1) h.2)
theorem gd_nm (n:List UInt8) (h:dZ n=0):Gd n:=by
 unfold dZ at h;split at h
 ·cases h
 split at h
 next hh=>exact gd_nmF n 0 hh.1
 next=>cases h
def PrB (c:UInt8):Prop:=32≤c.toNat∧c.toNat≤126
def Pr (l:List UInt8):Prop:=∀c∈l,PrB c
instance (c:UInt8):Decidable (PrB c):=by unfold PrB;infer_instance
instance (l:List UInt8):Decidable (Pr l):=by unfold Pr;infer_instance
theorem pr_app {a b:List UInt8} (ha:Pr a) (hb:Pr b):Pr (a++b):=fun c hc=>(List.mem_append.1 hc).elim (ha c) (hb c)
theorem gd_pr {a:List UInt8} (h:Gd a):Pr a:=fun c hc=>by have:=h c hc;unfold GdB at this;unfold PrB;omega
theorem Ga {a:List UInt8} (h:Gd a):a.contains 34=false:=by
 cases e:a.contains 34 with
 |false=>rfl
 |true=>
  rw[List.contains_iff_mem] at e;have:=h _ e;exact absurd this (by decide)
theorem pr_tx {a:List UInt8} (h:Gd a):Pr (oh a).1:=by
 unfold oh;split
 ·exact fun _ h=>by cases h
 split
 ·exact pr_app (pr_app (by decide) (gd_pr h)) (by decide)
 ·exact gd_pr h
theorem tx_len (x:List UInt8):(oh x).1.length≤x.length+2:=by
 unfold oh
 (repeat' split)<;>simp
theorem WU: ∀(l:List (List UInt8)),(∀x∈l,Gd x)→Pr (bL l).1∧(bL l).1.length≤oP l+3*l.length
 |[],_=>⟨fun _ h=>(by cases h),Nat.zero_le _⟩
 |x::l,h=>by
  obtain⟨i1,i2⟩:=WU l fun y hy=>h y (List.mem_cons_of_mem _ hy)
  have hx:=h x List.mem_cons_self;have e1:=Nv (Ga hx);have e2:=rO l fun y hy=>Ga (h y (List.mem_cons_of_mem _ hy))
  have e:(bL (x::l)).1=[32]++(oh x).1++(bL l).1:=by
   show(if(oh x).2=0 then(if(bL l).2=0 then(([32]++(oh x).1++(bL l).1,0):List UInt8×Int) else([],(bL l).2)) else([],(oh x).2)).1=_;rw[if_pos e1,if_pos e2]
  rw[e];refine⟨pr_app (pr_app (by decide) (pr_tx hx)) i1,?_⟩;have:=tx_len x;have ht:oP (x::l)=x.length+oP l:=rfl;rw[List.length_append,List.length_append,List.length_cons,List.length_cons,List.length_nil,ht];omega
theorem NC (l:List (List UInt8)) (h: ∀x∈l,Gd x) (hl:l.length≤16) (ht:oP l≤400):(fw l).2=0∧EE (fw l).1=(l,0)∧Pr (fw l).1∧(fw l).1.length≤oP l+3*l.length:=by
 have e:=rO l fun y hy=>Ga (h y hy)
 have h1:fw l=((bL l).1.drop 1,0):=by unfold fw;rw[if_neg (by omega),if_pos e]
 have h0:(fw l).2=0:=by rw[h1]
 obtain⟨p1,p2⟩:=WU l h;refine⟨h0,Wp l h0,?_,?_⟩
 ·rw[h1];exact fun c hc=>p1 c (List.mem_of_mem_drop hc)
 ·rw[h1];show((bL l).1.drop 1).length≤_;rw[List.length_drop];omega
theorem odd_no (s:List UInt8) (h:Pr s):Je s=false:=by
 unfold Je;rw[List.any_eq_false];intro c hc;have:=h c hc;unfold PrB at this;rw[bD (show 32≤(c.toNat:Int) by omega),bD (show(c.toNat:Int)≤126 by omega)]
 cases ieq (c.toNat:Int) 9<;>decide
theorem Fx (s:List UInt8) (h:Pr s) (hl:s.length≤511):Af s=0:=by
 unfold Af;rw[bD (by rw[aC];omega),odd_no s h];rfl
def rfS (n:List UInt8) (f t m k w d c b v:Int) (l:List UInt8):List (List UInt8):=[n,Ox f,y9 f t,[45],qd m,fe k w d,zX c b,zY v,I7 l]
theorem rf_good (n:List UInt8) (f t m k w d c b v:Int) (l:List UInt8) (h:RG n f t m k w d c b v l=true):(∀x∈rfS n f t m k w d c b v l,Gd x)∧oP (rfS n f t m k w d c b v l)≤400:=by
 rw[Nn] at h;obtain⟨h1,h2,h3,h4,h5,h6⟩:=h;constructor
 ·intro x hx
  unfold rfS at hx;simp only[List.mem_cons,List.not_mem_nil,or_false] at hx;rcases hx with rfl|rfl|rfl|rfl|rfl|rfl|rfl|rfl|rfl
  ·exact gd_nm _ h1
  ·exact gd_fx _
  ·exact gd_tx _ _
  ·decide
  ·exact gd_mo _
  ·exact gd_ds _ _ _
  ·exact gd_tc _ _
  ·exact MK _
  ·exact gd_lt _
 ·have n1:=zq n h1
  have n2:(Ox f).length≤25:=V7 f;have n3:(y9 f t).length≤25:=V8 f t;have n4:=Bn k w d;unfold qf at h3;rw[Bool.and_eq_true,decide_eq_true_eq] at h3;obtain⟨m1,m2,m3⟩:=AZ m h3.2.1 h3.2.2.1;obtain⟨c1,c2,c3,c4⟩:=A7 c b h4;obtain⟨a1,a2,a3⟩:=wJ v (by omega) (by omega);have l3:=(V5 l h6).1;show n.length+((Ox f).length+((y9 f t).length+(1+((qd m).length+((fe k w d).length+((zX c b).length+((zY v).length+((I7 l).length+0))))))))≤400;omega
def OW (h:Bool) (y m ok ow od c b:Int):List (List UInt8):=sel h (sel (ai (ieq c 0) (ieq b 0)) (sel (ai (ieq ok 0) (ai (ieq ow 0) (ieq od 1))) (sel (ieq m 1) [text y] [text y,qd m]) [text y,qd m,fe ok ow od]) [text y,qd m,fe ok ow od,zX c b]) []
def efS (o k v:Int) (r q:List UInt8) (h:Bool) (y m ok ow od c b:Int):List (List UInt8):=zY o::Sg k v r::q::OW h y m ok ow od c b
theorem WV (o k v:Int) (r q:List UInt8) (h:Bool) (y m ok ow od c b:Int):Si o k v r q h y m ok ow od c b=bF (efS o k v r q h y m ok ow od c b):=by
 unfold Si efS JY OW
 cases h<;>cases ai (ieq c 0) (ieq b 0)<;>cases ai (ieq ok 0) (ai (ieq ow 0) (ieq od 1))<;>cases ieq m 1<;>rfl
theorem ZN (y:Int) (h1: -32767<y) (h2:y<32767):(text y).length≤7:=by
 have h:(fP y.natAbs).length≤5:=(rH 5 y.natAbs (by omega) (by omega)).1;unfold text;rw[List.length_append];split
 ·rw[List.length_cons,List.length_nil];omega
 ·rw[List.length_nil];omega
theorem ef_good (o k v:Int) (r q:List UInt8) (h:Bool) (y m ok ow od c b:Int) (hR:z8 o k v r q h y m ok ow od c b=true):
  (∀x∈efS o k v r q h y m ok ow od c b,Gd x)∧oP (efS o k v r q h y m ok ow od c b)≤400∧(efS o k v r q h y m ok ow od c b).length≤7:=by
 rw[Nu] at hR;obtain⟨⟨o1,o2⟩,hq,hE,hK⟩:=hR;obtain⟨a1,a2,a3⟩:=wJ o (by omega) (by omega);have hM:Gd (Sg k v r)∧(Sg k v r).length≤64:=by
  unfold Sg
  cases e0:ieq k 0 with
  |true=>exact⟨(show Gd [45] by decide),(show([45]:List UInt8).length≤64 by decide)⟩
  |false=>
  cases e1:ieq k 1 with
  |true=>
   rw[e0,e1] at hK;have hK':(ak (-10800) v&&(ak v 10800&&seq r []))=true:=hK;rw[Bool.and_eq_true,Bool.and_eq_true,ay,ay] at hK';obtain⟨v1,v2,v3⟩:=wJ v (by omega) (by omega);exact⟨MK v,by show(zY v).length≤64;omega⟩
  |false=>
   rw[e0,e1] at hK
   cases e2:ieq k 2 with
   |false=>rw[e2] at hK;exact absurd (show false=true from hK) (by decide)
   |true=>
    rw[e2] at hK;have hK':(ieq v 0&&ieq (dZ r) 0)=true:=hK;rw[Bool.and_eq_true,aL,aL] at hK';exact⟨gd_nm r hK'.2,zq r hK'.2⟩
 have hQ:=Ns q hq;have hT:(∀x∈OW h y m ok ow od c b,Gd x)∧oP (OW h y m ok ow od c b)≤200∧(OW h y m ok ow od c b).length≤4:=by
  cases h with
  |false=>exact⟨fun _ h=>(by cases h),Nat.zero_le _,Nat.zero_le _⟩
  |true=>
   rw[Fs] at hE;obtain⟨⟨y1,y2⟩,hf,hc⟩:=hE;have hf':=hf;unfold qf at hf';rw[Bool.and_eq_true,decide_eq_true_eq] at hf';obtain⟨m1,m2,m3⟩:=AZ m hf'.2.1 hf'.2.2.1;obtain⟨c1,c2,c3,c4⟩:=A7 c b hc;have n4:=Bn ok ow od;have n1:=ZN y y1 y2;have G: ∀x∈[text y,qd m,fe ok ow od,zX c b],Gd x:=by
    intro x hx;simp only[List.mem_cons,List.not_mem_nil,or_false] at hx;rcases hx with rfl|rfl|rfl|rfl
    ·exact wK _
    ·exact gd_mo _
    ·exact gd_ds _ _ _
    ·exact gd_tc _ _
   unfold OW;refine⟨?_,?_,?_⟩
   ·cases ai (ieq c 0) (ieq b 0)<;>cases ai (ieq ok 0) (ai (ieq ow 0) (ieq od 1))<;>cases ieq m 1
    all_goals (intro x hx;refine G x ?_)
    all_goals first
     |exact List.mem_of_mem_take (i:=4) hx
     |exact List.mem_of_mem_take (i:=3) hx
     |exact List.mem_of_mem_take (i:=2) hx
     |exact List.mem_of_mem_take (i:=1) hx
   ·cases ai (ieq c 0) (ieq b 0)<;>cases ai (ieq ok 0) (ai (ieq ow 0) (ieq od 1))<;>cases ieq m 1
    all_goals first
     |(show(text y).length+((qd m).length+((fe ok ow od).length+((zX c b).length+0)))≤200;omega)
     |(show(text y).length+((qd m).length+((fe ok ow od).length+0))≤200;omega)
     |(show(text y).length+((qd m).length+0)≤200;omega)
     |(show(text y).length+0≤200;omega)
   ·cases ai (ieq c 0) (ieq b 0)<;>cases ai (ieq ok 0) (ai (ieq ow 0) (ieq od 1))<;>cases ieq m 1<;>exact Nat.le_of_ble_eq_true rfl
 refine⟨?_,?_,?_⟩
 ·intro x hx
  unfold efS at hx;rcases List.mem_cons.1 hx with rfl|hx
  ·exact MK _
  rcases List.mem_cons.1 hx with rfl|hx
  ·exact hM.1
  rcases List.mem_cons.1 hx with rfl|hx
  ·exact gd_ck _ hq
  ·exact hT.1 x hx
 ·show(zY o).length+((Sg k v r).length+(q.length+oP (OW h y m ok ow od c b)))≤400
  omega
 ·show(OW h y m ok ow od c b).length+1+1+1≤7
  omega
end Nt.Ev.YtplklcejbmfgdaaGreatDoor
namespace Nt.Ev.YtplklcejbmfgdaaGreatDoor.T6
open Go Nt.Num Go.Proofs.YtplklcejbmfgdaaGreatDoor
variable [nP]
class TA where
 (dZ:List UInt8→Int)
 (rB:List UInt8→Int→Int→Int→Int→Int→Int→Int→Int→Int→List UInt8→Bool)
 (rG:List UInt8→Int→Int→Int→Int→Int→Int→Int→Int→Int→List UInt8→Bool)
 (rfL:List UInt8→Int→Int→Int→Int→Int→Int→Int→Int→Int→List UInt8→List V)
 (eB:Int→Int→Int→List UInt8→List UInt8→Bool→Int→Int→Int→Int→Int→Int→Int→Bool)
 (eG:Int→Int→Int→List UInt8→List UInt8→Bool→Int→Int→Int→Int→Int→Int→Int→Bool)
 (Si:Int→Int→Int→List UInt8→List UInt8→Bool→Int→Int→Int→Int→Int→Int→Int→List V)
 (jnG:List V→Bool)
 (xg:List V→List UInt8)
 (ofG:List UInt8→Bool)
 (cK:List UInt8→List V)
 (rdG:List V→Bool)
 (edG:List V→Bool)
 (ckG:List UInt8→Bool)
 (R3:List V→List UInt8)
 (R4:List V→Int)
 (R5:List V→Int)
 (R6:List V→Int)
 (R7:List V→Int)
 (R8:List V→Int)
 (R9:List V→Int)
 (Sb:List V→Int)
 (Sc:List V→Int)
 (Sd:List V→Int)
 (za:List V→List UInt8)
 (RH:List V→Int)
 (UX:List V→Int)
 (RI:List V→Int)
 (Se:List V→List UInt8)
 (Sf:List V→List UInt8)
 (ED:List V→Bool)
 (RJ:List V→Int)
 (RL:List V→Int)
 (UY:List V→Int)
 (UZ:List V→Int)
 (Ak:List V→Int)
 (Al:List V→Int)
 (Am:List V→Int)
noncomputable abbrev dZ [TA]:List UInt8→Int:=TA.dZ
noncomputable abbrev rB [TA]:List UInt8→Int→Int→Int→Int→Int→Int→Int→Int→Int→List UInt8→Bool:=TA.rB
noncomputable abbrev rG [TA]:List UInt8→Int→Int→Int→Int→Int→Int→Int→Int→Int→List UInt8→Bool:=TA.rG
noncomputable abbrev rfL [TA]:List UInt8→Int→Int→Int→Int→Int→Int→Int→Int→Int→List UInt8→List V:=TA.rfL
noncomputable abbrev eB [TA]:Int→Int→Int→List UInt8→List UInt8→Bool→Int→Int→Int→Int→Int→Int→Int→Bool:=TA.eB
noncomputable abbrev eG [TA]:Int→Int→Int→List UInt8→List UInt8→Bool→Int→Int→Int→Int→Int→Int→Int→Bool:=TA.eG
noncomputable abbrev Si [TA]:Int→Int→Int→List UInt8→List UInt8→Bool→Int→Int→Int→Int→Int→Int→Int→List V:=TA.Si
noncomputable abbrev jnG [TA]:List V→Bool:=TA.jnG
noncomputable abbrev xg [TA]:List V→List UInt8:=TA.xg
noncomputable abbrev ofG [TA]:List UInt8→Bool:=TA.ofG
noncomputable abbrev cK [TA]:List UInt8→List V:=TA.cK
noncomputable abbrev rdG [TA]:List V→Bool:=TA.rdG
noncomputable abbrev edG [TA]:List V→Bool:=TA.edG
noncomputable abbrev ckG [TA]:List UInt8→Bool:=TA.ckG
noncomputable abbrev R3 [TA]:List V→List UInt8:=TA.R3
noncomputable abbrev R4 [TA]:List V→Int:=TA.R4
noncomputable abbrev R5 [TA]:List V→Int:=TA.R5
noncomputable abbrev R6 [TA]:List V→Int:=TA.R6
noncomputable abbrev R7 [TA]:List V→Int:=TA.R7
noncomputable abbrev R8 [TA]:List V→Int:=TA.R8
noncomputable abbrev R9 [TA]:List V→Int:=TA.R9
noncomputable abbrev Sb [TA]:List V→Int:=TA.Sb
noncomputable abbrev Sc [TA]:List V→Int:=TA.Sc
noncomputable abbrev Sd [TA]:List V→Int:=TA.Sd
noncomputable abbrev za [TA]:List V→List UInt8:=TA.za
noncomputable abbrev RH [TA]:List V→Int:=TA.RH
noncomputable abbrev UX [TA]:List V→Int:=TA.UX
noncomputable abbrev RI [TA]:List V→Int:=TA.RI
noncomputable abbrev Se [TA]:List V→List UInt8:=TA.Se
noncomputable abbrev Sf [TA]:List V→List UInt8:=TA.Sf
noncomputable abbrev ED [TA]:List V→Bool:=TA.ED
noncomputable abbrev RJ [TA]:List V→Int:=TA.RJ
noncomputable abbrev RL [TA]:List V→Int:=TA.RL
noncomputable abbrev UY [TA]:List V→Int:=TA.UY
noncomputable abbrev UZ [TA]:List V→Int:=TA.UZ
noncomputable abbrev Ak [TA]:List V→Int:=TA.Ak
noncomputable abbrev Al [TA]:List V→Int:=TA.Al
noncomputable abbrev Am [TA]:List V→Int:=TA.Am
variable [TA]
end Nt.Ev.YtplklcejbmfgdaaGreatDoor.T6
namespace Nt.Ev.YtplklcejbmfgdaaGreatDoor
open Go Go.RowKit Nt Nt.Num Nt.Civil Nt.Fld Go.Proofs.YtplklcejbmfgdaaGreatDoor
set_option maxRecDepth 100000
variable [nP]
theorem t_h {f:Nat} {args:List V} {r:V} (h:af hE f args r):af eE f args r:=af.env (E:=hE) rfl (fun n v h=>by cases h) h
theorem tNmS_ok (s:List UInt8) (hc:true=true):af eE 16 [.str s] (.int .i64 (dZ s)):=by
 by_cases h:s.length≤1000
 ·exact Ah (CZ s (bB (by rw[aC];omega)))
 ·refine Ah (aj Vn Mt 100 2 ?_)
  rw[Lb];unfold dZ;rw[aB (bE (by rw[aC];omega)),if_pos (by omega)]
theorem tChS_ok (s:List UInt8) (hc:true=true):af eE 45 [.str s] (.int .i64 (jy s)):=by
 by_cases h:s.length≤900
 ·exact Wn s (bB (by rw[aC];omega))
 ·refine Ah (toZf (aj F8 Tn 5 2 ?_))
  rw[IG];unfold jy;rw[aB (bE (by rw[aC];omega)),if_pos (by omega)]
theorem tLeS_ok (s:List UInt8) (hc:true=true):af eE 70 [.str s] (.tup [.str (Ag s),.int .i64 (zZ s)]):=by
 by_cases h:s.length≤900
 ·exact Ah (P5 s (bB (by rw[aC];omega)))
 ·refine Ah (toZf (aj F8 Mv 5 2 ?_))
  (rw[Eh];(conv=>zeta))
  have h1:s≠[45]:=fun e=>by rw[e] at h;exact h (by decide)
  unfold Ag zZ leP;rw[if_neg h1,if_pos (by omega),aW (by rw[←Bool.not_eq_true,dh];exact h1),aB (bE (by rw[aC];omega))]
theorem tSl_ok:bn eE tSl:=by
 unfold tSl;refine bn.cons (fun args r h=>?_) bn.nil;all_goals (revert h;intro h;first|unfold tLeS at h)
 all_goals (split at h;rotate_left; · cases h)
 all_goals (simp only[Option.some.injEq,Prod.mk.injEq] at h;obtain⟨hc,rfl⟩:=h)
 ·exact tLeS_ok _ rfl
theorem tLtS_ok (s:List UInt8) (hc:true=true):af eE 38 [.str s] (.tup [.str (I7 s),.int .i64 (RF s)]):=by
 refine aj iX tSl_ok 5 2 ?_
 (rw[tLT_top];(conv=>zeta))
 unfold I7 RF ltP;by_cases h1:s=[]
 ·rw[if_pos h1,aB (by rw[dh];exact h1)]
 ·rw[if_neg h1,aW (by rw[←Bool.not_eq_true,dh];exact h1)]
  by_cases h2:zZ s=0
  ·by_cases h3:Ag s=s
   ·rw[if_neg (fun e=>e.elim (fun x=>x h2) (fun x=>x h3)),aW (by rw[bq h2];rfl),aW (by rw[show seq (Ag s) s=true by rw[dh];exact h3];rfl)]
   ·rw[if_pos (.inr h3),aW (by rw[bq h2];rfl),aB (by rw[bZ,dh];exact h3)]
  ·rw[if_pos (.inl h2),aB (by rw[bZ,aL];exact h2)]
theorem TF:bn eE tS0:=by
 unfold tS0;refine bn.cons (fun args r h=>?_) (bn.cons (fun args r h=>?_) (bn.cons (fun args r h=>?_) (bn.cons (fun args r h=>?_) (bn.cons (fun args r h=>?_) (bn.cons (fun args r h=>?_) (bn.cons (fun args r h=>?_) (bn.cons (fun args r h=>?_) (bn.cons (fun args r h=>?_) (bn.cons (fun args r h=>?_) (bn.cons (fun args r h=>?_) (bn.cons (fun args r h=>?_) bn.nil)))))))))));all_goals (revert h;intro h;first|unfold tNmS at h|unfold tLtS at h|unfold tChS at h|unfold Cq at h|unfold zFxS at h|unfold zTxS at h|unfold Xp at h|unfold Xq at h|unfold Xr at h|unfold Xt at h|unfold Xu at h|unfold eNtS at h)
 all_goals (split at h;rotate_left; · cases h)
 all_goals (simp only[Option.some.injEq,Prod.mk.injEq] at h;obtain⟨hc,rfl⟩:=h)
 ·exact tNmS_ok _ rfl
 ·exact tLtS_ok _ rfl
 ·exact tChS_ok _ rfl
 ·exact Ah (C4 _ _ _ _ rfl)
 ·exact Ah (V2 _ rfl)
 ·exact Ah (V3 _ _ rfl)
 ·exact Ah (Nf _ _ _ rfl)
 ·exact Ah (Ng _ _ rfl)
 ·exact Ah (Nh _ _ rfl)
 ·exact Ah (Ni _ hc)
 ·exact Ah (Nj _ hc)
 ·exact Wm _ hc
theorem tRrS_ok (n:List UInt8) (f t m k w d c b v:Int) (l:List UInt8) (hc:true=true):af eE 14 [.agg [.str n,.int .i64 f,.int .i64 t,.int .i64 m,.int .i64 k,.int .i64 w,.int .i64 d,.int .i64 c,.int .i64 b,.int .i64 v,.str l]] (.bool (RG n f t m k w d c b v l)):=by
 refine aj iX TF 5 3 ?_
 (rw[tRR_top];(conv=>zeta))
 unfold RG;rw[←yr_eq]
 cases ieq (Xo f t) 0<;>cases ieq (fxW f) 0<;>cases ieq (RF l) 0<;>cases ieq (dZ n) 0<;>cases qf k w d m<;>cases iq c b<;>cases ak (-10800) v<;>cases ak v 10800<;>rfl
theorem WW (o k v:Int) (r q:List UInt8) (h:Bool) (y m ok ow od c b:Int) (hc:true=true):af eE 17 [.agg [.int .i64 o,.int .i64 k,.int .i64 v,.str r,.str q,.bool h,.int .i64 y,.int .i64 m,.int .i64 ok,.int .i64 ow,.int .i64 od,.int .i64 c,.int .i64 b]] (.bool (z8 o k v r q h y m ok ow od c b)):=by
 refine aj iX TF 5 3 ?_
 (rw[tER_top];(conv=>zeta);rw[show jN .i64 0 54000= -54000 by decide,show jN .i64 0 10800= -10800 by decide])
 unfold z8 enR
 cases ak (-54000) o with
 |false=>cases ieq k 0<;>cases ieq k 1<;>cases ieq k 2<;>rfl
 |true=>
 cases ak o 54000 with
 |false=>cases ieq k 0<;>cases ieq k 1<;>cases ieq k 2<;>rfl
 |true=>
 cases ieq (jy q) 0 with
 |false=>cases ieq k 0<;>cases ieq k 1<;>cases ieq k 2<;>rfl
 |true=>
 cases h with
 |false=>
  have e:ai (beq false false) (ai (ieq y 0) (ai (ieq m 0) (ai (ai (ieq ok 0) (ai (ieq ow 0) (ieq od 0))) (ai (ieq c 0) (ieq b 0)))))=(ai (ieq y 0) (ai (ieq m 0) (ai (ai (ieq ok 0) (ai (ieq ow 0) (ieq od 0))) (ai (ieq c 0) (ieq b 0))))):=rfl;rw[e];generalize ai (ieq y 0) (ai (ieq m 0) (ai (ai (ieq ok 0) (ai (ieq ow 0) (ieq od 0))) (ai (ieq c 0) (ieq b 0))))=z
  cases z with
  |false=>cases ieq k 0<;>cases ieq k 1<;>cases ieq k 2<;>rfl
  |true=>
  cases ieq k 0 with
  |true=>cases ieq v 0<;>rfl
  |false=>
  cases ieq k 1 with
  |true=>cases ak (-10800) v<;>cases ak v 10800<;>rfl
  |false=>cases ieq k 2<;>cases ieq v 0<;>rfl
 |true=>
  cases aU (-32767) y with
  |false=>cases ieq k 0<;>cases ieq k 1<;>cases ieq k 2<;>rfl
  |true=>
  cases aU y 32767 with
  |false=>cases ieq k 0<;>cases ieq k 1<;>cases ieq k 2<;>rfl
  |true=>
  cases qf ok ow od m with
  |false=>cases ieq k 0<;>cases ieq k 1<;>cases ieq k 2<;>rfl
  |true=>
  cases iq c b with
  |false=>cases ieq k 0<;>cases ieq k 1<;>cases ieq k 2<;>rfl
  |true=>
  cases ieq k 0 with
  |true=>cases ieq v 0<;>rfl
  |false=>
  cases ieq k 1 with
  |true=>cases ak (-10800) v<;>cases ak v 10800<;>rfl
  |false=>cases ieq k 2<;>cases ieq v 0<;>rfl
theorem tS1_ok:bn eE tS1:=by
 unfold tS1;refine bn.cons (fun args r h=>?_) (bn.cons (fun args r h=>?_) TF);all_goals (revert h;intro h;first|unfold tRrS at h|unfold tErS at h)
 all_goals (split at h;rotate_left; · cases h)
 all_goals (simp only[Option.some.injEq,Prod.mk.injEq] at h;obtain⟨hc,rfl⟩:=h)
 ·exact tRrS_ok _ _ _ _ _ _ _ _ _ _ _ rfl
 ·exact WW _ _ _ _ _ _ _ _ _ _ _ _ _ rfl
theorem tRFS_ok (n:List UInt8) (f t m k w d c b v:Int) (l:List UInt8) (hc:ai (ai (ak (-9223372036854775808) v) (ak v 9223372036854775807)) (ai (ak (-9223372036854775808) m) (ak m 9223372036854775807))=true):af eE 25 [.agg [.str n,.int .i64 f,.int .i64 t,.int .i64 m,.int .i64 k,.int .i64 w,.int .i64 d,.int .i64 c,.int .i64 b,.int .i64 v,.str l]] (.tup [.sl 9 [.str] none (rfV n f t m k w d c b v l),.int .i64 (rfE n f t m k w d c b v l)]):=by
 obtain⟨h1,h2⟩:=aR hc;refine BZ (L:=0) iX tS1_ok 5 2 ?_;rw[tRF_top,h1,h2];unfold rfV rfE
 cases hR:RG n f t m k w d c b v l<;>exact .inl rfl
theorem tEFS_ok (o k v:Int) (r q:List UInt8) (h:Bool) (y m ok ow od c b:Int) (hc:ai (ai (ai (ak (-9223372036854775808) o) (ak o 9223372036854775807)) (ai (ak (-9223372036854775808) v) (ak v 9223372036854775807))) (ai (ai (ak (-9223372036854775808) y) (ak y 9223372036854775807)) (ai (ak (-9223372036854775808) m) (ak m 9223372036854775807)))=true):af eE 28 [.agg [.int .i64 o,.int .i64 k,.int .i64 v,.str r,.str q,.bool h,.int .i64 y,.int .i64 m,.int .i64 ok,.int .i64 ow,.int .i64 od,.int .i64 c,.int .i64 b]] (.tup [.sl 9 [.str] none (RN o k v r q h y m ok ow od c b),.int .i64 (efE o k v r q h y m ok ow od c b)]):=by
 obtain⟨h3,h4⟩:=aR hc;obtain⟨h5,h6⟩:=aR h3;obtain⟨h7,h8⟩:=aR h4;refine BZ (L:=0) iX tS1_ok 9 2 ?_
 (rw[UQ];(conv=>zeta))
 unfold RN efE
 cases hR:z8 o k v r q h y m ok ow od c b with
 |false=>exact .inl rfl
 |true=>
  have hk:=erR_k o k v r q h y m ok ow od c b hR;rw[aW (show aK true=false from rfl),aB h5,aB h6,h7,h8];unfold Si Sg JY;rcases hk with rfl|rfl|rfl;all_goals
   cases h
   ·first|exact .inl rfl|exact .inr rfl
   ·cases ai (ieq c 0) (ieq b 0)<;>cases ai (ieq ok 0) (ai (ieq ow 0) (ieq od 1))<;>cases ieq m 1<;>first|exact .inl rfl|exact .inr rfl
def rRng (m v:Int):Bool:=(ai (ai (ak (-9223372036854775808) v) (ak v 9223372036854775807)) (ai (ak (-9223372036854775808) m) (ak m 9223372036854775807)))
def eRng (o v y m:Int):Bool:=(ai (ai (ai (ak (-9223372036854775808) o) (ak o 9223372036854775807)) (ai (ak (-9223372036854775808) v) (ak v 9223372036854775807))) (ai (ai (ak (-9223372036854775808) y) (ak y 9223372036854775807)) (ai (ak (-9223372036854775808) m) (ak m 9223372036854775807))))
theorem jn_strs (l:List (List UInt8)):xg (bF l)=(fw l).1∧jnW (bF l)=(fw l).2∧RO (bF l)=decide (oP l≤3000000):=by
 unfold xg jnW RO;rw[str_strs];exact⟨rfl,rfl,rfl⟩
namespace T6
noncomputable instance tA:TA where
 dZ:=Nt.Ev.YtplklcejbmfgdaaGreatDoor.dZ
 rB:=fun n f t m k w d c b v l=>ai (aK (RG n f t m k w d c b v l)) (rRng m v)
 rG:=fun n f t m k w d c b v l=>ai (RG n f t m k w d c b v l) (rRng m v)
 rfL:=Nt.Ev.YtplklcejbmfgdaaGreatDoor.rfL
 eB:=fun o k v r q h y m ok ow od c b=>ai (aK (z8 o k v r q h y m ok ow od c b)) (eRng o v y m)
 eG:=fun o k v r q h y m ok ow od c b=>ai (z8 o k v r q h y m ok ow od c b) (eRng o v y m)
 Si:=Nt.Ev.YtplklcejbmfgdaaGreatDoor.Si
 jnG:=fun xs=>ai (RO xs) (ieq (jnW xs) 0)
 xg:=Nt.Ev.YtplklcejbmfgdaaGreatDoor.xg
 ofG:=fun s=>ai (ak (au s) 4000000) (ieq (LP s) 0)
 cK:=Nt.Ev.YtplklcejbmfgdaaGreatDoor.cK
 rdG:=fun xs=>ai (gB xs) (ieq (Oy xs) 0)
 edG:=fun xs=>ai (gB xs) (ieq (kT xs) 0)
 ckG:=fun s=>ai (ak (au s) 4000000) (ieq (Af s) 0)
 R3:=Nt.Ev.YtplklcejbmfgdaaGreatDoor.R3
 R4:=Nt.Ev.YtplklcejbmfgdaaGreatDoor.R4
 R5:=Nt.Ev.YtplklcejbmfgdaaGreatDoor.R5
 R6:=Nt.Ev.YtplklcejbmfgdaaGreatDoor.R6
 R7:=Nt.Ev.YtplklcejbmfgdaaGreatDoor.R7
 R8:=Nt.Ev.YtplklcejbmfgdaaGreatDoor.R8
 R9:=Nt.Ev.YtplklcejbmfgdaaGreatDoor.R9
 Sb:=Nt.Ev.YtplklcejbmfgdaaGreatDoor.Sb
 Sc:=Nt.Ev.YtplklcejbmfgdaaGreatDoor.Sc
 Sd:=Nt.Ev.YtplklcejbmfgdaaGreatDoor.Sd
 za:=Nt.Ev.YtplklcejbmfgdaaGreatDoor.za
 RH:=Nt.Ev.YtplklcejbmfgdaaGreatDoor.RH
 UX:=Nt.Ev.YtplklcejbmfgdaaGreatDoor.UX
 RI:=Nt.Ev.YtplklcejbmfgdaaGreatDoor.RI
 Se:=Nt.Ev.YtplklcejbmfgdaaGreatDoor.Se
 Sf:=Nt.Ev.YtplklcejbmfgdaaGreatDoor.Sf
 ED:=Nt.Ev.YtplklcejbmfgdaaGreatDoor.ED
 RJ:=Nt.Ev.YtplklcejbmfgdaaGreatDoor.RJ
 RL:=Nt.Ev.YtplklcejbmfgdaaGreatDoor.RL
 UY:=Nt.Ev.YtplklcejbmfgdaaGreatDoor.UY
 UZ:=Nt.Ev.YtplklcejbmfgdaaGreatDoor.UZ
 Ak:=Nt.Ev.YtplklcejbmfgdaaGreatDoor.Ak
 Al:=Nt.Ev.YtplklcejbmfgdaaGreatDoor.Al
 Am:=Nt.Ev.YtplklcejbmfgdaaGreatDoor.Am
theorem n1:aK (ieq (dZ [49]) 10)=false:=by
 have h:Nt.Ev.YtplklcejbmfgdaaGreatDoor.dZ [49]=10:=by decide
 show aK (ieq (Nt.Ev.YtplklcejbmfgdaaGreatDoor.dZ [49]) 10)=false;rw[h];rfl
theorem bN:aK true=false:=rfl
end T6
end Nt.Ev.YtplklcejbmfgdaaGreatDoor
