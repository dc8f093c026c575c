/-
  The plain law of amounts: pieces between colons, parts, sums.
-/
import Derived.Test.YtjcencojgajgdaaGreatDoorMC
import Derived.Lib.Split
import Derived.Test.YtjcencojgajgdaaGreatDoorMS
set_option linter.all false
set_option maxRecDepth 100000
namespace Nt.aQ
open Go Go.RowKit Nt Nt.Num
def pieces:af→List (af)
 |[]=>[[]]
 |c::l=>if c==58 then[]::pieces l else(c::(pieces l).headD [])::(pieces l).tail
def least (i:Nat):Nat:=if i=0 then 1 else 2
def most (i:Nat):Nat:=if i=0 then 3 else 2
def unit (i:Nat):Nat:=if i=0 then 3600 else if i=1 then 60 else 1
def ok (l:af) (least most:Nat):Bool:=decide (least≤l.length)&&decide (l.length≤most)&&l.all isDigit
def part (l:af) (least most:Nat):Int×Bool:=if ok l least most then((val l:Nat),true) else(0,false)
def uJ (P:List (af)):Nat→Bool
 |0=>true
 |k+1=>uJ P k&&ok (P.getD k []) (least k) (most k)
def qG (P:List (af)):Nat→Bool
 |0=>true
 |k+1=>qG P k&&(decide (k=0)||decide (val (P.getD k [])≤59))
def Aw (P:List (af)):Nat→Nat
 |0=>0
 |k+1=>Aw P k+val (P.getD k [])*unit k
def told (P:List (af)) (below:Bool):Int×Int:=
 if decide (3<P.length)|| !uJ P P.length then(0,2)
 else if !qG P P.length||decide (604800≤Aw P P.length) then(0,1)
 else(if below then -(Aw P P.length:Int) else(Aw P P.length:Int),0)
def read (l:af):Int×Int:=if l=[45] then(0,0) else told (pieces (bare l)) (minus l)
def two (n:Nat):af:=[digit (n/10),digit (n%10)]
def text (n:Int):af×Int:=
 if n≤ -604800∨604800≤n then([],1)
 else if n=0 then([48],0)
 else((if n<0 then[45] else[])++gy (n.natAbs/3600)++[58]++two (n.natAbs/60%60)++(if 0<n.natAbs%60 then 58::two (n.natAbs%60) else[]),0)
theorem goodK_le (P:List (af)) (k:Nat): ∀m,k≤m→uJ P m=true→uJ P k=true:=by
 intro m;induction m with
 |zero=>
    intro h a;have e:k=0:=by omega
    rw[e];exact a
 |succ m b=>
  intro h a;by_cases e:k=m+1
  ·rw[e];exact a
  unfold uJ at a;rw[bF] at a;exact b (by omega) a.1
theorem aeh (l:af):pieces l≠[]:=by
 cases l with
 |nil=>simp[pieces]
 |cons c l=>unfold pieces;split<;>simp
theorem Cg: ∀(s:af),Lib.splitK [58] 0 (Lib.count s [58]) s=pieces s
 |[]=>by
  have h:Lib.index [] [58]= -1:=by decide
  rw[Lib.count_miss h];rfl
 |c::l=>by
  have d:=Cg l;by_cases f:c=58
  ·subst f
   have h:Lib.index (58::l) [58]=(0:Nat):=by unfold Lib.index;simp
   rw[Lib.count_hit (by simp) h,abS 1];unfold Lib.splitK;rw[if_neg (by rw[h];decide),h];have m:List.take (Int.toNat (((0:Nat):Int))+0) (58::l)=([]:af):=rfl;have o:List.drop (Int.toNat (((0:Nat):Int))+[(58:UInt8)].length) (58::l)=l:=rfl;have n:List.drop (0+[(58:UInt8)].length) (58::l)=l:=rfl;rw[m,o,n,d];conv=>rhs;unfold pieces
   rw[if_pos (by rfl)]
  have g:([58]:af).isPrefixOf (c::l)=false:=by simp only[List.isPrefixOf,ac6,uD];exact fun e=>f e.symm
  have b:pieces (c::l)=(c::(pieces l).headD [])::(pieces l).tail:=by
   conv=>lhs;unfold pieces
   rw[if_neg (by simpa using f)]
  by_cases j:Lib.index l [58]= -1
  ·have h:Lib.index (c::l) [58]= -1:=by unfold Lib.index;rw[g,j];rfl
   rw[Lib.count_miss h,b,←d,Lib.count_miss j];rfl
  have k:=Lib.index_ge l [58];obtain⟨i,a⟩: ∃i:Nat,Lib.index l [58]=i:=⟨(Lib.index l [58]).toNat,by omega⟩
  have h:Lib.index (c::l) [58]=((i+1:Nat):Int):=by unfold Lib.index;rw[g,a];simp only[GU,CK];rw[if_neg (by rw[iJ];omega)];rfl
  rw[Lib.count_hit (by simp) a,abS 1] at d;rw[Lib.count_hit (by simp) h,abS 1,b,←d];unfold Lib.splitK;rw[if_neg (by rw[h,iJ];omega),h,if_neg (by rw[a,iJ];omega),a];simp only[K7,WY,acp,List.headD_cons,List.tail_cons,Ec,acP]
def glue (p:af) (P:List (af)):List (af):=(p++P.headD [])::P.tail
theorem glue_nil (l:af):glue [] (pieces l)=pieces l:=by
 unfold glue
 cases e:pieces l with
 |nil=>exact absurd e (aeh l)
 |cons a t=>rfl
theorem glue_end (p:af):glue p (pieces [])=[p]:=by simp[glue,pieces]
theorem Wq (p l:af):glue p (pieces (58::l))=p::pieces l:=by simp[glue,pieces]
theorem EU (p l:af) (h: ∀c∈p,c≠58):pieces (p++l)=glue p (pieces l):=by
 induction p with
 |nil=>exact(glue_nil l).symm
 |cons c p b=>
  have d:=b (fun c a=>h c (.tail _ a));have a:c≠58:=h c (.head _);show pieces (c::(p++l))=_;conv=>lhs;unfold pieces
  rw[if_neg (by simpa using a),d];simp[glue]
theorem JS (p:af) (h: ∀c∈p,c≠58):pieces p=[p]:=by have:=EU p [] h;rw[FC] at this;rw[this,glue_end]
theorem uw (p l:af) (h: ∀c∈p,c≠58):pieces (p++58::l)=p::pieces l:=by rw[EU p _ h,Wq]
theorem aei (p:af) (h:p.all isDigit=true): ∀c∈p,c≠58:=by intro c a e;have:=List.all_eq_true.1 h c a;rw[e] at this;exact absurd this (by decide)
theorem QZ {p:af} {l m:Nat} (h:ok p l m=true): ∀c∈p,c≠58:=by unfold ok at h;rw[bF] at h;exact aei p h.2
theorem pieces2 {p q:af} {l m d c:Nat} (a:ok p l m=true) (b:ok q d c=true):pieces (p++([58]++q))=[p,q]:=by rw[show p++([58]++q)=p++58::q from rfl,uw p q (QZ a),JS q (QZ b)]
theorem pieces3 {p q r:af} {l m f e b a:Nat} (c:ok p l m=true) (d:ok q f e=true) (g:ok r b a=true):pieces (p++([58]++q)++([58]++r))=[p,q,r]:=by rw[show p++([58]++q)++([58]++r)=p++58::(q++58::r) by simp,uw p _ (QZ c),uw q _ (QZ d),JS r (QZ g)]
theorem two_ok: ∀k:Fin 100,ok (two k) 2 2=true∧val (two k)=k:=by decide
theorem told2 {p q:af} {b:Bool} (c:ok p 1 3=true) (f:ok q 2 2=true) (a:val q≤59) (h:val p*3600+val q*60<604800):
  told [p,q] b=(if b then -((val p*3600+val q*60:Nat):Int) else((val p*3600+val q*60:Nat):Int),0):=by
 have g:uJ [p,q] 2=true:=by show(true&&ok p 1 3&&ok q 2 2)=true;rw[c,f];rfl
 have d:qG [p,q] 2=true:=by show(true&&(true||decide (val p≤59))&&(false||decide (val q≤59)))=true;rw[uG a];simp
 have e:Aw [p,q] 2=val p*3600+val q*60:=by show 0+val p*3600+val q*60=_;omega
 unfold told;rw[show[p,q].length=2 from rfl,g,d,e,uP (by omega: ¬604800≤_),uP (by omega: ¬3<2)];rfl
theorem told3 {p q r:af} {b:Bool} (c:ok p 1 3=true) (f:ok q 2 2=true) (h:ok r 2 2=true):
  told [p,q,r] b=if 59<val q∨59<val r∨604800≤val p*3600+val q*60+val r then(0,1) else(if b then -((val p*3600+val q*60+val r:Nat):Int) else((val p*3600+val q*60+val r:Nat):Int),0):=by
 have j:uJ [p,q,r] 3=true:=by show(true&&ok p 1 3&&ok q 2 2&&ok r 2 2)=true;rw[c,f,h];rfl
 have d:qG [p,q,r] 3=(decide (val q≤59)&&decide (val r≤59)):=by show(true&&(true||decide (val p≤59))&&(false||decide (val q≤59))&&(false||decide (val r≤59)))=_;simp
 have e:Aw [p,q,r] 3=val p*3600+val q*60+val r:=by show 0+val p*3600+val q*60+val r*1=_;omega
 unfold told;rw[show[p,q,r].length=3 from rfl,j,d,e,uP (by omega: ¬3<3),if_neg (show¬((false|| !true)=true) by decide)];by_cases i:59<val q
 ·rw[if_pos (Or.inl i:59<val q∨59<val r∨604800≤val p*3600+val q*60+val r),uP (by omega: ¬val q≤59)];rfl
 by_cases g:59<val r
 ·rw[if_pos (Or.inr (Or.inl g):59<val q∨59<val r∨604800≤val p*3600+val q*60+val r),uP (by omega: ¬val r≤59),Bool.and_false];rfl
 rw[uG (by omega:val q≤59),uG (by omega:val r≤59)];by_cases a:604800≤val p*3600+val q*60+val r
 ·rw[if_pos (Or.inr (Or.inr a):59<val q∨59<val r∨604800≤val p*3600+val q*60+val r),uG a];rfl
 rw[uP a,if_neg (show¬((!(true&&true)||false)=true) by decide),if_neg (show¬(59<val q∨59<val r∨604800≤val p*3600+val q*60+val r) by omega)]
end Nt.aQ
namespace Nt.Ev.YtjcencojgajgdaaGreatDoor
open Go Nt.Num Go.Proofs.YtjcencojgajgdaaGreatDoor
noncomputable def lW (s:af):ah:=bI (aQ.pieces s)
noncomputable def pok (s:af) (l m:Int):Bool:=decide (l≤(s.length:Int))&&decide ((s.length:Int)≤m)&&s.all isDigit
noncomputable def Em (s:af) (l m:Int):Int:=if pok s l m then(val s:Int) else 0
noncomputable def HV (s:af) (l m:Int):Bool:=pok s l m
noncomputable def ZT (n:Int):af:=aQ.two n.toNat
noncomputable def ZU (n:Int):af:=(aQ.text n).1
variable [kH]
noncomputable def U9:V:=.rptr [.int .i64,.int .i64,.int .i64,.int .i64,.int .i64,.int .i64,.int .i64,.int .i64,.int .i64] (.agg [.int .i64 1,.int .i64 3,.int .i64 3600,.int .i64 2,.int .i64 2,.int .i64 60,.int .i64 2,.int .i64 2,.int .i64 1]) 0
noncomputable def aE:Env:=⟨Go.Proofs.Tryz.prog,fun g=>bif g==4 then some U9 else bif g==3 then some (.rptr [.int .i64] (.int .i64 kH.val) 0) else none⟩
noncomputable def XE (m:Int):Bool:=ak (ax (-9223372036854775808) m) (ax m 9223372036854775807)
noncomputable def textS:aD:=fun a=>match a with|[.int .i64 m]=>some (XE m,.str (text m))|_=>none
noncomputable def splitS:aD:=fun a=>match a with|[.str s,.str sep]=>some (ak (seq sep [58]) (ax (aB s) 1000),.sl 9 [.str] none (lW s))|_=>none
noncomputable def readS:aD:=fun a=>match a with|[.agg [.int .i64 l,.int .i64 m,.int .i64 u],.str s]=>some (ak (ax 1 l) (ax m 3),.tup [.int .i64 (Em s l m),.bool (HV s l m)])|_=>none
noncomputable def twoA:aD:=fun a=>match a with|[.int .i64 n]=>some (ak (ax 0 n) (ax n 59),.str (dZ [58] (ZT n)))|_=>none
noncomputable def posS (b:Bool):aD:=fun a=>match a with|[.int .i64 n]=>some (ak b (ak (ax 1 n) (ax n 604799)),.tup [.str (ZU n),.int .i64 0])|_=>none
noncomputable def aS:List (Nat×aD):=(52,textS)::(167,splitS)::[]
noncomputable def bS:List (Nat×aD):=(168,readS)::aS
noncomputable def tS:List (Nat×aD):=(55,twoA)::aS
noncomputable def uS (b:Bool):List (Nat×aD):=(35,posS b)::tS
noncomputable def BF:=fun F k n f a c o j l m h g i e d b K=>(bR aE aS F 1 168 [1,1,1,0,1,0] k K n (fB 42 [(0,V.agg [V.int .i64 f,V.int .i64 a,V.int .i64 c]),(1,V.str o),(2,V.box 2 0),(4,V.int .i64 j),(5,V.bool l),(6,V.int .i64 m),(22,V.sl 5 [Kd.int .u8] none h),(23,V.int .i64 g),(24,V.int .i64 i)] [(2,[V.int .i64 e,V.int .i64 d,V.int .i64 b])]):Option V)
theorem aej (F s l m u) (K:V→Option V):
 bE aE (bC aE aS F 1) F 168 [V.agg [V.int .i64 l,V.int .i64 m,V.int .i64 u],V.str s] K=
 let A:=K (V.tup [V.int .i64 0,V.bool false]);sel (aR (aB s) l) A (sel (aR m (aB s)) A (sel (Le s) (BF F [] F l m u s 0 false 0 (aH s) (ay (aH s)) 0 l m u K) none)):=by kernel_rfl
theorem KU (F n h c e m k l j b i a g f d K):
 BF F [] (n+1) h c e m k l j b i a g f d K=
 let A:=asInt (ai (aG b a) 0);let B:=K (V.tup [V.int .i64 0,V.bool false]);sel (aR a i) (sel (ak (ax 0 a) (aR a (ay b))) (sel (aR A 48) B (sel (aR 57 A) B (BF F [] n h c e m k l (bg .i64 (mD .i64 j 10) (qo .i64 (dB .u8 A 48))) b i (bg .i64 a 1) g f d K))) none) (K (V.tup [V.int .i64 j,V.bool true])):=by kernel_rfl
theorem atwo_top (F n) (K:V→Option V):
 bE aE (bC aE aS F 2) F 55 [V.int .i64 n] K=
 let A:=gF .i64 n 10;let B:=tF n 10;let C:=dZ [58] (text A);sel (ak (ax (-9223372036854775808) A) (ax A 9223372036854775807)) (sel (fC [58] (text A)) (sel (ak (ax (-9223372036854775808) B) (ax B 9223372036854775807)) (sel (fC C (text B)) (K (V.str (dZ C (text B)))) none) none) none) none:=by kernel_rfl
theorem MN (a F m) (K:V→Option V):
 bE aE (bC aE (uS a) F 2) F 35 [V.int .i64 m] K=
 let B:=gF .i64 (tF m 3600) 60;let C:=gF .i64 m 3600;let D:=dB .i64 0 m;let E:=tF m 60;let G:=K (V.tup [V.str [],V.int .i64 1]);let H:=V.int .i64 0;let I:=dZ [58] (ZT B);let J:=dZ [58] (ZT E);let A:=dZ (text C) I;sel (ax m (-604800)) G (sel (ax 604800 m) G (sel (ieq m 0) (sel (ak (ax (-9223372036854775808) m) (ax m 9223372036854775807)) (K (V.tup [V.str (text m),H])) none) (sel (aR m 0) (sel (ak a (ak (ax 1 D) (ax D 604799))) (sel (fC [45] (ZU D)) (K (V.tup [V.str (dZ [45] (ZU D)),H])) none) none) (sel (ak (ax (-9223372036854775808) C) (ax C 9223372036854775807)) (sel (ak (ax 0 B) (ax B 59)) (sel (fC (text C) I) (sel (aR 0 E) (sel (ak (ax 0 E) (ax E 59)) (sel (fC A J) (K (V.tup [V.str (dZ A J),H])) none) none) (K (V.tup [V.str A,H]))) none) none) none)))):=by kernel_rfl
noncomputable def pQ:=fun F g n d k i e l h j f c a b K=>(bR aE bS F 3 141 [1,1,1,1,1,1,1,0,1,0] g K n (fB 72 [(0,V.str d),(2,V.int .i64 k),(3,V.int .i64 i),(4,V.str e),(5,V.bool l),(6,V.sl 9 [Kd.str] none h),(7,V.int .i64 j),(8,V.int .i64 f),(28,V.sl 9 [Kd.str] none c),(29,V.int .i64 a),(30,V.int .i64 b)] []):Option V)
theorem aek (F s) (K:V→Option V):
 bE aE (bC aE bS F 3) F 141 [V.str s] K=
 let C:=aB [45];let H:=lW s;let I:=V.int .i64 0;let B:=dQ s C (aB s);let D:=K (V.tup [I,V.int .i64 2]);let E:=ak (ax 0 C) (ax C (aB s));let A:=sel (ak (seq [58] [58]) (ax (aB s) 1000)) (sel (aR 3 (ay H)) D (pQ F [] F s 0 0 s false H 0 0 H (ay H) 0 K)) (none);let G:=lW B;sel (ax C (aB s)) (sel E (sel (aL (seq (dQ s 0 C) [45])) A (sel E (sel (seq B []) (K (V.tup [I,I])) (sel (ak (seq [58] [58]) (ax (aB B) 1000)) (sel (aR 3 (ay G)) D (pQ F [] F s 0 0 B true G 0 0 G (ay G) 0 K)) none)) none)) none) A:=by kernel_rfl
theorem KV (F n f j h g e k i d b c a K):
 pQ F [] (n+1) f j h g e k i d b c a K=
 let E:=ak (ax 0 a) (aR a 3);let G:=V.int .i64 0;let H:=V.int .i64 2;let I:=V.int .i64 1;let M:=aF (ai (aG b a) 0);let O:=bg .i64 a 1;let A:=aG [V.agg [I,V.int .i64 3,V.int .i64 3600],V.agg [H,H,V.int .i64 60],V.agg [H,H,I]] a;let N:=K (V.tup [G,I]);let J:=asInt (ai A 0);let L:=asInt (ai A 1);let D:=Em M J L;let B:=bg .i64 d (mD .i64 D (asInt (ai A 2)));let C:=sel E (pQ F [] n f j h g e k i B b c O K) (none);sel (aR a c) (sel (ak (ax 0 a) (aR a (ay b))) (sel E (sel (ak (ax 1 J) (ax L 3)) (sel (aL (HV M J L)) (K (V.tup [G,H])) (sel (aR 0 a) (sel (ax 60 D) (sel E (pQ F [] n f j h g e k 1 B b c O K) none) C) C)) none) none) none) (sel (aL (ieq i 0)) N (sel (ax 604800 d) N (sel e (K (V.tup [V.int .i64 (dB .i64 0 d),G])) (K (V.tup [V.int .i64 d,G]))))):=by kernel_rfl
theorem AV:uQ aE:=⟨by kernel_rfl,by kernel_rfl⟩
theorem toA {f:Nat} {args:ah} {r:V} (h:aj nE f args r):aj aE f args r:=aj.env (E:=nE) rfl (fun n v h=>by cases h) h
theorem ael {m:Int} (h:XE m=true):Fits m:=by unfold XE at h;rw[aM,aA,aA] at h;exact h
theorem textS_ok (m:Int) (a:XE m=true):aj aE 52 [.int .i64 m] (.str (text m)):=toA (BA m (ael a))
theorem aem (s a:af) (b:ak (seq a [58]) (ax (aB s) 1000)=true):aj aE 167 [.str s,.str a] (.sl 9 [.str] none (lW s)):=by rw[aM,aA,dx,aJ] at b;obtain⟨rfl,b⟩:=b;have e:=aQ.Cg s;have c:=J8 (E:=aE) (f:=167) (T:=9) (mx:=3) (mv:=kH.val) rfl s [58] (by decide) (by omega) (fun s a m w g d h=>Go.Proofs.Tryz.strings_Split s a m w g d h);rw[e] at c;exact c
theorem XF:aZ aE aS:=by
 unfold aS;refine aZ.cons (fun args r h=>?_) (aZ.cons (fun args r h=>?_) aZ.nil);all_goals (revert h;intro h;first|unfold textS at h|unfold splitS at h)
 all_goals (split at h;rotate_left; · cases h)
 all_goals (simp only[aT,bP] at h;obtain⟨a,rfl⟩:=h)
 ·exact textS_ok _ a
 exact aem _ _ a
theorem Gg (s:af) (l m:Int):pok s l m=true↔(l≤(s.length:Int)∧(s.length:Int)≤m∧s.all isDigit=true):=by unfold pok;rw[bF,bF,lK,lK,and_assoc]
noncomputable def Q0 (s:af) (l m:Int):V:=.tup [.int .i64 (Em s l m),.bool (HV s l m)]
theorem partR_t {s:af} {l m:Int} (h:pok s l m=true):Q0 s l m=.tup [.int .i64 (val s:Int),.bool true]:=by unfold Q0 Em HV;rw[if_pos h,h]
theorem O5 {s:af} {l m:Int} (h: ¬pok s l m=true):Q0 s l m=.tup [.int .i64 0,.bool false]:=by unfold Q0 Em HV;rw[if_neg h,Bool.eq_false_iff.2 h]
theorem aen (s:af) (k:Nat) (a:k<s.length):asInt (ai (aG (aH s) (k:Int)) 0)=((s.getD k 0).toNat:Int):=by unfold aH;rw[fo,l7,uE,iK a,l7,iK a];rfl
theorem Ws (F:Nat) (K:V→Option V) (s:af) (l m u j:Int) (v:s.length≤3): ∀(n k:Nat),k≤s.length→s.length-k<n→(s.take k).all isDigit=true→
  BF F [] n l m u s j false (val (s.take k):Int) (aH s) (s.length:Int) (k:Int) l m u K=K (if s.all isDigit=true then .tup [.int .i64 (val s:Int),.bool true] else .tup [.int .i64 0,.bool false]):=by
 intro n;induction n with
 |zero=>intro k _ h;omega
 |succ n r=>
  intro k x w d
  (rw[KU];(conv=>zeta))
  have o:(aH s).length=s.length:=by unfold aH;simp
  simp only[bM,bq,aA,aM,aJ,aC,o];by_cases q:k=s.length
  ·rw[if_neg (by omega)]
   rw[q,abH] at d⊢;rw[if_pos d]
  have a:k<s.length:=by omega
  rw[if_pos (by omega),if_pos (by omega),aen s k a];have b:s.getD k 0∈s:=by rw[l7,iK a];exact GV a
  by_cases i:(s.getD k 0).toNat<48
  ·rw[if_pos (by omega),if_neg]
   intro f;have:=(wK _).1 (List.all_eq_true.1 f _ b);omega
  rw[if_neg (by omega)];by_cases g:57<(s.getD k 0).toNat
  ·rw[if_pos (by omega),if_neg]
   intro f;have:=(wK _).1 (List.all_eq_true.1 f _ b);omega
  rw[if_neg (by omega)];have c:(s.take (k+1)).all isDigit=true:=by rw[acB,iK a,adb,d];rw[l7,iK a] at i g;simp only[yU] at i g;have:isDigit s[k]=true:=(wK _).2 ⟨by omega,by omega⟩;simp[this]
  have y:=Bw s k a;have e:=val_lt (s.take (k+1)) c (k+1);rw[acX,Nat.min_self] at e;have z:10 ^ (k+1)≤10 ^ 3:=abp (by decide) (by omega);have p:bg .i64 (k:Int) 1=((k+1:Nat):Int):=by rw[cr (by omega)];rfl
  have t:bg .i64 (mD .i64 (val (s.take k):Int) 10) (qo .i64 (dB .u8 ((s.getD k 0).toNat:Int) 48))=(val (s.take (k+1)):Int):=by rw[isubu8 (by omega),icnv64 (by omega),og (by omega),cr (by omega)];omega
  rw[p,t];exact r (k+1) (by omega) (by omega) c
theorem apart_ev (s:af) (l m u:Int) (f:1≤l) (e:m≤3):aj aE 168 [.agg [.int .i64 l,.int .i64 m,.int .i64 u],.str s] (Q0 s l m):=by
 refine au AV XF 5 1 ?_
 (rw[aej];(conv=>zeta))
 simp only[bM,bq,aA,DL,aJ];by_cases c:(s.length:Int)<l
 ·rw[if_pos c,O5 (by rw[Gg];omega)]
 rw[if_neg c];by_cases b:m<(s.length:Int)
 ·rw[if_pos b,O5 (by rw[Gg];omega)]
 rw[if_neg b,if_pos (by omega)];have d:ay (aH s)=(s.length:Int):=by unfold ay aH;simp
 rw[d];have:=Ws 5 some s l m u 0 (by omega) 5 0 (by omega) (by omega) rfl;by_cases a:s.all isDigit=true
 ·rw[partR_t (by rw[Gg];exact⟨by omega,by omega,a⟩)]
  rw[if_pos a] at this;exact this
 rw[O5 (by rw[Gg];exact fun h=>a h.2.2)];rw[if_neg a] at this;exact this
theorem JU (k:Nat) (h:k<10):text (k:Int)=[digit k]:=by unfold text;rw[if_neg (by omega),abW,lq k h];rfl
theorem atwo_ev (k:Nat) (h:k≤59):aj aE 55 [.int .i64 (k:Int)] (.str (dZ [58] (ZT (k:Int)))):=by
 refine au AV XF 5 2 ?_
 (rw[atwo_top];(conv=>zeta))
 simp only[bM,aA,aM,gV];have b:gF .i64 (k:Int) 10=((k/10:Nat):Int):=by rw[pI (by omega) (by omega) (by omega)];rfl
 have a:tF (k:Int) 10=((k%10:Nat):Int):=by rw[nL (by omega)];rfl
 rw[b,a,JU _ (by omega),JU _ (by omega),if_pos (by omega),if_pos (by simp),if_pos (by omega),if_pos (by simp[dZ])];rfl
def oo (k:Nat):af:=text ((k/3600:Nat):Int)
theorem hour_eq (k:Nat):text ((k/3600:Nat):Int)=oo k:=rfl
def qw (k:Nat):af:=oo k++([58]++aQ.two (k/60%60))++(if 0<k%60 then[58]++aQ.two (k%60) else[])
theorem Bh (k:Nat) (a:1≤k) (b:k≤604799):aQ.text (k:Int)=(qw k,0):=by
 have e:oo k=gy (k/3600):=by unfold oo text;rw[if_neg (by omega),abW];rfl
 unfold aQ.text qw;rw[if_neg (by omega),if_neg (by omega),if_neg (by omega),abW,e];split<;>simp
theorem O1 (k:Nat) (a:1≤k) (b:k≤604799):aQ.text (-(k:Int))=([45]++qw k,0):=by
 have e:oo k=gy (k/3600):=by unfold oo text;rw[if_neg (by omega),abW];rfl
 unfold aQ.text qw;rw[if_neg (by omega),if_neg (by omega),if_pos (by omega),Int.natAbs_neg,abW,e];split<;>simp
theorem Yt (n:Int) (h:n≤ -604800∨604800≤n):aQ.text n=([],1):=by unfold aQ.text;rw[if_pos h]
theorem amt_nil:aQ.text 0=([48],0):=by unfold aQ.text;rw[if_neg (by omega),if_pos rfl]
theorem RX (k:Nat) (a:k≤604799):(oo k).length≤21:=(vX _ (by unfold Fits;omega)).1
theorem O6 (k:Nat):(aQ.two k).length=2:=rfl
theorem I7 (k:Nat) (a:k≤604799):(qw k).length≤27:=by unfold qw;have:=RX k a;split<;>simp[O6]<;>omega
theorem I8 (k:Nat) (a:1≤k) (b:k≤604799):ZU (k:Int)=qw k:=by unfold ZU;rw[Bh k a b]
theorem twoI_nat (k:Nat):ZT (k:Int)=aQ.two k:=rfl
def amtV (n:Int):V:=.tup [.str (aQ.text n).1,.int .i64 (aQ.text n).2]
theorem twoA_ok (n:Int) (a:ak (ax 0 n) (ax n 59)=true):aj aE 55 [.int .i64 n] (.str (dZ [58] (ZT n))):=by
 rw[aM,aA,aA] at a;obtain⟨k,rfl⟩: ∃k:Nat,n=k:=⟨n.toNat,by omega⟩
 exact atwo_ev k (by omega)
theorem tS_ok:aZ aE tS:=by
 unfold tS;refine aZ.cons (fun args r h=>?_) XF;all_goals (revert h;intro h;first|unfold twoA at h)
 all_goals (split at h;rotate_left; · cases h)
 all_goals (simp only[aT,bP] at h;obtain⟨a,rfl⟩:=h)
 ·exact twoA_ok _ a
theorem uF_ok:aZ aE (uS false):=by
 unfold uS;refine aZ.cons (fun args r h=>?_) tS_ok;unfold posS at h;split at h
 ·simp only[aT,bP] at h
  obtain⟨a,rfl⟩:=h
  cases a
 cases h
theorem aeo (k:Nat) (h:k≤604799):gF .i64 (k:Int) 3600=((k/3600:Nat):Int)∧gF .i64 (tF (k:Int) 3600) 60=((k/60%60:Nat):Int)∧tF (k:Int) 60=((k%60:Nat):Int)∧tF (gF .i64 (k:Int) 60) 60=((k/60%60:Nat):Int):=by
 have b:tF (k:Int) 3600=((k%3600:Nat):Int):=by rw[nL (by omega)];rfl
 have a:gF .i64 (k:Int) 60=((k/60:Nat):Int):=by rw[pI (by omega) (by omega) (by omega)];rfl
 refine⟨by rw[pI (by omega) (by omega) (by omega)];rfl,?_,by rw[nL (by omega)];rfl,?_⟩
 ·rw[b,pI (by omega) (by omega) (by omega)];omega
 rw[a,nL (by omega)];rfl
theorem MO (k:Nat) (d:1≤k) (a:k≤604799):aj aE 35 [.int .i64 (k:Int)] (.tup [.str (ZU (k:Int)),.int .i64 0]):=by
 refine au AV uF_ok 5 2 ?_
 (rw[MN];(conv=>zeta);rw[I8 k d a])
 obtain⟨b,e,c,g⟩:=aeo k a;have f:=RX k a;simp only[bM,aA,bq,aO,aM,gV,b,e,c,twoI_nat,hour_eq];rw[if_neg (by omega),if_neg (by omega),if_neg (by omega),if_neg (by omega),if_pos (by omega),if_pos (by omega),if_pos (by simp[dZ,O6];omega)];unfold qw;by_cases h:0<k%60
 ·rw[if_pos (by omega),if_pos (by omega),if_pos (by simp[dZ,O6];omega),if_pos h]
  rfl
 rw[if_neg (by omega),if_neg h,FC];rfl
theorem uT_ok:aZ aE (uS true):=by
 unfold uS;refine aZ.cons (fun args r h=>?_) tS_ok;unfold posS at h;split at h
 ·simp only[aT,bP] at h
  obtain⟨a,rfl⟩:=h;rw[aM,aM,aA,aA] at a;rename_i n;obtain⟨k,rfl⟩: ∃k:Nat,n=k:=⟨n.toNat,by omega⟩
  exact MO k (by omega) (by omega)
 cases h
theorem RN (n:Int) (g: -9223372036854775808≤n) (f:n≤9223372036854775807):aj aE 35 [.int .i64 n] (amtV n):=by
 by_cases d:1≤n∧n≤604799
 ·obtain⟨k,rfl⟩: ∃k:Nat,n=k:=⟨n.toNat,by omega⟩
  have:=MO k (by omega) (by omega);unfold amtV;rw[Bh k (by omega) (by omega)];rw[I8 k (by omega) (by omega)] at this;exact this
 refine au AV uT_ok 5 2 ?_
 (rw[MN];(conv=>zeta))
 simp only[bM,aA,bq,aO,aM,gV];unfold amtV;by_cases a:n≤ -604800
 ·rw[if_pos a,Yt n (.inl a)]
 rw[if_neg a];by_cases b:604800≤n
 ·rw[if_pos b,Yt n (.inr b)]
 rw[if_neg b];by_cases c:n=0
 ·subst c
  rw[if_pos rfl,if_pos (by omega),amt_nil];rfl
 rw[if_neg c,if_pos (by omega)];obtain⟨k,rfl⟩: ∃k:Nat,n= -(k:Int):=⟨(-n).toNat,by omega⟩
 have e:dB .i64 0 (-(k:Int))=(k:Int):=by rw[dV (by omega)];omega
 rw[e,if_pos ⟨trivial,by omega,by omega⟩,I8 k (by omega) (by omega),if_pos (by have:=I7 k (by omega);simp;omega),O1 k (by omega) (by omega)];rfl
noncomputable def tblV:ah:=[V.agg [V.int .i64 1,V.int .i64 3,V.int .i64 3600],V.agg [V.int .i64 2,V.int .i64 2,V.int .i64 60],V.agg [V.int .i64 2,V.int .i64 2,V.int .i64 1]]
theorem tbl_fold:[V.agg [V.int .i64 1,V.int .i64 3,V.int .i64 3600],V.agg [V.int .i64 2,V.int .i64 2,V.int .i64 60],V.agg [V.int .i64 2,V.int .i64 2,V.int .i64 1]]=tblV:=rfl
theorem tbl_at: ∀k:Nat,k<3→asInt (ai (aG tblV (k:Int)) 0)=(aQ.least k:Int)∧asInt (ai (aG tblV (k:Int)) 1)=(aQ.most k:Int)∧asInt (ai (aG tblV (k:Int)) 2)=(aQ.unit k:Int)
 |0,_=>⟨rfl,rfl,rfl⟩
 |1,_=>⟨rfl,rfl,rfl⟩
 |2,_=>⟨rfl,rfl,rfl⟩
 |n+3,h=>by omega
theorem str_at (P:List (af)) (k:Nat) (a:k<P.length):aF (ai (aG (bI P) (k:Int)) 0)=P.getD k []:=by unfold bI;rw[fo,l7,uE,iK a,l7,iK a];rfl
theorem Yu (s:af) (l m:Nat):pok s (l:Int) (m:Int)=aQ.ok s l m:=by
 unfold pok aQ.ok;congr 2
 ·apply decide_eq_decide.2;omega
 apply decide_eq_decide.2;omega
theorem aep (s:af) (l m:Nat):HV s (l:Int) (m:Int)=aQ.ok s l m:=Yu s l m
theorem aer {s:af} {l m:Nat} (h:aQ.ok s l m=true):Em s (l:Int) (m:Int)=(val s:Int):=by unfold Em;rw[Yu,if_pos h]
theorem ok_val {s:af} {l m:Nat} (b:m≤3) (h:aQ.ok s l m=true):val s≤999:=by unfold aQ.ok at h;rw[bF,bF,lK,lK] at h;have a:=val_lt s h.2 s.length;rw[abH] at a;have c:10 ^ s.length≤10 ^ 3:=abp (by decide) (by omega);omega
theorem most_le (k:Nat):aQ.most k≤3∧1≤aQ.least k∧aQ.unit k≤3600:=by unfold aQ.most aQ.least aQ.unit;split<;>(try split)<;>omega
def Q5 (P:List (af)) (below:Bool):V:=.tup [.int .i64 (aQ.told P below).1,.int .i64 (aQ.told P below).2]
theorem told_bad {P:List (af)} {b:Bool} {k:Nat} (c:k<P.length) (h: ¬aQ.ok (P.getD k []) (aQ.least k) (aQ.most k)=true):aQ.told P b=(0,2):=by
 have:aQ.uJ P P.length=false:=by rw[Bool.eq_false_iff];intro a;have:=aQ.goodK_le P (k+1) P.length c a;unfold aQ.uJ at this;rw[bF] at this;exact h this.2
 unfold aQ.told;rw[this];simp
theorem Wt (F:Nat) (K:V→Option V) (s f:af) (x t:Int) (C:ah) (below:Bool) (P:List (af)) (I:P.length≤3): ∀(n k:Nat),k≤P.length→P.length-k<n→
  aQ.uJ P k=true→aQ.Aw P k≤k*3596400→
  pQ F [] n s x t f below C (if aQ.qG P k then 0 else 1) (aQ.Aw P k:Int) (bI P) (P.length:Int) (k:Int) K=K (Q5 P below):=by
 intro n;induction n with
 |zero=>intro k _ h;omega
 |succ n B=>
  intro k E H l G
  (rw[KV];(conv=>zeta))
  by_cases A:k=P.length
  ·subst A
   simp only[bM,bq,aA,aO,bY];rw[if_neg (by omega)];unfold Q5 aQ.told;rw[uP (by omega: ¬3<P.length),l];by_cases g:aQ.qG P P.length=true
   ·rw[if_pos g,if_neg (by omega),g]
    by_cases o:604800≤aQ.Aw P P.length
    ·rw[if_pos (by omega),uG o];rfl
    rw[if_neg (by omega),uP o]
    cases below with
    |true=>rw[if_pos rfl,dV (by omega)];simp
    |false=>rw[if_neg (by simp)];rfl
   rw[if_neg g,if_pos (by omega),Bool.eq_false_iff.2 g];rfl
  have e:k<P.length:=by omega
  have w:(bI P).length=P.length:=sM P;obtain⟨v,t1,t2⟩:=tbl_at k (by omega);obtain⟨m1,D,r⟩:=most_le k;simp only[tbl_fold,v,t1,t2,str_at P k e,aep];rw[av (bu (by omega)),av (by rw[aM];exact⟨bn (by omega),bu (by rw[aC,w];omega)⟩),av (by rw[aM];exact⟨bn (by omega),bu (by omega)⟩),av (by rw[aM];exact⟨bn (by omega),bn (by omega)⟩)];by_cases b:aQ.ok (P.getD k []) (aQ.least k) (aQ.most k)=true
  ·have z:=ok_val m1 b
   simp only[aer b];rw[aI (by rw[b];rfl)];have m:val (P.getD k [])*aQ.unit k≤999*3600:=abX z r;have y:bg .i64 (k:Int) 1=((k+1:Nat):Int):=by rw[cr (by omega)];rfl
   have u:bg .i64 (aQ.Aw P k:Int) (mD .i64 (val (P.getD k []):Int) (aQ.unit k:Int))=((aQ.Aw P (k+1):Nat):Int):=by
    have p:(val (P.getD k []):Int)*(aQ.unit k:Int)=((val (P.getD k [])*aQ.unit k:Nat):Int):=by rw[Int.natCast_mul]
    rw[og (by rw[p];omega),p,cr (by omega)];show _=((aQ.Aw P k+val (P.getD k [])*aQ.unit k:Nat):Int)
    omega
   have i:aQ.uJ P (k+1)=true:=by unfold aQ.uJ;rw[l,b];rfl
   have j:aQ.Aw P (k+1)≤(k+1)*3596400:=by show aQ.Aw P k+val (P.getD k [])*aQ.unit k≤_;omega
   have a:=B (k+1) (by omega) (by omega) i j;have d:ak (ax 0 (k:Int)) (aR (k:Int) 3)=true:=by rw[aM];exact⟨bn (by omega),bu (by omega)⟩
   rw[y,u];by_cases c:k=0
   ·rw[aI (bB (by omega)),av d]
    have:aQ.qG P (k+1)=aQ.qG P k:=by show(aQ.qG P k&&(decide (k=0)||_))=_;rw[uG c];simp
    rw[←this];exact a
   rw[av (bu (by omega))];by_cases q:60≤val (P.getD k [])
   ·rw[av (bn (by omega)),av d]
    have:aQ.qG P (k+1)=false:=by show(aQ.qG P k&&(decide (k=0)||decide (val (P.getD k [])≤59)))=_;rw[uP c,uP (by omega)];simp
    rw[this] at a;exact a
   rw[aI (nA (by omega)),av d];have:aQ.qG P (k+1)=aQ.qG P k:=by show(aQ.qG P k&&(decide (k=0)||decide (val (P.getD k [])≤59)))=_;rw[uP c,uG (by omega)];simp
   rw[←this];exact a
  rw[av (by rw[bY];exact b)];unfold Q5;rw[told_bad e b]
def readV (s:af):V:=.tup [.int .i64 (aQ.read s).1,.int .i64 (aQ.read s).2]
theorem readS_ok (l m u:Int) (s:af) (a:ak (ax 1 l) (ax m 3)=true):aj aE 168 [.agg [.int .i64 l,.int .i64 m,.int .i64 u],.str s] (.tup [.int .i64 (Em s l m),.bool (HV s l m)]):=by rw[aM,aA,aA] at a;exact apart_ev _ _ _ _ a.1 a.2
theorem bS_ok:aZ aE bS:=by
 unfold bS;refine aZ.cons (fun args r h=>?_) XF;all_goals (revert h;intro h;first|unfold readS at h)
 all_goals (split at h;rotate_left; · cases h)
 all_goals (simp only[aT,bP] at h;obtain⟨a,rfl⟩:=h)
 ·exact readS_ok _ _ _ _ a
theorem aes {P:List (af)} {b:Bool} (h:3<P.length):aQ.told P b=(0,2):=by unfold aQ.told;rw[uG h];rfl
theorem TN (s:af):ay (lW s)=((aQ.pieces s).length:Int):=by unfold ay lW;rw[sM]
theorem RJ (s:af) (h:s.length≤1000):aj aE 141 [.str s] (readV s):=by
 refine au AV bS_ok 5 3 ?_
 (rw[aek];(conv=>zeta))
 have b: ∀(d:af) (below:Bool),d.length≤1000→sel (ak (seq [58] [58]) (ax (aB d) 1000))
    (sel (aR 3 (ay (lW d)))
     (some (V.tup [V.int .i64 0,V.int .i64 2]))
     (pQ 5 [] 5 s 0 0 d below (lW d) 0 0 (lW d) (ay (lW d)) 0 some))
    none=some (Q5 (aQ.pieces d) below):=by
  intro d below m;rw[av (by rw[aM];exact⟨rfl,bn (by rw[aJ];omega)⟩),TN];by_cases i:3<(aQ.pieces d).length
  ·rw[av (bu (by omega))]
   unfold Q5;rw[aes i]
  rw[aI (bB (by omega))];exact Wt 5 some s d 0 0 (lW d) below (aQ.pieces d) (by omega) 5 0 (by omega) (by omega) rfl (by show 0≤_;omega)
 cases s with
 |nil=>rw[aI (nA (by decide))];exact b [] false (by simp)
 |cons c t=>
  have a:aB (c::t)=(t.length:Int)+1:=by rw[aJ,dN];omega
  have k:dQ (c::t) 0 (aB [45])=[c]:=rfl;have l:dQ (c::t) (aB [45]) (aB (c::t))=t:=by rw[show aB [45]=((1:Nat):Int) from rfl,aJ,IY];simp
  have e:aB [45]=1:=rfl;rw[k,l,av (bn (by rw[e,a];omega)),av (by rw[aM];exact⟨by decide,bn (by rw[e,a];omega)⟩)];by_cases f:c=45
  ·subst f
   rw[aI (by decide),av (by rw[aM];exact⟨by decide,bn (by rw[e,a];omega)⟩)];by_cases g:t=[]
   ·subst g
    rw[av (by decide)];rfl
   rw[aI (by rw[Bool.eq_false_iff,ne_eq,dx];exact g),b t true (by simp at h;omega)];unfold readV aQ.read;rw[if_neg (by simpa using g)];rfl
  rw[av (by rw[bY,dx];simpa using f),b (c::t) false h];have j:minus (c::t)=false:=by unfold minus;simpa using f
  unfold readV aQ.read bare;rw[if_neg (by simp[f]),j];rfl
theorem aet (k:Nat):oo k=gy (k/3600):=by unfold oo text;rw[if_neg (by omega),abW];rfl
theorem digs_ok (n f:Nat) (a:0<f) (h:n<10 ^ f) (d:f≤3):aQ.ok (gy n) 1 3=true∧val (gy n)=n:=by have c:=rW f n h a;have b:=rX (n+1) n (by omega);refine⟨?_,Bz (n+1) n (by omega)⟩;unfold aQ.ok;rw[b.1,uG (by omega:1≤(gy n).length),uG (by omega:(gy n).length≤3)];rfl
theorem xk (k:Nat) (h:k≤604799):aQ.ok (oo k) 1 3=true∧val (oo k)=k/3600:=by rw[aet];exact digs_ok _ 3 (by decide) (by omega) (by decide)
def Lu (k:Nat):af:=(if 0<k%60 then[58]++aQ.two (k%60) else[])
theorem RP (p:af) (k:Nat) (g:k≤604799) (a:aQ.ok p 1 3=true) (e:val p=k/3600) (b:Bool):
  aQ.told (aQ.pieces (p++([58]++aQ.two (k/60%60))++Lu k)) b=(if b then -(k:Int) else(k:Int),0):=by
 obtain⟨m1,c⟩:=aQ.two_ok ⟨k/60%60,by omega⟩;obtain⟨d,f⟩:=aQ.two_ok ⟨k%60,by omega⟩;simp only at m1 c d f;unfold Lu;by_cases h:0<k%60
 ·rw[if_pos h,aQ.pieces3 a m1 d,aQ.told3 a m1 d,e,c,f,if_neg (by omega)]
  have:k/3600*3600+k/60%60*60+k%60=k:=by omega
  rw[this]
 rw[if_neg h,FC,aQ.pieces2 a m1,aQ.told2 a m1 (by omega) (by omega),e,c];have:k/3600*3600+k/60%60*60=k:=by omega
 rw[this]
theorem Wu {c:UInt8} {t:af} (h:c≠45):aQ.read (c::t)=aQ.told (aQ.pieces (c::t)) false:=by
 have a:minus (c::t)=false:=by unfold minus;simpa using h
 unfold aQ.read bare;rw[if_neg (by simp[h]),a];rfl
theorem JN {t:af} (h:t≠[]):aQ.read ([45]++t)=aQ.told (aQ.pieces t) true:=by unfold aQ.read;rw[if_neg (by simpa using h)];rfl
theorem I9 (k:Nat) (h:k≤604799): ∃c t,oo k=c::t∧c≠45:=by
 have a:=(xk k h).1;unfold aQ.ok at a;rw[bF,bF,lK] at a
 cases e:oo k with
 |nil=>rw[e] at a;simp at a
 |cons c t=>refine⟨c,t,rfl,fun b=>?_⟩;have:=List.all_eq_true.1 a.2 c (by rw[e];exact .head _);rw[b] at this;exact absurd this (by decide)
theorem xh (k:Nat):qw k=oo k++([58]++aQ.two (k/60%60))++Lu k:=rfl
theorem posL_ne (k:Nat) (h:k≤604799):qw k≠[]:=by obtain⟨c,t,e,_⟩:=I9 k h;rw[xh,e];simp
theorem RQ (k:Nat) (h:k≤604799):aQ.read (qw k)=((k:Int),0):=by
 obtain⟨c,t,e,b⟩:=I9 k h;have a:qw k=c::(t++([58]++aQ.two (k/60%60))++Lu k):=by rw[xh,e];rfl
 rw[a,Wu b,←a,xh,RP _ k h (xk k h).1 (xk k h).2];rfl
theorem RY (m:Nat) (h:m<100): ∃c,aQ.two m=[digit (m/10)]++[c]∧48≤c.toNat∧c.toNat≤57:=by refine⟨digit (m%10),rfl,?_⟩;rw[jV _ (by omega)];omega
theorem pos_last (k:Nat) (h:k≤604799): ∃l c,qw k=l++[c]∧48≤c.toNat∧c.toNat≤57:=by
 rw[xh];unfold Lu;by_cases d:0<k%60
 ·obtain⟨c,b,a⟩:=RY (k%60) (by omega)
  rw[if_pos d,b];exact⟨oo k++([58]++aQ.two (k/60%60))++([58]++[digit (k%60/10)]),c,by simp,a⟩
 obtain⟨c,b,a⟩:=RY (k/60%60) (by omega);rw[if_neg d,b];exact⟨oo k++([58]++[digit (k/60%60/10)]),c,by simp,a⟩
theorem aec (n:Int) (h:0≤n) (g:n≤604799): ∃l c,(aQ.text n).1=l++[c]∧48≤c.toNat∧c.toNat≤57∧aQ.read (aQ.text n).1=(n,0):=by
 obtain⟨k,rfl⟩: ∃k:Nat,n=(k:Int):=⟨n.toNat,by omega⟩
 by_cases a:k=0
 ·subst a
  exact⟨[],48,rfl,by decide,by decide,rfl⟩
 have e:(aQ.text (k:Int)).1=qw k:=by rw[Bh k (by omega) (by omega)]
 obtain⟨l,c,b,f,d⟩:=pos_last k (by omega);exact⟨l,c,e.trans b,f,d,by rw[e];exact RQ k (by omega)⟩
end Nt.Ev.YtjcencojgajgdaaGreatDoor
