/-
  The plain law of amounts: pieces between colons, parts, sums. The plain law of amounts, there and back. Amounts: the equations of the program's functions and of the document's, as the evaluator prints them. Amounts: what the program's functions and the document's answer. Amounts: how they are written, by the program and by the document. Amounts: how they are read, by the program and by the document. Amounts that are written, read again: those above nought.
-/
import Derived.Test.YtplklcejbmfgdaaGreatDoorMC
import Derived.Lib.Split
import Derived.Test.YtplklcejbmfgdaaGreatDoorMS
set_option linter.unusedVariables false
set_option linter.unusedSimpArgs false
set_option linter.unusedSectionVars false
namespace Nt.aF
open Go Go.RowKit Nt Nt.Num
def pieces:List UInt8→List (List UInt8)
 |[]=>[[]]
 |c::l=>if c==58 then[]::pieces l else(c::(pieces l).headD [])::(pieces l).tail
def least (i:Nat):Nat:=if i=0 then 1 else 2
def most (i:Nat):Nat:=if i=0 then 3 else 2
def unit (i:Nat):Nat:=if i=0 then 3600 else if i=1 then 60 else 1
def ok (l:List UInt8) (least most:Nat):Bool:=decide (least≤l.length)&&decide (l.length≤most)&&l.all isDigit
def part (l:List UInt8) (least most:Nat):Int×Bool:=if ok l least most then((val l:Nat),true) else(0,false)
def tV (P:List (List UInt8)):Nat→Bool
 |0=>true
 |k+1=>tV P k&&ok (P.getD k []) (least k) (most k)
def qC (P:List (List UInt8)):Nat→Bool
 |0=>true
 |k+1=>qC P k&&(decide (k=0)||decide (val (P.getD k [])≤59))
def Aj (P:List (List UInt8)):Nat→Nat
 |0=>0
 |k+1=>Aj P k+val (P.getD k [])*unit k
def told (P:List (List UInt8)) (below:Bool):Int×Int:=
 if decide (3<P.length)|| !tV P P.length then(0,2)
 else if !qC P P.length||decide (604800≤Aj P P.length) then(0,1)
 else(if below then -(Aj P P.length:Int) else(Aj P P.length:Int),0)
def read (l:List UInt8):Int×Int:=if l=[45] then(0,0) else told (pieces (bare l)) (minus l)
def two (n:Nat):List UInt8:=[digit (n/10),digit (n%10)]
def text (n:Int):List UInt8×Int:=
 if n≤ -604800∨604800≤n then([],1)
 else if n=0 then([48],0)
 else((if n<0 then[45] else[])++fP (n.natAbs/3600)++[58]++two (n.natAbs/60%60)++(if 0<n.natAbs%60 then 58::two (n.natAbs%60) else[]),0)
theorem goodK_le (P:List (List UInt8)) (k:Nat): ∀m,k≤m→tV P m=true→tV P k=true:=by
 intro m;induction m with
 |zero=>
    intro h hg;have e:k=0:=by omega
    rw[e];exact hg
 |succ m ih=>
  intro h hg;by_cases e:k=m+1
  ·rw[e];exact hg
  ·unfold tV at hg
   rw[Bool.and_eq_true] at hg;exact ih (by omega) hg.1
theorem YK (l:List UInt8):pieces l≠[]:=by
 cases l with
 |nil=>simp[pieces]
 |cons c l=>unfold pieces;split<;>simp
theorem BX: ∀(s:List UInt8),Lib.splitK [58] 0 (Lib.count s [58]) s=pieces s
 |[]=>by
  have h:Lib.index [] [58]= -1:=by decide
  rw[Lib.count_miss h];rfl
 |c::l=>by
  have ih:=BX l;by_cases hc:c=58
  ·subst hc
   have h:Lib.index (58::l) [58]=(0:Nat):=by unfold Lib.index;simp
   rw[Lib.count_hit (by simp) h,Nat.add_comm 1];unfold Lib.splitK;rw[if_neg (by rw[h];decide),h];have e1:List.take (Int.toNat (((0:Nat):Int))+0) (58::l)=([]:List UInt8):=rfl;have e2:List.drop (Int.toNat (((0:Nat):Int))+[(58:UInt8)].length) (58::l)=l:=rfl;have e3:List.drop (0+[(58:UInt8)].length) (58::l)=l:=rfl;rw[e1,e2,e3,ih];conv=>rhs;unfold pieces
   rw[if_pos (by rfl)]
  ·have hp:([58]:List UInt8).isPrefixOf (c::l)=false:=by
    simp only[List.isPrefixOf,Bool.and_true,beq_eq_false_iff_ne];exact fun e=>hc e.symm
   have hpc:pieces (c::l)=(c::(pieces l).headD [])::(pieces l).tail:=by
    conv=>lhs;unfold pieces
    rw[if_neg (by simpa using hc)]
   by_cases hi:Lib.index l [58]= -1
   ·have h:Lib.index (c::l) [58]= -1:=by
     unfold Lib.index;rw[hp,hi];rfl
    rw[Lib.count_miss h,hpc,←ih,Lib.count_miss hi];rfl
   ·have hge:=Lib.index_ge l [58]
    obtain⟨i,hi'⟩: ∃i:Nat,Lib.index l [58]=i:=⟨(Lib.index l [58]).toNat,by omega⟩
    have h:Lib.index (c::l) [58]=((i+1:Nat):Int):=by
     unfold Lib.index;rw[hp,hi'];simp only[Bool.false_eq_true,if_false];rw[if_neg (by rw[beq_iff_eq];omega)];rfl
    rw[Lib.count_hit (by simp) hi',Nat.add_comm 1] at ih;rw[Lib.count_hit (by simp) h,Nat.add_comm 1,hpc,←ih];unfold Lib.splitK;rw[if_neg (by rw[h,beq_iff_eq];omega),h,if_neg (by rw[hi',beq_iff_eq];omega),hi'];simp only[Int.toNat_natCast,Nat.add_zero,List.take_succ_cons,List.headD_cons,List.tail_cons,List.length_singleton,List.drop_succ_cons]
def glue (p:List UInt8) (P:List (List UInt8)):List (List UInt8):=(p++P.headD [])::P.tail
theorem glue_nil (l:List UInt8):glue [] (pieces l)=pieces l:=by
 unfold glue
 cases e:pieces l with
 |nil=>exact absurd e (YK l)
 |cons a t=>rfl
theorem glue_end (p:List UInt8):glue p (pieces [])=[p]:=by simp[glue,pieces]
theorem Uw (p l:List UInt8):glue p (pieces (58::l))=p::pieces l:=by simp[glue,pieces]
theorem Eg (p l:List UInt8) (h: ∀c∈p,c≠58):pieces (p++l)=glue p (pieces l):=by
 induction p with
 |nil=>exact(glue_nil l).symm
 |cons c p ih=>
  have h1:=ih (fun c hc=>h c (.tail _ hc));have hc:c≠58:=h c (.head _);show pieces (c::(p++l))=_;conv=>lhs;unfold pieces
  rw[if_neg (by simpa using hc),h1];simp[glue]
theorem ID (p:List UInt8) (h: ∀c∈p,c≠58):pieces p=[p]:=by
 have:=Eg p [] h;rw[List.append_nil] at this;rw[this,glue_end]
theorem tL (p l:List UInt8) (h: ∀c∈p,c≠58):pieces (p++58::l)=p::pieces l:=by rw[Eg p _ h,Uw]
theorem YL (p:List UInt8) (h:p.all isDigit=true): ∀c∈p,c≠58:=by
 intro c hc e;have:=List.all_eq_true.1 h c hc;rw[e] at this;exact absurd this (by decide)
theorem O9 {p:List UInt8} {l m:Nat} (h:ok p l m=true): ∀c∈p,c≠58:=by
 unfold ok at h;rw[Bool.and_eq_true] at h;exact YL p h.2
theorem pieces2 {p q:List UInt8} {l m l' m':Nat} (hp:ok p l m=true) (hq:ok q l' m'=true):pieces (p++([58]++q))=[p,q]:=by
 rw[show p++([58]++q)=p++58::q from rfl,tL p q (O9 hp),ID q (O9 hq)]
theorem pieces3 {p q r:List UInt8} {l m l' m' l'' m'':Nat} (hp:ok p l m=true) (hq:ok q l' m'=true) (hr:ok r l'' m''=true):pieces (p++([58]++q)++([58]++r))=[p,q,r]:=by
 rw[show p++([58]++q)++([58]++r)=p++58::(q++58::r) by simp,tL p _ (O9 hp),tL q _ (O9 hq),ID r (O9 hr)]
theorem two_ok: ∀k:Fin 100,ok (two k) 2 2=true∧val (two k)=k:=by decide
theorem told2 {p q:List UInt8} {b:Bool} (hp:ok p 1 3=true) (hq:ok q 2 2=true) (h59:val q≤59) (hs:val p*3600+val q*60<604800):
  told [p,q] b=(if b then -((val p*3600+val q*60:Nat):Int) else((val p*3600+val q*60:Nat):Int),0):=by
 have hg:tV [p,q] 2=true:=by
  show(true&&ok p 1 3&&ok q 2 2)=true;rw[hp,hq];rfl
 have hf:qC [p,q] 2=true:=by
  show(true&&(true||decide (val p≤59))&&(false||decide (val q≤59)))=true;rw[decide_eq_true h59];simp
 have hk:Aj [p,q] 2=val p*3600+val q*60:=by
  show 0+val p*3600+val q*60=_;omega
 unfold told;rw[show[p,q].length=2 from rfl,hg,hf,hk,decide_eq_false (by omega: ¬604800≤_),decide_eq_false (by omega: ¬3<2)];rfl
theorem told3 {p q r:List UInt8} {b:Bool} (hp:ok p 1 3=true) (hq:ok q 2 2=true) (hr:ok r 2 2=true):
  told [p,q,r] b=if 59<val q∨59<val r∨604800≤val p*3600+val q*60+val r then(0,1) else(if b then -((val p*3600+val q*60+val r:Nat):Int) else((val p*3600+val q*60+val r:Nat):Int),0):=by
 have hg:tV [p,q,r] 3=true:=by
  show(true&&ok p 1 3&&ok q 2 2&&ok r 2 2)=true;rw[hp,hq,hr];rfl
 have hf:qC [p,q,r] 3=(decide (val q≤59)&&decide (val r≤59)):=by
  show(true&&(true||decide (val p≤59))&&(false||decide (val q≤59))&&(false||decide (val r≤59)))=_;simp
 have hk:Aj [p,q,r] 3=val p*3600+val q*60+val r:=by
  show 0+val p*3600+val q*60+val r*1=_;omega
 unfold told;rw[show[p,q,r].length=3 from rfl,hg,hf,hk,decide_eq_false (by omega: ¬3<3),if_neg (show¬((false|| !true)=true) by decide)];by_cases h1:59<val q
 ·rw[if_pos (Or.inl h1:59<val q∨59<val r∨604800≤val p*3600+val q*60+val r),decide_eq_false (by omega: ¬val q≤59)];rfl
 ·by_cases h2:59<val r
  ·rw[if_pos (Or.inr (Or.inl h2):59<val q∨59<val r∨604800≤val p*3600+val q*60+val r),decide_eq_false (by omega: ¬val r≤59),Bool.and_false];rfl
  ·rw[decide_eq_true (by omega:val q≤59),decide_eq_true (by omega:val r≤59)]
   by_cases h3:604800≤val p*3600+val q*60+val r
   ·rw[if_pos (Or.inr (Or.inr h3):59<val q∨59<val r∨604800≤val p*3600+val q*60+val r),decide_eq_true h3];rfl
   ·rw[decide_eq_false h3,if_neg (show¬((!(true&&true)||false)=true) by decide),if_neg (show¬(59<val q∨59<val r∨604800≤val p*3600+val q*60+val r) by omega)]
end Nt.aF
namespace Nt.Ev.YtplklcejbmfgdaaGreatDoor
set_option maxRecDepth 100000
open Go Nt.Num Go.Proofs.YtplklcejbmfgdaaGreatDoor
noncomputable def lT (s:List UInt8):List V:=bF (aF.pieces s)
noncomputable def pok (s:List UInt8) (l m:Int):Bool:=decide (l≤(s.length:Int))&&decide ((s.length:Int)≤m)&&s.all isDigit
noncomputable def Dt (s:List UInt8) (l m:Int):Int:=if pok s l m then(val s:Int) else 0
noncomputable def F7 (s:List UInt8) (l m:Int):Bool:=pok s l m
noncomputable def Xx (n:Int):List UInt8:=aF.two n.toNat
noncomputable def Xy (n:Int):List UInt8:=(aF.text n).1
variable [nP]
noncomputable def Ti:V:=.rptr [.int .i64,.int .i64,.int .i64,.int .i64,.int .i64,.int .i64,.int .i64,.int .i64,.int .i64] (.agg [.int .i64 1,.int .i64 3,.int .i64 3600,.int .i64 2,.int .i64 2,.int .i64 60,.int .i64 2,.int .i64 2,.int .i64 1]) 0
noncomputable def aE:Env:=⟨Go.Proofs.Tryz.prog,fun g=>bif g==4 then some Ti else bif g==3 then some (.rptr [.int .i64] (.int .i64 nP.val) 0) else none⟩
noncomputable def Vq (m:Int):Bool:=ai (ak (-9223372036854775808) m) (ak m 9223372036854775807)
noncomputable def textS:aG:=fun a=>match a with|[.int .i64 m]=>some (Vq m,.str (text m))|_=>none
noncomputable def splitS:aG:=fun a=>match a with|[.str s,.str sep]=>some (ai (seq sep [58]) (ak (au s) 1000),.sl 9 [.str] none (lT s))|_=>none
noncomputable def readS:aG:=fun a=>match a with|[.agg [.int .i64 l,.int .i64 m,.int .i64 u],.str s]=>some (ai (ak 1 l) (ak m 3),.tup [.int .i64 (Dt s l m),.bool (F7 s l m)])|_=>none
noncomputable def twoA:aG:=fun a=>match a with|[.int .i64 n]=>some (ai (ak 0 n) (ak n 59),.str (gy [58] (Xx n)))|_=>none
noncomputable def posS (b:Bool):aG:=fun a=>match a with|[.int .i64 n]=>some (ai b (ai (ak 1 n) (ak n 604799)),.tup [.str (Xy n),.int .i64 0])|_=>none
noncomputable def aS:List (Nat×aG):=(63,textS)::(170,splitS)::[]
noncomputable def bS:List (Nat×aG):=(171,readS)::aS
noncomputable def tS:List (Nat×aG):=(80,twoA)::aS
noncomputable def uS (b:Bool):List (Nat×aG):=(60,posS b)::tS
noncomputable def Bp (F:Nat) (ns:List Nat) (n:Nat) (ni nk qL:Int) (x1:List UInt8) (x4:Int) (x5:Bool) (x6:Int) (Z6:List V) (Oz x24 l9 kD nQ:Int) (K:V→Option V):Option V:=
 iG aE aS F 1 171 [1,1,1,0,1,0] ns K n (mY 42 [(0,V.agg [V.int .i64 ni,V.int .i64 nk,V.int .i64 qL]),(1,V.str x1),(2,V.box 2 0),(4,V.int .i64 x4),(5,V.bool x5),(6,V.int .i64 x6),(22,V.sl 5 [Kd.int .u8] none Z6),(23,V.int .i64 Oz),(24,V.int .i64 x24)] [(2,[V.int .i64 l9,V.int .i64 kD,V.int .i64 nQ])])
theorem YM (F:Nat) (s:List UInt8) (l m u:Int) (K:V→Option V):
 bW aE (bT aE aS F 1) F 171 [V.agg [V.int .i64 l,V.int .i64 m,V.int .i64 u],V.str s] K=
 let A:=K (V.tup [V.int .i64 0,V.bool false]);sel (aU (au s) l) A (sel (aU m (au s)) A (sel (JZ s) (Bp F [] F l m u s 0 false 0 (aI s) (av (aI s)) 0 l m u K) none)):=by kernel_rfl
theorem JK (F n:Nat) (ni nk qL:Int) (x1:List UInt8) (x4:Int) (x5:Bool) (x6:Int) (Z6:List V) (Oz x24 l9 kD nQ:Int) (K:V→Option V):
 Bp F [] (n+1) ni nk qL x1 x4 x5 x6 Z6 Oz x24 l9 kD nQ K=
 let A:=asInt (ah (aX Z6 x24) 0);let B:=K (V.tup [V.int .i64 0,V.bool false]);sel (aU x24 Oz) (sel (ai (ak 0 x24) (aU x24 (av Z6))) (sel (aU A 48) B (sel (aU 57 A) B (Bp F [] n ni nk qL x1 x4 x5 (eu .i64 (FD .i64 x6 10) (qh .i64 (jN .u8 A 48))) Z6 Oz (eu .i64 x24 1) l9 kD nQ K))) none) (K (V.tup [V.int .i64 x6,V.bool true])):=by kernel_rfl
theorem atwo_top (F:Nat) (n:Int) (K:V→Option V):
 bW aE (bT aE aS F 2) F 80 [V.int .i64 n] K=
 let A:=oO .i64 n 10;let B:=y7 n 10;let C:=gy [58] (text A);sel (ai (ak (-9223372036854775808) A) (ak A 9223372036854775807)) (sel (gz [58] (text A)) (sel (ai (ak (-9223372036854775808) B) (ak B 9223372036854775807)) (sel (gz C (text B)) (K (V.str (gy C (text B)))) none) none) none) none:=by kernel_rfl
theorem Lg (bb:Bool) (F:Nat) (m:Int) (K:V→Option V):
 bW aE (bT aE (uS bb) F 2) F 60 [V.int .i64 m] K=
 let B:=oO .i64 (y7 m 3600) 60;let C:=oO .i64 m 3600;let D:=jN .i64 0 m;let E:=y7 m 60;let G:=K (V.tup [V.str [],V.int .i64 1]);let H:=V.int .i64 0;let I:=gy [58] (Xx B);let J:=gy [58] (Xx E);let A:=gy (text C) I;sel (ak m (-604800)) G (sel (ak 604800 m) G (sel (ieq m 0) (sel (ai (ak (-9223372036854775808) m) (ak m 9223372036854775807)) (K (V.tup [V.str (text m),H])) none) (sel (aU m 0) (sel (ai bb (ai (ak 1 D) (ak D 604799))) (sel (gz [45] (Xy D)) (K (V.tup [V.str (gy [45] (Xy D)),H])) none) none) (sel (ai (ak (-9223372036854775808) C) (ak C 9223372036854775807)) (sel (ai (ak 0 B) (ak B 59)) (sel (gz (text C) I) (sel (aU 0 E) (sel (ai (ak 0 E) (ak E 59)) (sel (gz A J) (K (V.tup [V.str (gy A J),H])) none) none) (K (V.tup [V.str A,H]))) none) none) none)))):=by kernel_rfl
noncomputable def pM (F:Nat) (ns:List Nat) (n:Nat) (x0:List UInt8) (x2 x3:Int) (x4:List UInt8) (x5:Bool) (x6:List V) (x7 x8:Int) (x28:List V) (x29 x30:Int) (K:V→Option V):Option V:=
 iG aE bS F 3 148 [1,1,1,1,1,1,1,0,1,0] ns K n (mY 72 [(0,V.str x0),(2,V.int .i64 x2),(3,V.int .i64 x3),(4,V.str x4),(5,V.bool x5),(6,V.sl 9 [Kd.str] none x6),(7,V.int .i64 x7),(8,V.int .i64 x8),(28,V.sl 9 [Kd.str] none x28),(29,V.int .i64 x29),(30,V.int .i64 x30)] [])
theorem YN (F:Nat) (s:List UInt8) (K:V→Option V):
 bW aE (bT aE bS F 3) F 148 [V.str s] K=
 let C:=au [45];let H:=lT s;let I:=V.int .i64 0;let B:=dG s C (au s);let D:=K (V.tup [I,V.int .i64 2]);let E:=ai (ak 0 C) (ak C (au s));let A:=sel (ai (seq [58] [58]) (ak (au s) 1000)) (sel (aU 3 (av H)) D (pM F [] F s 0 0 s false H 0 0 H (av H) 0 K)) (none);let G:=lT B;sel (ak C (au s)) (sel E (sel (aK (seq (dG s 0 C) [45])) A (sel E (sel (seq B []) (K (V.tup [I,I])) (sel (ai (seq [58] [58]) (ak (au B) 1000)) (sel (aU 3 (av G)) D (pM F [] F s 0 0 B true G 0 0 G (av G) 0 K)) none)) none)) none) A:=by kernel_rfl
theorem JL (F n:Nat) (x0:List UInt8) (x2 x3:Int) (x4:List UInt8) (x5:Bool) (x6:List V) (x7 x8:Int) (x28:List V) (x29 x30:Int) (K:V→Option V):
 pM F [] (n+1) x0 x2 x3 x4 x5 x6 x7 x8 x28 x29 x30 K=
 let E:=ai (ak 0 x30) (aU x30 3);let G:=V.int .i64 0;let H:=V.int .i64 2;let I:=V.int .i64 1;let M:=aH (ah (aX x28 x30) 0);let O:=eu .i64 x30 1;let A:=aX [V.agg [I,V.int .i64 3,V.int .i64 3600],V.agg [H,H,V.int .i64 60],V.agg [H,H,I]] x30;let N:=K (V.tup [G,I]);let J:=asInt (ah A 0);let L:=asInt (ah A 1);let D:=Dt M J L;let B:=eu .i64 x8 (FD .i64 D (asInt (ah A 2)));let C:=sel E (pM F [] n x0 x2 x3 x4 x5 x6 x7 B x28 x29 O K) (none);sel (aU x30 x29) (sel (ai (ak 0 x30) (aU x30 (av x28))) (sel E (sel (ai (ak 1 J) (ak L 3)) (sel (aK (F7 M J L)) (K (V.tup [G,H])) (sel (aU 0 x30) (sel (ak 60 D) (sel E (pM F [] n x0 x2 x3 x4 x5 x6 1 B x28 x29 O K) none) C) C)) none) none) none) (sel (aK (ieq x7 0)) N (sel (ak 604800 x8) N (sel x5 (K (V.tup [V.int .i64 (jN .i64 0 x8),G])) (K (V.tup [V.int .i64 x8,G]))))):=by kernel_rfl
theorem AB:tY aE:=⟨by kernel_rfl,by kernel_rfl⟩
theorem toA {f:Nat} {args:List V} {r:V} (h:af nE f args r):af aE f args r:=af.env (E:=nE) rfl (fun n v h=>by cases h) h
theorem YO {m:Int} (h:Vq m=true):Fits m:=by
 unfold Vq at h;rw[aJ,ay,ay] at h;exact h
theorem textS_ok (m:Int) (hc:Vq m=true):af aE 63 [.int .i64 m] (.str (text m)):=toA (Bl m (YO hc))
theorem YP (s sep:List UInt8) (hc:ai (seq sep [58]) (ak (au s) 1000)=true):af aE 170 [.str s,.str sep] (.sl 9 [.str] none (lT s)):=by
 rw[aJ,ay,dh,aC] at hc;obtain⟨rfl,hc⟩:=hc;have e:=aF.BX s;have c:=IW (E:=aE) (f:=170) (T:=9) (mx:=3) (mv:=nP.val) rfl s [58] (by decide) (by omega) (fun s sep m w h1 h2 h3=>Go.Proofs.Tryz.strings_Split s sep m w h1 h2 h3);rw[e] at c;exact c
theorem Vr:bn aE aS:=by
 unfold aS;refine bn.cons (fun args r h=>?_) (bn.cons (fun args r h=>?_) bn.nil);all_goals (revert h;intro h;first|unfold textS at h|unfold splitS at h)
 all_goals (split at h;rotate_left; · cases h)
 all_goals (simp only[Option.some.injEq,Prod.mk.injEq] at h;obtain⟨hc,rfl⟩:=h)
 ·exact textS_ok _ hc
 ·exact YP _ _ hc
theorem Fj (s:List UInt8) (l m:Int):pok s l m=true↔(l≤(s.length:Int)∧(s.length:Int)≤m∧s.all isDigit=true):=by
 unfold pok;rw[Bool.and_eq_true,Bool.and_eq_true,decide_eq_true_eq,decide_eq_true_eq,and_assoc]
noncomputable def Pb (s:List UInt8) (l m:Int):V:=.tup [.int .i64 (Dt s l m),.bool (F7 s l m)]
theorem partR_t {s:List UInt8} {l m:Int} (h:pok s l m=true):Pb s l m=.tup [.int .i64 (val s:Int),.bool true]:=by
 unfold Pb Dt F7;rw[if_pos h,h]
theorem Np {s:List UInt8} {l m:Int} (h: ¬pok s l m=true):Pb s l m=.tup [.int .i64 0,.bool false]:=by
 unfold Pb Dt F7;rw[if_neg h,Bool.eq_false_iff.2 h]
theorem YQ (s:List UInt8) (k:Nat) (hk:k<s.length):asInt (ah (aX (aI s) (k:Int)) 0)=((s.getD k 0).toNat:Int):=by
 unfold aI;rw[ja,List.getD_eq_getElem?_getD,List.getElem?_map,List.getElem?_eq_getElem hk,List.getD_eq_getElem?_getD,List.getElem?_eq_getElem hk];rfl
theorem Ux (F:Nat) (K:V→Option V) (s:List UInt8) (l m u x4:Int) (hl:s.length≤3): ∀(n k:Nat),k≤s.length→s.length-k<n→(s.take k).all isDigit=true→
  Bp F [] n l m u s x4 false (val (s.take k):Int) (aI s) (s.length:Int) (k:Int) l m u K=K (if s.all isDigit=true then .tup [.int .i64 (val s:Int),.bool true] else .tup [.int .i64 0,.bool false]):=by
 intro n;induction n with
 |zero=>intro k _ h;omega
 |succ n ih=>
  intro k hk hn hd
  (rw[JK];(conv=>zeta))
  have hb:(aI s).length=s.length:=by unfold aI;simp
  simp only[bV,bf,ay,aJ,aC,aA,hb];by_cases he:k=s.length
  ·rw[if_neg (by omega)]
   rw[he,List.take_length] at hd⊢;rw[if_pos hd]
  ·have hlt:k<s.length:=by omega
   rw[if_pos (by omega),if_pos (by omega),YQ s k hlt];have hmem:s.getD k 0∈s:=by
    rw[List.getD_eq_getElem?_getD,List.getElem?_eq_getElem hlt];exact List.getElem_mem hlt
   by_cases h1:(s.getD k 0).toNat<48
   ·rw[if_pos (by omega),if_neg]
    intro ha;have:=(vW _).1 (List.all_eq_true.1 ha _ hmem);omega
   ·rw[if_neg (by omega)]
    by_cases h2:57<(s.getD k 0).toNat
    ·rw[if_pos (by omega),if_neg]
     intro ha;have:=(vW _).1 (List.all_eq_true.1 ha _ hmem);omega
    ·rw[if_neg (by omega)]
     have hd1:(s.take (k+1)).all isDigit=true:=by
      rw[List.take_add_one,List.getElem?_eq_getElem hlt,List.all_append,hd];rw[List.getD_eq_getElem?_getD,List.getElem?_eq_getElem hlt] at h1 h2;simp only[Option.getD_some] at h1 h2;have:isDigit s[k]=true:=(vW _).2 ⟨by omega,by omega⟩;simp[this]
     have hv:=Bi s k hlt;have hv3:=val_lt (s.take (k+1)) hd1 (k+1);rw[List.take_take,Nat.min_self] at hv3;have h4:10 ^ (k+1)≤10 ^ 3:=Nat.pow_le_pow_right (by decide) (by omega);have e1:eu .i64 (k:Int) 1=((k+1:Nat):Int):=by rw[fU (by omega)];rfl
     have e2:eu .i64 (FD .i64 (val (s.take k):Int) 10) (qh .i64 (jN .u8 ((s.getD k 0).toNat:Int) 48))=(val (s.take (k+1)):Int):=by
      rw[isubu8 (by omega),icnv64 (by omega),Tf (by omega),fU (by omega)];omega
     rw[e1,e2];exact ih (k+1) (by omega) (by omega) hd1
theorem apart_ev (s:List UInt8) (l m u:Int) (hl:1≤l) (hm:m≤3):af aE 171 [.agg [.int .i64 l,.int .i64 m,.int .i64 u],.str s] (Pb s l m):=by
 refine aj AB Vr 5 1 ?_
 (rw[YM];(conv=>zeta))
 simp only[bV,bf,ay,CV,aC];by_cases h1:(s.length:Int)<l
 ·rw[if_pos h1,Np (by rw[Fj];omega)]
 ·rw[if_neg h1]
  by_cases h2:m<(s.length:Int)
  ·rw[if_pos h2,Np (by rw[Fj];omega)]
  ·rw[if_neg h2,if_pos (by omega)]
   have hb:av (aI s)=(s.length:Int):=by unfold av aI;simp
   rw[hb];have:=Ux 5 some s l m u 0 (by omega) 5 0 (by omega) (by omega) rfl;by_cases h3:s.all isDigit=true
   ·rw[partR_t (by rw[Fj];exact⟨by omega,by omega,h3⟩)]
    rw[if_pos h3] at this;exact this
   ·rw[Np (by rw[Fj];exact fun h=>h3 h.2.2)]
    rw[if_neg h3] at this;exact this
theorem IE (k:Nat) (h:k<10):text (k:Int)=[digit k]:=by
 unfold text;rw[if_neg (by omega),Int.natAbs_natCast,lm k h];rfl
theorem atwo_ev (k:Nat) (h:k≤59):af aE 80 [.int .i64 (k:Int)] (.str (gy [58] (Xx (k:Int)))):=by
 refine aj AB Vr 5 2 ?_
 (rw[atwo_top];(conv=>zeta))
 simp only[bV,ay,aJ,eP];have e1:oO .i64 (k:Int) 10=((k/10:Nat):Int):=by rw[Mm (by omega) (by omega) (by omega)];rfl
 have e2:y7 (k:Int) 10=((k%10:Nat):Int):=by rw[vD (by omega)];rfl
 rw[e1,e2,IE _ (by omega),IE _ (by omega),if_pos (by omega),if_pos (by simp),if_pos (by omega),if_pos (by simp[gy])];rfl
def og (k:Nat):List UInt8:=text ((k/3600:Nat):Int)
theorem hour_eq (k:Nat):text ((k/3600:Nat):Int)=og k:=rfl
def qj (k:Nat):List UInt8:=og k++([58]++aF.two (k/60%60))++(if 0<k%60 then[58]++aF.two (k%60) else[])
theorem A8 (k:Nat) (h1:1≤k) (h2:k≤604799):aF.text (k:Int)=(qj k,0):=by
 have e:og k=fP (k/3600):=by
  unfold og text;rw[if_neg (by omega),Int.natAbs_natCast];rfl
 unfold aF.text qj;rw[if_neg (by omega),if_neg (by omega),if_neg (by omega),Int.natAbs_natCast,e];split<;>simp
theorem Nk (k:Nat) (h1:1≤k) (h2:k≤604799):aF.text (-(k:Int))=([45]++qj k,0):=by
 have e:og k=fP (k/3600):=by
  unfold og text;rw[if_neg (by omega),Int.natAbs_natCast];rfl
 unfold aF.text qj;rw[if_neg (by omega),if_neg (by omega),if_pos (by omega),Int.natAbs_neg,Int.natAbs_natCast,e];split<;>simp
theorem Wi (n:Int) (h:n≤ -604800∨604800≤n):aF.text n=([],1):=by unfold aF.text;rw[if_pos h]
theorem amt_nil:aF.text 0=([48],0):=by unfold aF.text;rw[if_neg (by omega),if_pos rfl]
theorem Qd (k:Nat) (h2:k≤604799):(og k).length≤21:=(vG _ (by unfold Fits;omega)).1
theorem Nq (k:Nat):(aF.two k).length=2:=rfl
theorem He (k:Nat) (h2:k≤604799):(qj k).length≤27:=by
 unfold qj;have:=Qd k h2;split<;>simp[Nq]<;>omega
theorem Hf (k:Nat) (h1:1≤k) (h2:k≤604799):Xy (k:Int)=qj k:=by unfold Xy;rw[A8 k h1 h2]
theorem twoI_nat (k:Nat):Xx (k:Int)=aF.two k:=rfl
def amtV (n:Int):V:=.tup [.str (aF.text n).1,.int .i64 (aF.text n).2]
theorem twoA_ok (n:Int) (hc:ai (ak 0 n) (ak n 59)=true):af aE 80 [.int .i64 n] (.str (gy [58] (Xx n))):=by
 rw[aJ,ay,ay] at hc;obtain⟨k,rfl⟩: ∃k:Nat,n=k:=⟨n.toNat,by omega⟩
 exact atwo_ev k (by omega)
theorem tS_ok:bn aE tS:=by
 unfold tS;refine bn.cons (fun args r h=>?_) Vr;all_goals (revert h;intro h;first|unfold twoA at h)
 all_goals (split at h;rotate_left; · cases h)
 all_goals (simp only[Option.some.injEq,Prod.mk.injEq] at h;obtain⟨hc,rfl⟩:=h)
 ·exact twoA_ok _ hc
theorem uF_ok:bn aE (uS false):=by -- of 60
 unfold uS;refine bn.cons (fun args r h=>?_) tS_ok;unfold posS at h;split at h
 ·simp only[Option.some.injEq,Prod.mk.injEq] at h
  obtain⟨hc,rfl⟩:=h
  cases hc
 ·cases h
theorem YR (k:Nat) (h:k≤604799):oO .i64 (k:Int) 3600=((k/3600:Nat):Int)∧oO .i64 (y7 (k:Int) 3600) 60=((k/60%60:Nat):Int)∧y7 (k:Int) 60=((k%60:Nat):Int)∧y7 (oO .i64 (k:Int) 60) 60=((k/60%60:Nat):Int):=by
 have e1:y7 (k:Int) 3600=((k%3600:Nat):Int):=by rw[vD (by omega)];rfl
 have e2:oO .i64 (k:Int) 60=((k/60:Nat):Int):=by rw[Mm (by omega) (by omega) (by omega)];rfl
 refine⟨by rw[Mm (by omega) (by omega) (by omega)];rfl,?_,by rw[vD (by omega)];rfl,?_⟩
 ·rw[e1,Mm (by omega) (by omega) (by omega)];omega
 ·rw[e2,vD (by omega)];rfl
theorem Lh (k:Nat) (h1:1≤k) (h2:k≤604799):af aE 60 [.int .i64 (k:Int)] (.tup [.str (Xy (k:Int)),.int .i64 0]):=by
 refine aj AB uF_ok 5 2 ?_
 (rw[Lg];(conv=>zeta);rw[Hf k h1 h2])
 obtain⟨e1,e2,e3,e4⟩:=YR k h2;have hh:=Qd k h2;simp only[bV,ay,bf,aL,aJ,eP,e1,e2,e3,twoI_nat,hour_eq];rw[if_neg (by omega),if_neg (by omega),if_neg (by omega),if_neg (by omega),if_pos (by omega),if_pos (by omega),if_pos (by simp[gy,Nq];omega)];unfold qj;by_cases h:0<k%60
 ·rw[if_pos (by omega),if_pos (by omega),if_pos (by simp[gy,Nq];omega),if_pos h]
  rfl
 ·rw[if_neg (by omega),if_neg h,List.append_nil]
  rfl
theorem uT_ok:bn aE (uS true):=by -- of 60
 unfold uS;refine bn.cons (fun args r h=>?_) tS_ok;unfold posS at h;split at h
 ·simp only[Option.some.injEq,Prod.mk.injEq] at h
  obtain⟨hc,rfl⟩:=h;rw[aJ,aJ,ay,ay] at hc;rename_i n;obtain⟨k,rfl⟩: ∃k:Nat,n=k:=⟨n.toNat,by omega⟩
  exact Lh k (by omega) (by omega)
 ·cases h
theorem P6 (n:Int) (h1: -9223372036854775808≤n) (h2:n≤9223372036854775807):af aE 60 [.int .i64 n] (amtV n):=by
 by_cases hp:1≤n∧n≤604799
 ·obtain⟨k,rfl⟩: ∃k:Nat,n=k:=⟨n.toNat,by omega⟩
  have:=Lh k (by omega) (by omega);unfold amtV;rw[A8 k (by omega) (by omega)];rw[Hf k (by omega) (by omega)] at this;exact this
 refine aj AB uT_ok 5 2 ?_
 (rw[Lg];(conv=>zeta))
 simp only[bV,ay,bf,aL,aJ,eP];unfold amtV;by_cases ha:n≤ -604800
 ·rw[if_pos ha,Wi n (.inl ha)]
 ·rw[if_neg ha]
  by_cases hb:604800≤n
  ·rw[if_pos hb,Wi n (.inr hb)]
  ·rw[if_neg hb]
   by_cases hc:n=0
   ·subst hc
    rw[if_pos rfl,if_pos (by omega),amt_nil];rfl
   ·rw[if_neg hc,if_pos (by omega)]
    obtain⟨k,rfl⟩: ∃k:Nat,n= -(k:Int):=⟨(-n).toNat,by omega⟩
    have e:jN .i64 0 (-(k:Int))=(k:Int):=by rw[vg (by omega)];omega
    rw[e,if_pos ⟨trivial,by omega,by omega⟩,Hf k (by omega) (by omega),if_pos (by have:=He k (by omega);simp;omega),Nk k (by omega) (by omega)];rfl
noncomputable def tblV:List V:=[V.agg [V.int .i64 1,V.int .i64 3,V.int .i64 3600],V.agg [V.int .i64 2,V.int .i64 2,V.int .i64 60],V.agg [V.int .i64 2,V.int .i64 2,V.int .i64 1]]
theorem tbl_fold:[V.agg [V.int .i64 1,V.int .i64 3,V.int .i64 3600],V.agg [V.int .i64 2,V.int .i64 2,V.int .i64 60],V.agg [V.int .i64 2,V.int .i64 2,V.int .i64 1]]=tblV:=rfl
theorem tbl_at: ∀k:Nat,k<3→asInt (ah (aX tblV (k:Int)) 0)=(aF.least k:Int)∧asInt (ah (aX tblV (k:Int)) 1)=(aF.most k:Int)∧asInt (ah (aX tblV (k:Int)) 2)=(aF.unit k:Int)
 |0,_=>⟨rfl,rfl,rfl⟩
 |1,_=>⟨rfl,rfl,rfl⟩
 |2,_=>⟨rfl,rfl,rfl⟩
 |n+3,h=>by omega
theorem str_at (P:List (List UInt8)) (k:Nat) (hk:k<P.length):aH (ah (aX (bF P) (k:Int)) 0)=P.getD k []:=by
 unfold bF;rw[ja,List.getD_eq_getElem?_getD,List.getElem?_map,List.getElem?_eq_getElem hk,List.getD_eq_getElem?_getD,List.getElem?_eq_getElem hk];rfl
theorem Wj (s:List UInt8) (l m:Nat):pok s (l:Int) (m:Int)=aF.ok s l m:=by
 unfold pok aF.ok;congr 2
 ·apply decide_eq_decide.2;omega
 ·apply decide_eq_decide.2;omega
theorem YS (s:List UInt8) (l m:Nat):F7 s (l:Int) (m:Int)=aF.ok s l m:=Wj s l m
theorem YT {s:List UInt8} {l m:Nat} (h:aF.ok s l m=true):Dt s (l:Int) (m:Int)=(val s:Int):=by unfold Dt;rw[Wj,if_pos h]
theorem ok_val {s:List UInt8} {l m:Nat} (hm:m≤3) (h:aF.ok s l m=true):val s≤999:=by
 unfold aF.ok at h;rw[Bool.and_eq_true,Bool.and_eq_true,decide_eq_true_eq,decide_eq_true_eq] at h;have h3:=val_lt s h.2 s.length;rw[List.take_length] at h3;have h4:10 ^ s.length≤10 ^ 3:=Nat.pow_le_pow_right (by decide) (by omega);omega
theorem most_le (k:Nat):aF.most k≤3∧1≤aF.least k∧aF.unit k≤3600:=by
 unfold aF.most aF.least aF.unit;split<;>(try split)<;>omega
def Pf (P:List (List UInt8)) (below:Bool):V:=.tup [.int .i64 (aF.told P below).1,.int .i64 (aF.told P below).2]
theorem told_bad {P:List (List UInt8)} {b:Bool} {k:Nat} (hk:k<P.length) (h: ¬aF.ok (P.getD k []) (aF.least k) (aF.most k)=true):aF.told P b=(0,2):=by
 have:aF.tV P P.length=false:=by
  rw[Bool.eq_false_iff];intro hg;have:=aF.goodK_le P (k+1) P.length hk hg;unfold aF.tV at this;rw[Bool.and_eq_true] at this;exact h this.2
 unfold aF.told;rw[this];simp
theorem Uy (F:Nat) (K:V→Option V) (s rest:List UInt8) (x2 x3:Int) (x6:List V) (below:Bool) (P:List (List UInt8)) (hP:P.length≤3): ∀(n k:Nat),k≤P.length→P.length-k<n→
  aF.tV P k=true→aF.Aj P k≤k*3596400→
  pM F [] n s x2 x3 rest below x6 (if aF.qC P k then 0 else 1) (aF.Aj P k:Int) (bF P) (P.length:Int) (k:Int) K=K (Pf P below):=by
 intro n;induction n with
 |zero=>intro k _ h;omega
 |succ n ih=>
  intro k hk hn hg hs
  (rw[JL];(conv=>zeta))
  by_cases he:k=P.length
  ·subst he
   simp only[bV,bf,ay,aL,bZ];rw[if_neg (by omega)];unfold Pf aF.told;rw[decide_eq_false (by omega: ¬3<P.length),hg];by_cases hf:aF.qC P P.length=true
   ·rw[if_pos hf,if_neg (by omega),hf]
    by_cases h6:604800≤aF.Aj P P.length
    ·rw[if_pos (by omega),decide_eq_true h6];rfl
    ·rw[if_neg (by omega),decide_eq_false h6]
     cases below with
     |true=>
      rw[if_pos rfl,vg (by omega)];simp
     |false=>rw[if_neg (by simp)];rfl
   ·rw[if_neg hf,if_pos (by omega),Bool.eq_false_iff.2 hf];rfl
  ·have hlt:k<P.length:=by omega
   have hl:(bF P).length=P.length:=rY P;obtain⟨t0,t1,t2⟩:=tbl_at k (by omega);obtain⟨m1,m2,m3⟩:=most_le k;simp only[tbl_fold,t0,t1,t2,str_at P k hlt,YS];rw[aB (bE (by omega)),aB (by rw[aJ];exact⟨bB (by omega),bE (by rw[aA,hl];omega)⟩),aB (by rw[aJ];exact⟨bB (by omega),bE (by omega)⟩),aB (by rw[aJ];exact⟨bB (by omega),bB (by omega)⟩)];by_cases hok:aF.ok (P.getD k []) (aF.least k) (aF.most k)=true
   ·have hv:=ok_val m1 hok
    simp only[YT hok];rw[aW (by rw[hok];rfl)];have hmul:val (P.getD k [])*aF.unit k≤999*3600:=Nat.mul_le_mul hv m3;have e1:eu .i64 (k:Int) 1=((k+1:Nat):Int):=by rw[fU (by omega)];rfl
    have e2:eu .i64 (aF.Aj P k:Int) (FD .i64 (val (P.getD k []):Int) (aF.unit k:Int))=((aF.Aj P (k+1):Nat):Int):=by
     have e3:(val (P.getD k []):Int)*(aF.unit k:Int)=((val (P.getD k [])*aF.unit k:Nat):Int):=by rw[Int.natCast_mul]
     rw[Tf (by rw[e3];omega),e3,fU (by omega)];show _=((aF.Aj P k+val (P.getD k [])*aF.unit k:Nat):Int)
     omega
    have hg1:aF.tV P (k+1)=true:=by unfold aF.tV;rw[hg,hok];rfl
    have hs1:aF.Aj P (k+1)≤(k+1)*3596400:=by
     show aF.Aj P k+val (P.getD k [])*aF.unit k≤_;omega
    have hnext:=ih (k+1) (by omega) (by omega) hg1 hs1;have hb3:ai (ak 0 (k:Int)) (aU (k:Int) 3)=true:=by rw[aJ];exact⟨bB (by omega),bE (by omega)⟩
    rw[e1,e2];by_cases hk0:k=0
    ·rw[aW (bD (by omega)),aB hb3]
     have:aF.qC P (k+1)=aF.qC P k:=by
      show(aF.qC P k&&(decide (k=0)||_))=_;rw[decide_eq_true hk0];simp
     rw[←this];exact hnext
    ·rw[aB (bE (by omega))]
     by_cases h60:60≤val (P.getD k [])
     ·rw[aB (bB (by omega)),aB hb3]
      have:aF.qC P (k+1)=false:=by
       show(aF.qC P k&&(decide (k=0)||decide (val (P.getD k [])≤59)))=_;rw[decide_eq_false hk0,decide_eq_false (by omega)];simp
      rw[this] at hnext;exact hnext
     ·rw[aW (xQ (by omega)),aB hb3]
      have:aF.qC P (k+1)=aF.qC P k:=by
       show(aF.qC P k&&(decide (k=0)||decide (val (P.getD k [])≤59)))=_;rw[decide_eq_false hk0,decide_eq_true (by omega)];simp
      rw[←this];exact hnext
   ·rw[aB (by rw[bZ];exact hok)]
    unfold Pf;rw[told_bad hlt hok]
def readV (s:List UInt8):V:=.tup [.int .i64 (aF.read s).1,.int .i64 (aF.read s).2]
theorem readS_ok (l m u:Int) (s:List UInt8) (hc:ai (ak 1 l) (ak m 3)=true):af aE 171 [.agg [.int .i64 l,.int .i64 m,.int .i64 u],.str s] (.tup [.int .i64 (Dt s l m),.bool (F7 s l m)]):=by
 rw[aJ,ay,ay] at hc;exact apart_ev _ _ _ _ hc.1 hc.2
theorem bS_ok:bn aE bS:=by
 unfold bS;refine bn.cons (fun args r h=>?_) Vr;all_goals (revert h;intro h;first|unfold readS at h)
 all_goals (split at h;rotate_left; · cases h)
 all_goals (simp only[Option.some.injEq,Prod.mk.injEq] at h;obtain⟨hc,rfl⟩:=h)
 ·exact readS_ok _ _ _ _ hc
theorem YU {P:List (List UInt8)} {b:Bool} (h:3<P.length):aF.told P b=(0,2):=by
 unfold aF.told;rw[decide_eq_true h];rfl
theorem Rt (s:List UInt8):av (lT s)=((aF.pieces s).length:Int):=by unfold av lT;rw[rY]
theorem P4 (s:List UInt8) (hs:s.length≤1000):af aE 148 [.str s] (readV s):=by
 refine aj AB bS_ok 5 3 ?_
 (rw[YN];(conv=>zeta))
 have rest: ∀(d:List UInt8) (below:Bool),d.length≤1000→sel (ai (seq [58] [58]) (ak (au d) 1000))
    (sel (aU 3 (av (lT d)))
     (some (V.tup [V.int .i64 0,V.int .i64 2]))
     (pM 5 [] 5 s 0 0 d below (lT d) 0 0 (lT d) (av (lT d)) 0 some))
    none=some (Pf (aF.pieces d) below):=by
  intro d below hd;rw[aB (by rw[aJ];exact⟨rfl,bB (by rw[aC];omega)⟩),Rt];by_cases h3:3<(aF.pieces d).length
  ·rw[aB (bE (by omega))]
   unfold Pf;rw[YU h3]
  ·rw[aW (bD (by omega))]
   exact Uy 5 some s d 0 0 (lT d) below (aF.pieces d) (by omega) 5 0 (by omega) (by omega) rfl (by show 0≤_;omega)
 cases s with
 |nil=>
  rw[aW (xQ (by decide))];exact rest [] false (by simp)
 |cons c t=>
  have hlen:au (c::t)=(t.length:Int)+1:=by rw[aC,List.length_cons];omega
  have e1:dG (c::t) 0 (au [45])=[c]:=rfl;have e2:dG (c::t) (au [45]) (au (c::t))=t:=by
   rw[show au [45]=((1:Nat):Int) from rfl,aC,G4];simp
  have h45:au [45]=1:=rfl;rw[e1,e2,aB (bB (by rw[h45,hlen];omega)),aB (by rw[aJ];exact⟨by decide,bB (by rw[h45,hlen];omega)⟩)];by_cases hc:c=45
  ·subst hc
   rw[aW (by decide),aB (by rw[aJ];exact⟨by decide,bB (by rw[h45,hlen];omega)⟩)];by_cases ht:t=[]
   ·subst ht
    rw[aB (by decide)];rfl
   ·rw[aW (by rw[Bool.eq_false_iff,ne_eq,dh];exact ht),rest t true (by simp at hs;omega)]
    unfold readV aF.read;rw[if_neg (by simpa using ht)];rfl
  ·rw[aB (by rw[bZ,dh];simpa using hc),rest (c::t) false hs]
   have hm:minus (c::t)=false:=by unfold minus;simpa using hc
   unfold readV aF.read bare;rw[if_neg (by simp[hc]),hm];rfl
theorem YV (k:Nat):og k=fP (k/3600):=by
 unfold og text;rw[if_neg (by omega),Int.natAbs_natCast];rfl
theorem digs_ok (n f:Nat) (h0:0<f) (h:n<10 ^ f) (hf:f≤3):aF.ok (fP n) 1 3=true∧val (fP n)=n:=by
 have h1:=rH f n h h0;have h2:=rJ (n+1) n (by omega);refine⟨?_,Bj (n+1) n (by omega)⟩;unfold aF.ok;rw[h2.1,decide_eq_true (by omega:1≤(fP n).length),decide_eq_true (by omega:(fP n).length≤3)];rfl
theorem wI (k:Nat) (h:k≤604799):aF.ok (og k) 1 3=true∧val (og k)=k/3600:=by
 rw[YV];exact digs_ok _ 3 (by decide) (by omega) (by decide)
def Kc (k:Nat):List UInt8:=(if 0<k%60 then[58]++aF.two (k%60) else[])
theorem P8 (p:List UInt8) (k:Nat) (hk:k≤604799) (hp:aF.ok p 1 3=true) (hv:val p=k/3600) (b:Bool):
  aF.told (aF.pieces (p++([58]++aF.two (k/60%60))++Kc k)) b=(if b then -(k:Int) else(k:Int),0):=by
 obtain⟨m1,m2⟩:=aF.two_ok ⟨k/60%60,by omega⟩;obtain⟨s1,s2⟩:=aF.two_ok ⟨k%60,by omega⟩;simp only at m1 m2 s1 s2;unfold Kc;by_cases h:0<k%60
 ·rw[if_pos h,aF.pieces3 hp m1 s1,aF.told3 hp m1 s1,hv,m2,s2,if_neg (by omega)]
  have:k/3600*3600+k/60%60*60+k%60=k:=by omega
  rw[this]
 ·rw[if_neg h,List.append_nil,aF.pieces2 hp m1,aF.told2 hp m1 (by omega) (by omega),hv,m2]
  have:k/3600*3600+k/60%60*60=k:=by omega
  rw[this]
theorem Uz {c:UInt8} {t:List UInt8} (h:c≠45):aF.read (c::t)=aF.told (aF.pieces (c::t)) false:=by
 have hm:minus (c::t)=false:=by unfold minus;simpa using h
 unfold aF.read bare;rw[if_neg (by simp[h]),hm];rfl
theorem Iz {t:List UInt8} (h:t≠[]):aF.read ([45]++t)=aF.told (aF.pieces t) true:=by
 unfold aF.read;rw[if_neg (by simpa using h)];rfl
theorem Hg (k:Nat) (h:k≤604799): ∃c t,og k=c::t∧c≠45:=by
 have ho:=(wI k h).1;unfold aF.ok at ho;rw[Bool.and_eq_true,Bool.and_eq_true,decide_eq_true_eq] at ho
 cases e:og k with
 |nil=>rw[e] at ho;simp at ho
 |cons c t=>
  refine⟨c,t,rfl,fun hc=>?_⟩;have:=List.all_eq_true.1 ho.2 c (by rw[e];exact .head _);rw[hc] at this;exact absurd this (by decide)
theorem wH (k:Nat):qj k=og k++([58]++aF.two (k/60%60))++Kc k:=rfl
theorem posL_ne (k:Nat) (h:k≤604799):qj k≠[]:=by
 obtain⟨c,t,e,_⟩:=Hg k h;rw[wH,e];simp
theorem P9 (k:Nat) (h:k≤604799):aF.read (qj k)=((k:Int),0):=by
 obtain⟨c,t,e,hc⟩:=Hg k h;have h1:qj k=c::(t++([58]++aF.two (k/60%60))++Kc k):=by rw[wH,e];rfl
 rw[h1,Uz hc,←h1,wH,P8 _ k h (wI k h).1 (wI k h).2];rfl
theorem Qe (m:Nat) (h:m<100): ∃c,aF.two m=[digit (m/10)]++[c]∧48≤c.toNat∧c.toNat≤57:=by
 refine⟨digit (m%10),rfl,?_⟩;rw[jM _ (by omega)];omega
theorem pos_last (k:Nat) (h:k≤604799): ∃l c,qj k=l++[c]∧48≤c.toNat∧c.toNat≤57:=by
 rw[wH];unfold Kc;by_cases h1:0<k%60
 ·obtain⟨c,hc,hd⟩:=Qe (k%60) (by omega)
  rw[if_pos h1,hc];exact⟨og k++([58]++aF.two (k/60%60))++([58]++[digit (k%60/10)]),c,by simp,hd⟩
 ·obtain⟨c,hc,hd⟩:=Qe (k/60%60) (by omega)
  rw[if_neg h1,hc];exact⟨og k++([58]++[digit (k/60%60/10)]),c,by simp,hd⟩
theorem YF (n:Int) (h0:0≤n) (h1:n≤604799): ∃l c,(aF.text n).1=l++[c]∧48≤c.toNat∧c.toNat≤57∧aF.read (aF.text n).1=(n,0):=by
 obtain⟨k,rfl⟩: ∃k:Nat,n=(k:Int):=⟨n.toNat,by omega⟩
 by_cases hk:k=0
 ·subst hk
  exact⟨[],48,rfl,by decide,by decide,rfl⟩
 ·have e:(aF.text (k:Int)).1=qj k:=by rw[A8 k (by omega) (by omega)]
  obtain⟨l,c,h2,h3,h4⟩:=pos_last k (by omega);exact⟨l,c,e.trans h2,h3,h4,by rw[e];exact P9 k (by omega)⟩
end Nt.Ev.YtplklcejbmfgdaaGreatDoor
