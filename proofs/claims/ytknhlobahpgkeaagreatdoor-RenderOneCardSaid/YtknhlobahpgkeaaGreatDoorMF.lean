/-
  The plain law of amounts: pieces between colons, parts, sums.
-/
import Derived.Test.YtknhlobahpgkeaaGreatDoorMC
import Derived.Lib.Split
import Derived.Test.YtknhlobahpgkeaaGreatDoorMS
set_option linter.all false
set_option maxRecDepth 100000
namespace Nt.aQ
open Go Go.RowKit Nt Nt.Num
def pieces:af→List (af)
 |[]=>[[]]
 |c::l=>if c==58 then[]::pieces l else(c::(pieces l).headD [])::(pieces l).tail
def least (i:Nat):Nat:=if i=0 then 1 else 2
def most (i:Nat):Nat:=if i=0 then 3 else 2
def unit (i:Nat):Nat:=if i=0 then 3600 else if i=1 then 60 else 1
def ok (l:af) (least most:Nat):Bool:=decide (least≤l.length)&&decide (l.length≤most)&&l.all isDigit
def part (l:af) (least most:Nat):Int×Bool:=if ok l least most then((val l:Nat),true) else(0,false)
def uI (P:List (af)):Nat→Bool
 |0=>true
 |k+1=>uI P k&&ok (P.getD k []) (least k) (most k)
def qH (P:List (af)):Nat→Bool
 |0=>true
 |k+1=>qH P k&&(decide (k=0)||decide (val (P.getD k [])≤59))
def Av (P:List (af)):Nat→Nat
 |0=>0
 |k+1=>Av P k+val (P.getD k [])*unit k
def told (P:List (af)) (below:Bool):Int×Int:=
 if decide (3<P.length)|| !uI P P.length then(0,2)
 else if !qH P P.length||decide (604800≤Av P P.length) then(0,1)
 else(if below then -(Av P P.length:Int) else(Av P P.length:Int),0)
def read (l:af):Int×Int:=if l=[45] then(0,0) else told (pieces (bare l)) (minus l)
def two (n:Nat):af:=[digit (n/10),digit (n%10)]
def text (n:Int):af×Int:=
 if n≤ -604800∨604800≤n then([],1)
 else if n=0 then([48],0)
 else((if n<0 then[45] else[])++gy (n.natAbs/3600)++[58]++two (n.natAbs/60%60)++(if 0<n.natAbs%60 then 58::two (n.natAbs%60) else[]),0)
theorem goodK_le (P:List (af)) (k:Nat): ∀m,k≤m→uI P m=true→uI P k=true:=by
 intro m;induction m with
 |zero=>
    intro h a;have e:k=0:=by omega
    rw[e];exact a
 |succ m b=>
  intro h a;by_cases e:k=m+1
  ·rw[e];exact a
  unfold uI at a;rw[bC] at a;exact b (by omega) a.1
theorem Z9 (l:af):pieces l≠[]:=by
 cases l with
 |nil=>simp[pieces]
 |cons c l=>unfold pieces;split<;>simp
theorem Cg: ∀(s:af),Lib.splitK [58] 0 (Lib.count s [58]) s=pieces s
 |[]=>by
  have h:Lib.index [] [58]= -1:=by decide
  rw[Lib.count_miss h];rfl
 |c::l=>by
  have d:=Cg l;by_cases f:c=58
  ·subst f
   have h:Lib.index (58::l) [58]=(0:Nat):=by unfold Lib.index;simp
   rw[Lib.count_hit (by simp) h,ab0 1];unfold Lib.splitK;rw[if_neg (by rw[h];decide),h];have m:List.take (Int.toNat (((0:Nat):Int))+0) (58::l)=([]:af):=rfl;have o:List.drop (Int.toNat (((0:Nat):Int))+[(58:UInt8)].length) (58::l)=l:=rfl;have n:List.drop (0+[(58:UInt8)].length) (58::l)=l:=rfl;rw[m,o,n,d];conv=>rhs;unfold pieces
   rw[if_pos (by rfl)]
  have g:([58]:af).isPrefixOf (c::l)=false:=by simp only[List.isPrefixOf,ac4,uE];exact fun e=>f e.symm
  have b:pieces (c::l)=(c::(pieces l).headD [])::(pieces l).tail:=by
   conv=>lhs;unfold pieces
   rw[if_neg (by simpa using f)]
  by_cases j:Lib.index l [58]= -1
  ·have h:Lib.index (c::l) [58]= -1:=by unfold Lib.index;rw[g,j];rfl
   rw[Lib.count_miss h,b,←d,Lib.count_miss j];rfl
  have k:=Lib.index_ge l [58];obtain⟨i,a⟩: ∃i:Nat,Lib.index l [58]=i:=⟨(Lib.index l [58]).toNat,by omega⟩
  have h:Lib.index (c::l) [58]=((i+1:Nat):Int):=by unfold Lib.index;rw[g,a];simp only[JP,Cu];rw[if_neg (by rw[iM];omega)];rfl
  rw[Lib.count_hit (by simp) a,ab0 1] at d;rw[Lib.count_hit (by simp) h,ab0 1,b,←d];unfold Lib.splitK;rw[if_neg (by rw[h,iM];omega),h,if_neg (by rw[a,iM];omega),a];simp only[Kr,VU,acp,List.headD_cons,List.tail_cons,vg,acN]
def glue (p:af) (P:List (af)):List (af):=(p++P.headD [])::P.tail
theorem glue_nil (l:af):glue [] (pieces l)=pieces l:=by
 unfold glue
 cases e:pieces l with
 |nil=>exact absurd e (Z9 l)
 |cons a t=>rfl
theorem glue_end (p:af):glue p (pieces [])=[p]:=by simp[glue,pieces]
theorem Vr (p l:af):glue p (pieces (58::l))=p::pieces l:=by simp[glue,pieces]
theorem EK (p l:af) (h: ∀c∈p,c≠58):pieces (p++l)=glue p (pieces l):=by
 induction p with
 |nil=>exact(glue_nil l).symm
 |cons c p b=>
  have d:=b (fun c a=>h c (.tail _ a));have a:c≠58:=h c (.head _);show pieces (c::(p++l))=_;conv=>lhs;unfold pieces
  rw[if_neg (by simpa using a),d];simp[glue]
theorem Jn (p:af) (h: ∀c∈p,c≠58):pieces p=[p]:=by have:=EK p [] h;rw[JQ] at this;rw[this,glue_end]
theorem uz (p l:af) (h: ∀c∈p,c≠58):pieces (p++58::l)=p::pieces l:=by rw[EK p _ h,Vr]
theorem adg (p:af) (h:p.all isDigit=true): ∀c∈p,c≠58:=by intro c a e;have:=List.all_eq_true.1 h c a;rw[e] at this;exact absurd this (by decide)
theorem P9 {p:af} {l m:Nat} (h:ok p l m=true): ∀c∈p,c≠58:=by unfold ok at h;rw[bC] at h;exact adg p h.2
theorem pieces2 {p q:af} {l m d c:Nat} (a:ok p l m=true) (b:ok q d c=true):pieces (p++([58]++q))=[p,q]:=by rw[show p++([58]++q)=p++58::q from rfl,uz p q (P9 a),Jn q (P9 b)]
theorem pieces3 {p q r:af} {l m f e b a:Nat} (c:ok p l m=true) (d:ok q f e=true) (g:ok r b a=true):pieces (p++([58]++q)++([58]++r))=[p,q,r]:=by rw[show p++([58]++q)++([58]++r)=p++58::(q++58::r) by simp,uz p _ (P9 c),uz q _ (P9 d),Jn r (P9 g)]
theorem two_ok: ∀k:Fin 100,ok (two k) 2 2=true∧val (two k)=k:=by decide
theorem told2 {p q:af} {b:Bool} (c:ok p 1 3=true) (f:ok q 2 2=true) (a:val q≤59) (h:val p*3600+val q*60<604800):
  told [p,q] b=(if b then -((val p*3600+val q*60:Nat):Int) else((val p*3600+val q*60:Nat):Int),0):=by
 have g:uI [p,q] 2=true:=by show(true&&ok p 1 3&&ok q 2 2)=true;rw[c,f];rfl
 have d:qH [p,q] 2=true:=by show(true&&(true||decide (val p≤59))&&(false||decide (val q≤59)))=true;rw[u6 a];simp
 have e:Av [p,q] 2=val p*3600+val q*60:=by show 0+val p*3600+val q*60=_;omega
 unfold told;rw[show[p,q].length=2 from rfl,g,d,e,uZ (by omega: ¬604800≤_),uZ (by omega: ¬3<2)];rfl
theorem told3 {p q r:af} {b:Bool} (c:ok p 1 3=true) (f:ok q 2 2=true) (h:ok r 2 2=true):
  told [p,q,r] b=if 59<val q∨59<val r∨604800≤val p*3600+val q*60+val r then(0,1) else(if b then -((val p*3600+val q*60+val r:Nat):Int) else((val p*3600+val q*60+val r:Nat):Int),0):=by
 have j:uI [p,q,r] 3=true:=by show(true&&ok p 1 3&&ok q 2 2&&ok r 2 2)=true;rw[c,f,h];rfl
 have d:qH [p,q,r] 3=(decide (val q≤59)&&decide (val r≤59)):=by show(true&&(true||decide (val p≤59))&&(false||decide (val q≤59))&&(false||decide (val r≤59)))=_;simp
 have e:Av [p,q,r] 3=val p*3600+val q*60+val r:=by show 0+val p*3600+val q*60+val r*1=_;omega
 unfold told;rw[show[p,q,r].length=3 from rfl,j,d,e,uZ (by omega: ¬3<3),if_neg (show¬((false|| !true)=true) by decide)];by_cases i:59<val q
 ·rw[if_pos (Or.inl i:59<val q∨59<val r∨604800≤val p*3600+val q*60+val r),uZ (by omega: ¬val q≤59)];rfl
 by_cases g:59<val r
 ·rw[if_pos (Or.inr (Or.inl g):59<val q∨59<val r∨604800≤val p*3600+val q*60+val r),uZ (by omega: ¬val r≤59),Bool.and_false];rfl
 rw[u6 (by omega:val q≤59),u6 (by omega:val r≤59)];by_cases a:604800≤val p*3600+val q*60+val r
 ·rw[if_pos (Or.inr (Or.inr a):59<val q∨59<val r∨604800≤val p*3600+val q*60+val r),u6 a];rfl
 rw[uZ a,if_neg (show¬((!(true&&true)||false)=true) by decide),if_neg (show¬(59<val q∨59<val r∨604800≤val p*3600+val q*60+val r) by omega)]
end Nt.aQ
namespace Nt.Ev.YtknhlobahpgkeaaGreatDoor
open Go Nt.Num Go.Proofs.YtknhlobahpgkeaaGreatDoor
noncomputable def l5 (s:af):ah:=bE (aQ.pieces s)
noncomputable def pok (s:af) (l m:Int):Bool:=decide (l≤(s.length:Int))&&decide ((s.length:Int)≤m)&&s.all isDigit
noncomputable def Ea (s:af) (l m:Int):Int:=if pok s l m then(val s:Int) else 0
noncomputable def GD (s:af) (l m:Int):Bool:=pok s l m
noncomputable def YS (n:Int):af:=aQ.two n.toNat
noncomputable def YT (n:Int):af:=(aQ.text n).1
variable [kM]
noncomputable def Uh:V:=.rptr [.int .i64,.int .i64,.int .i64,.int .i64,.int .i64,.int .i64,.int .i64,.int .i64,.int .i64] (.agg [.int .i64 1,.int .i64 3,.int .i64 3600,.int .i64 2,.int .i64 2,.int .i64 60,.int .i64 2,.int .i64 2,.int .i64 1]) 0
noncomputable def aE:Env:=⟨Go.Proofs.Tryz.prog,fun g=>bif g==4 then some Uh else bif g==3 then some (.rptr [.int .i64] (.int .i64 kM.val) 0) else none⟩
noncomputable def Wv (m:Int):Bool:=ak (av (-9223372036854775808) m) (av m 9223372036854775807)
noncomputable def textS:aC:=fun a=>match a with|[.int .i64 m]=>some (Wv m,.str (text m))|_=>none
noncomputable def splitS:aC:=fun a=>match a with|[.str s,.str sep]=>some (ak (seq sep [58]) (av (aA s) 1000),.sl 9 [.str] none (l5 s))|_=>none
noncomputable def readS:aC:=fun a=>match a with|[.agg [.int .i64 l,.int .i64 m,.int .i64 u],.str s]=>some (ak (av 1 l) (av m 3),.tup [.int .i64 (Ea s l m),.bool (GD s l m)])|_=>none
noncomputable def twoA:aC:=fun a=>match a with|[.int .i64 n]=>some (ak (av 0 n) (av n 59),.str (dU [58] (YS n)))|_=>none
noncomputable def posS (b:Bool):aC:=fun a=>match a with|[.int .i64 n]=>some (ak b (ak (av 1 n) (av n 604799)),.tup [.str (YT n),.int .i64 0])|_=>none
noncomputable def aS:List (Nat×aC):=(54,textS)::(151,splitS)::[]
noncomputable def bS:List (Nat×aC):=(152,readS)::aS
noncomputable def tS:List (Nat×aC):=(57,twoA)::aS
noncomputable def uS (b:Bool):List (Nat×aC):=(31,posS b)::tS
noncomputable def BB:=fun F k n f a c o j l m h g i e d b K=>(gH aE aS F 1 152 [1,1,1,0,1,0] k K n (kD 42 [(0,V.agg [V.int .i64 f,V.int .i64 a,V.int .i64 c]),(1,V.str o),(2,V.box 2 0),(4,V.int .i64 j),(5,V.bool l),(6,V.int .i64 m),(22,V.sl 5 [Kd.int .u8] none h),(23,V.int .i64 g),(24,V.int .i64 i)] [(2,[V.int .i64 e,V.int .i64 d,V.int .i64 b])]):Option V)
theorem adh (F s l m u) (K:V→Option V):
 bA aE (bu aE aS F 1) F 152 [V.agg [V.int .i64 l,V.int .i64 m,V.int .i64 u],V.str s] K=
 let A:=K (V.tup [V.int .i64 0,V.bool false]);sel (aW (aA s) l) A (sel (aW m (aA s)) A (sel (Ky s) (BB F [] F l m u s 0 false 0 (aF s) (ay (aF s)) 0 l m u K) none)):=by kernel_rfl
theorem Kg (F n h c e m k l j b i a g f d K):
 BB F [] (n+1) h c e m k l j b i a g f d K=
 let A:=asInt (ai (aG b a) 0);let B:=K (V.tup [V.int .i64 0,V.bool false]);sel (aW a i) (sel (ak (av 0 a) (aW a (ay b))) (sel (aW A 48) B (sel (aW 57 A) B (BB F [] n h c e m k l (bJ .i64 (mF .i64 j 10) (qm .i64 (dw .u8 A 48))) b i (bJ .i64 a 1) g f d K))) none) (K (V.tup [V.int .i64 j,V.bool true])):=by kernel_rfl
theorem atwo_top (F n) (K:V→Option V):
 bA aE (bu aE aS F 2) F 57 [V.int .i64 n] K=
 let A:=gF .i64 n 10;let B:=tH n 10;let C:=dU [58] (text A);sel (ak (av (-9223372036854775808) A) (av A 9223372036854775807)) (sel (fu [58] (text A)) (sel (ak (av (-9223372036854775808) B) (av B 9223372036854775807)) (sel (fu C (text B)) (K (V.str (dU C (text B)))) none) none) none) none:=by kernel_rfl
theorem L8 (a F m) (K:V→Option V):
 bA aE (bu aE (uS a) F 2) F 31 [V.int .i64 m] K=
 let B:=gF .i64 (tH m 3600) 60;let C:=gF .i64 m 3600;let D:=dw .i64 0 m;let E:=tH m 60;let G:=K (V.tup [V.str [],V.int .i64 1]);let H:=V.int .i64 0;let I:=dU [58] (YS B);let J:=dU [58] (YS E);let A:=dU (text C) I;sel (av m (-604800)) G (sel (av 604800 m) G (sel (ieq m 0) (sel (ak (av (-9223372036854775808) m) (av m 9223372036854775807)) (K (V.tup [V.str (text m),H])) none) (sel (aW m 0) (sel (ak a (ak (av 1 D) (av D 604799))) (sel (fu [45] (YT D)) (K (V.tup [V.str (dU [45] (YT D)),H])) none) none) (sel (ak (av (-9223372036854775808) C) (av C 9223372036854775807)) (sel (ak (av 0 B) (av B 59)) (sel (fu (text C) I) (sel (aW 0 E) (sel (ak (av 0 E) (av E 59)) (sel (fu A J) (K (V.tup [V.str (dU A J),H])) none) none) (K (V.tup [V.str A,H]))) none) none) none)))):=by kernel_rfl
noncomputable def pO:=fun F g n d k i e l h j f c a b K=>(gH aE bS F 3 121 [1,1,1,1,1,1,1,0,1,0] g K n (kD 72 [(0,V.str d),(2,V.int .i64 k),(3,V.int .i64 i),(4,V.str e),(5,V.bool l),(6,V.sl 9 [Kd.str] none h),(7,V.int .i64 j),(8,V.int .i64 f),(28,V.sl 9 [Kd.str] none c),(29,V.int .i64 a),(30,V.int .i64 b)] []):Option V)
theorem adi (F s) (K:V→Option V):
 bA aE (bu aE bS F 3) F 121 [V.str s] K=
 let C:=aA [45];let H:=l5 s;let I:=V.int .i64 0;let B:=dN s C (aA s);let D:=K (V.tup [I,V.int .i64 2]);let E:=ak (av 0 C) (av C (aA s));let A:=sel (ak (seq [58] [58]) (av (aA s) 1000)) (sel (aW 3 (ay H)) D (pO F [] F s 0 0 s false H 0 0 H (ay H) 0 K)) (none);let G:=l5 B;sel (av C (aA s)) (sel E (sel (aL (seq (dN s 0 C) [45])) A (sel E (sel (seq B []) (K (V.tup [I,I])) (sel (ak (seq [58] [58]) (av (aA B) 1000)) (sel (aW 3 (ay G)) D (pO F [] F s 0 0 B true G 0 0 G (ay G) 0 K)) none)) none)) none) A:=by kernel_rfl
theorem Kh (F n f j h g e k i d b c a K):
 pO F [] (n+1) f j h g e k i d b c a K=
 let E:=ak (av 0 a) (aW a 3);let G:=V.int .i64 0;let H:=V.int .i64 2;let I:=V.int .i64 1;let M:=aH (ai (aG b a) 0);let O:=bJ .i64 a 1;let A:=aG [V.agg [I,V.int .i64 3,V.int .i64 3600],V.agg [H,H,V.int .i64 60],V.agg [H,H,I]] a;let N:=K (V.tup [G,I]);let J:=asInt (ai A 0);let L:=asInt (ai A 1);let D:=Ea M J L;let B:=bJ .i64 d (mF .i64 D (asInt (ai A 2)));let C:=sel E (pO F [] n f j h g e k i B b c O K) (none);sel (aW a c) (sel (ak (av 0 a) (aW a (ay b))) (sel E (sel (ak (av 1 J) (av L 3)) (sel (aL (GD M J L)) (K (V.tup [G,H])) (sel (aW 0 a) (sel (av 60 D) (sel E (pO F [] n f j h g e k 1 B b c O K) none) C) C)) none) none) none) (sel (aL (ieq i 0)) N (sel (av 604800 d) N (sel e (K (V.tup [V.int .i64 (dw .i64 0 d),G])) (K (V.tup [V.int .i64 d,G]))))):=by kernel_rfl
theorem AQ:uL aE:=⟨by kernel_rfl,by kernel_rfl⟩
theorem toA {f:Nat} {args:ah} {r:V} (h:aj nE f args r):aj aE f args r:=aj.env (E:=nE) rfl (fun n v h=>by cases h) h
theorem adj {m:Int} (h:Wv m=true):Fits m:=by unfold Wv at h;rw[aM,aB,aB] at h;exact h
theorem textS_ok (m:Int) (a:Wv m=true):aj aE 54 [.int .i64 m] (.str (text m)):=toA (Bw m (adj a))
theorem adk (s a:af) (b:ak (seq a [58]) (av (aA s) 1000)=true):aj aE 151 [.str s,.str a] (.sl 9 [.str] none (l5 s)):=by rw[aM,aB,cK,aI] at b;obtain⟨rfl,b⟩:=b;have e:=aQ.Cg s;have c:=JC (E:=aE) (f:=151) (T:=9) (mx:=3) (mv:=kM.val) rfl s [58] (by decide) (by omega) (fun s a m w g d h=>Go.Proofs.Tryz.strings_Split s a m w g d h);rw[e] at c;exact c
theorem Ww:bf aE aS:=by
 unfold aS;refine bf.cons (fun args r h=>?_) (bf.cons (fun args r h=>?_) bf.nil);all_goals (revert h;intro h;first|unfold textS at h|unfold splitS at h)
 all_goals (split at h;rotate_left; · cases h)
 all_goals (simp only[aR,bM] at h;obtain⟨a,rfl⟩:=h)
 ·exact textS_ok _ a
 exact adk _ _ a
theorem FL (s:af) (l m:Int):pok s l m=true↔(l≤(s.length:Int)∧(s.length:Int)≤m∧s.all isDigit=true):=by unfold pok;rw[bC,bC,lG,lG,and_assoc]
noncomputable def Qa (s:af) (l m:Int):V:=.tup [.int .i64 (Ea s l m),.bool (GD s l m)]
theorem partR_t {s:af} {l m:Int} (h:pok s l m=true):Qa s l m=.tup [.int .i64 (val s:Int),.bool true]:=by unfold Qa Ea GD;rw[if_pos h,h]
theorem Ob {s:af} {l m:Int} (h: ¬pok s l m=true):Qa s l m=.tup [.int .i64 0,.bool false]:=by unfold Qa Ea GD;rw[if_neg h,Bool.eq_false_iff.2 h]
theorem adl (s:af) (k:Nat) (a:k<s.length):asInt (ai (aG (aF s) (k:Int)) 0)=((s.getD k 0).toNat:Int):=by unfold aF;rw[eX,mg,sW,iZ a,mg,iZ a];rfl
theorem Vs (F:Nat) (K:V→Option V) (s:af) (l m u j:Int) (v:s.length≤3): ∀(n k:Nat),k≤s.length→s.length-k<n→(s.take k).all isDigit=true→
  BB F [] n l m u s j false (val (s.take k):Int) (aF s) (s.length:Int) (k:Int) l m u K=K (if s.all isDigit=true then .tup [.int .i64 (val s:Int),.bool true] else .tup [.int .i64 0,.bool false]):=by
 intro n;induction n with
 |zero=>intro k _ h;omega
 |succ n r=>
  intro k x w d
  (rw[Kg];(conv=>zeta))
  have o:(aF s).length=s.length:=by unfold aF;simp
  simp only[bK,bq,aB,aM,aI,aD,o];by_cases q:k=s.length
  ·rw[if_neg (by omega)]
   rw[q,abJ] at d⊢;rw[if_pos d]
  have a:k<s.length:=by omega
  rw[if_pos (by omega),if_pos (by omega),adl s k a];have b:s.getD k 0∈s:=by rw[mg,iZ a];exact Ga a
  by_cases i:(s.getD k 0).toNat<48
  ·rw[if_pos (by omega),if_neg]
   intro f;have:=(wK _).1 (List.all_eq_true.1 f _ b);omega
  rw[if_neg (by omega)];by_cases g:57<(s.getD k 0).toNat
  ·rw[if_pos (by omega),if_neg]
   intro f;have:=(wK _).1 (List.all_eq_true.1 f _ b);omega
  rw[if_neg (by omega)];have c:(s.take (k+1)).all isDigit=true:=by rw[acz,iZ a,ac9,d];rw[mg,iZ a] at i g;simp only[yT] at i g;have:isDigit s[k]=true:=(wK _).2 ⟨by omega,by omega⟩;simp[this]
  have y:=Bu s k a;have e:=val_lt (s.take (k+1)) c (k+1);rw[acV,Nat.min_self] at e;have z:10 ^ (k+1)≤10 ^ 3:=abp (by decide) (by omega);have p:bJ .i64 (k:Int) 1=((k+1:Nat):Int):=by rw[cZ (by omega)];rfl
  have t:bJ .i64 (mF .i64 (val (s.take k):Int) 10) (qm .i64 (dw .u8 ((s.getD k 0).toNat:Int) 48))=(val (s.take (k+1)):Int):=by rw[isubu8 (by omega),icnv64 (by omega),og (by omega),cZ (by omega)];omega
  rw[p,t];exact r (k+1) (by omega) (by omega) c
theorem apart_ev (s:af) (l m u:Int) (f:1≤l) (e:m≤3):aj aE 152 [.agg [.int .i64 l,.int .i64 m,.int .i64 u],.str s] (Qa s l m):=by
 refine au AQ Ww 5 1 ?_
 (rw[adh];(conv=>zeta))
 simp only[bK,bq,aB,Dt,aI];by_cases c:(s.length:Int)<l
 ·rw[if_pos c,Ob (by rw[FL];omega)]
 rw[if_neg c];by_cases b:m<(s.length:Int)
 ·rw[if_pos b,Ob (by rw[FL];omega)]
 rw[if_neg b,if_pos (by omega)];have d:ay (aF s)=(s.length:Int):=by unfold ay aF;simp
 rw[d];have:=Vs 5 some s l m u 0 (by omega) 5 0 (by omega) (by omega) rfl;by_cases a:s.all isDigit=true
 ·rw[partR_t (by rw[FL];exact⟨by omega,by omega,a⟩)]
  rw[if_pos a] at this;exact this
 rw[Ob (by rw[FL];exact fun h=>a h.2.2)];rw[if_neg a] at this;exact this
theorem Jo (k:Nat) (h:k<10):text (k:Int)=[digit k]:=by unfold text;rw[if_neg (by omega),abV,lD k h];rfl
theorem atwo_ev (k:Nat) (h:k≤59):aj aE 57 [.int .i64 (k:Int)] (.str (dU [58] (YS (k:Int)))):=by
 refine au AQ Ww 5 2 ?_
 (rw[atwo_top];(conv=>zeta))
 simp only[bK,aB,aM,gX];have b:gF .i64 (k:Int) 10=((k/10:Nat):Int):=by rw[pF (by omega) (by omega) (by omega)];rfl
 have a:tH (k:Int) 10=((k%10:Nat):Int):=by rw[nN (by omega)];rfl
 rw[b,a,Jo _ (by omega),Jo _ (by omega),if_pos (by omega),if_pos (by simp),if_pos (by omega),if_pos (by simp[dU])];rfl
def oo (k:Nat):af:=text ((k/3600:Nat):Int)
theorem hour_eq (k:Nat):text ((k/3600:Nat):Int)=oo k:=rfl
def qp (k:Nat):af:=oo k++([58]++aQ.two (k/60%60))++(if 0<k%60 then[58]++aQ.two (k%60) else[])
theorem Be (k:Nat) (a:1≤k) (b:k≤604799):aQ.text (k:Int)=(qp k,0):=by
 have e:oo k=gy (k/3600):=by unfold oo text;rw[if_neg (by omega),abV];rfl
 unfold aQ.text qp;rw[if_neg (by omega),if_neg (by omega),if_neg (by omega),abV,e];split<;>simp
theorem N8 (k:Nat) (a:1≤k) (b:k≤604799):aQ.text (-(k:Int))=([45]++qp k,0):=by
 have e:oo k=gy (k/3600):=by unfold oo text;rw[if_neg (by omega),abV];rfl
 unfold aQ.text qp;rw[if_neg (by omega),if_neg (by omega),if_pos (by omega),Int.natAbs_neg,abV,e];split<;>simp
theorem Xr (n:Int) (h:n≤ -604800∨604800≤n):aQ.text n=([],1):=by unfold aQ.text;rw[if_pos h]
theorem amt_nil:aQ.text 0=([48],0):=by unfold aQ.text;rw[if_neg (by omega),if_pos rfl]
theorem QT (k:Nat) (a:k≤604799):(oo k).length≤21:=(vY _ (by unfold Fits;omega)).1
theorem Od (k:Nat):(aQ.two k).length=2:=rfl
theorem Im (k:Nat) (a:k≤604799):(qp k).length≤27:=by unfold qp;have:=QT k a;split<;>simp[Od]<;>omega
theorem Io (k:Nat) (a:1≤k) (b:k≤604799):YT (k:Int)=qp k:=by unfold YT;rw[Be k a b]
theorem twoI_nat (k:Nat):YS (k:Int)=aQ.two k:=rfl
def amtV (n:Int):V:=.tup [.str (aQ.text n).1,.int .i64 (aQ.text n).2]
theorem twoA_ok (n:Int) (a:ak (av 0 n) (av n 59)=true):aj aE 57 [.int .i64 n] (.str (dU [58] (YS n))):=by
 rw[aM,aB,aB] at a;obtain⟨k,rfl⟩: ∃k:Nat,n=k:=⟨n.toNat,by omega⟩
 exact atwo_ev k (by omega)
theorem tS_ok:bf aE tS:=by
 unfold tS;refine bf.cons (fun args r h=>?_) Ww;all_goals (revert h;intro h;first|unfold twoA at h)
 all_goals (split at h;rotate_left; · cases h)
 all_goals (simp only[aR,bM] at h;obtain⟨a,rfl⟩:=h)
 ·exact twoA_ok _ a
theorem uF_ok:bf aE (uS false):=by
 unfold uS;refine bf.cons (fun args r h=>?_) tS_ok;unfold posS at h;split at h
 ·simp only[aR,bM] at h
  obtain⟨a,rfl⟩:=h
  cases a
 cases h
theorem adm (k:Nat) (h:k≤604799):gF .i64 (k:Int) 3600=((k/3600:Nat):Int)∧gF .i64 (tH (k:Int) 3600) 60=((k/60%60:Nat):Int)∧tH (k:Int) 60=((k%60:Nat):Int)∧tH (gF .i64 (k:Int) 60) 60=((k/60%60:Nat):Int):=by
 have b:tH (k:Int) 3600=((k%3600:Nat):Int):=by rw[nN (by omega)];rfl
 have a:gF .i64 (k:Int) 60=((k/60:Nat):Int):=by rw[pF (by omega) (by omega) (by omega)];rfl
 refine⟨by rw[pF (by omega) (by omega) (by omega)];rfl,?_,by rw[nN (by omega)];rfl,?_⟩
 ·rw[b,pF (by omega) (by omega) (by omega)];omega
 rw[a,nN (by omega)];rfl
theorem L9 (k:Nat) (d:1≤k) (a:k≤604799):aj aE 31 [.int .i64 (k:Int)] (.tup [.str (YT (k:Int)),.int .i64 0]):=by
 refine au AQ uF_ok 5 2 ?_
 (rw[L8];(conv=>zeta);rw[Io k d a])
 obtain⟨b,e,c,g⟩:=adm k a;have f:=QT k a;simp only[bK,aB,bq,aN,aM,gX,b,e,c,twoI_nat,hour_eq];rw[if_neg (by omega),if_neg (by omega),if_neg (by omega),if_neg (by omega),if_pos (by omega),if_pos (by omega),if_pos (by simp[dU,Od];omega)];unfold qp;by_cases h:0<k%60
 ·rw[if_pos (by omega),if_pos (by omega),if_pos (by simp[dU,Od];omega),if_pos h]
  rfl
 rw[if_neg (by omega),if_neg h,JQ];rfl
theorem uT_ok:bf aE (uS true):=by
 unfold uS;refine bf.cons (fun args r h=>?_) tS_ok;unfold posS at h;split at h
 ·simp only[aR,bM] at h
  obtain⟨a,rfl⟩:=h;rw[aM,aM,aB,aB] at a;rename_i n;obtain⟨k,rfl⟩: ∃k:Nat,n=k:=⟨n.toNat,by omega⟩
  exact L9 k (by omega) (by omega)
 cases h
theorem QK (n:Int) (g: -9223372036854775808≤n) (f:n≤9223372036854775807):aj aE 31 [.int .i64 n] (amtV n):=by
 by_cases d:1≤n∧n≤604799
 ·obtain⟨k,rfl⟩: ∃k:Nat,n=k:=⟨n.toNat,by omega⟩
  have:=L9 k (by omega) (by omega);unfold amtV;rw[Be k (by omega) (by omega)];rw[Io k (by omega) (by omega)] at this;exact this
 refine au AQ uT_ok 5 2 ?_
 (rw[L8];(conv=>zeta))
 simp only[bK,aB,bq,aN,aM,gX];unfold amtV;by_cases a:n≤ -604800
 ·rw[if_pos a,Xr n (.inl a)]
 rw[if_neg a];by_cases b:604800≤n
 ·rw[if_pos b,Xr n (.inr b)]
 rw[if_neg b];by_cases c:n=0
 ·subst c
  rw[if_pos rfl,if_pos (by omega),amt_nil];rfl
 rw[if_neg c,if_pos (by omega)];obtain⟨k,rfl⟩: ∃k:Nat,n= -(k:Int):=⟨(-n).toNat,by omega⟩
 have e:dw .i64 0 (-(k:Int))=(k:Int):=by rw[dO (by omega)];omega
 rw[e,if_pos ⟨trivial,by omega,by omega⟩,Io k (by omega) (by omega),if_pos (by have:=Im k (by omega);simp;omega),N8 k (by omega) (by omega)];rfl
noncomputable def tblV:ah:=[V.agg [V.int .i64 1,V.int .i64 3,V.int .i64 3600],V.agg [V.int .i64 2,V.int .i64 2,V.int .i64 60],V.agg [V.int .i64 2,V.int .i64 2,V.int .i64 1]]
theorem tbl_fold:[V.agg [V.int .i64 1,V.int .i64 3,V.int .i64 3600],V.agg [V.int .i64 2,V.int .i64 2,V.int .i64 60],V.agg [V.int .i64 2,V.int .i64 2,V.int .i64 1]]=tblV:=rfl
theorem tbl_at: ∀k:Nat,k<3→asInt (ai (aG tblV (k:Int)) 0)=(aQ.least k:Int)∧asInt (ai (aG tblV (k:Int)) 1)=(aQ.most k:Int)∧asInt (ai (aG tblV (k:Int)) 2)=(aQ.unit k:Int)
 |0,_=>⟨rfl,rfl,rfl⟩
 |1,_=>⟨rfl,rfl,rfl⟩
 |2,_=>⟨rfl,rfl,rfl⟩
 |n+3,h=>by omega
theorem str_at (P:List (af)) (k:Nat) (a:k<P.length):aH (ai (aG (bE P) (k:Int)) 0)=P.getD k []:=by unfold bE;rw[eX,mg,sW,iZ a,mg,iZ a];rfl
theorem Xt (s:af) (l m:Nat):pok s (l:Int) (m:Int)=aQ.ok s l m:=by
 unfold pok aQ.ok;congr 2
 ·apply decide_eq_decide.2;omega
 apply decide_eq_decide.2;omega
theorem adn (s:af) (l m:Nat):GD s (l:Int) (m:Int)=aQ.ok s l m:=Xt s l m
theorem ado {s:af} {l m:Nat} (h:aQ.ok s l m=true):Ea s (l:Int) (m:Int)=(val s:Int):=by unfold Ea;rw[Xt,if_pos h]
theorem ok_val {s:af} {l m:Nat} (b:m≤3) (h:aQ.ok s l m=true):val s≤999:=by unfold aQ.ok at h;rw[bC,bC,lG,lG] at h;have a:=val_lt s h.2 s.length;rw[abJ] at a;have c:10 ^ s.length≤10 ^ 3:=abp (by decide) (by omega);omega
theorem most_le (k:Nat):aQ.most k≤3∧1≤aQ.least k∧aQ.unit k≤3600:=by unfold aQ.most aQ.least aQ.unit;split<;>(try split)<;>omega
def Qb (P:List (af)) (below:Bool):V:=.tup [.int .i64 (aQ.told P below).1,.int .i64 (aQ.told P below).2]
theorem told_bad {P:List (af)} {b:Bool} {k:Nat} (c:k<P.length) (h: ¬aQ.ok (P.getD k []) (aQ.least k) (aQ.most k)=true):aQ.told P b=(0,2):=by
 have:aQ.uI P P.length=false:=by rw[Bool.eq_false_iff];intro a;have:=aQ.goodK_le P (k+1) P.length c a;unfold aQ.uI at this;rw[bC] at this;exact h this.2
 unfold aQ.told;rw[this];simp
theorem Vt (F:Nat) (K:V→Option V) (s f:af) (x t:Int) (C:ah) (below:Bool) (P:List (af)) (I:P.length≤3): ∀(n k:Nat),k≤P.length→P.length-k<n→
  aQ.uI P k=true→aQ.Av P k≤k*3596400→
  pO F [] n s x t f below C (if aQ.qH P k then 0 else 1) (aQ.Av P k:Int) (bE P) (P.length:Int) (k:Int) K=K (Qb P below):=by
 intro n;induction n with
 |zero=>intro k _ h;omega
 |succ n B=>
  intro k E H l G
  (rw[Kh];(conv=>zeta))
  by_cases A:k=P.length
  ·subst A
   simp only[bK,bq,aB,aN,bW];rw[if_neg (by omega)];unfold Qb aQ.told;rw[uZ (by omega: ¬3<P.length),l];by_cases g:aQ.qH P P.length=true
   ·rw[if_pos g,if_neg (by omega),g]
    by_cases o:604800≤aQ.Av P P.length
    ·rw[if_pos (by omega),u6 o];rfl
    rw[if_neg (by omega),uZ o]
    cases below with
    |true=>rw[if_pos rfl,dO (by omega)];simp
    |false=>rw[if_neg (by simp)];rfl
   rw[if_neg g,if_pos (by omega),Bool.eq_false_iff.2 g];rfl
  have e:k<P.length:=by omega
  have w:(bE P).length=P.length:=sO P;obtain⟨v,t1,t2⟩:=tbl_at k (by omega);obtain⟨m1,D,r⟩:=most_le k;simp only[tbl_fold,v,t1,t2,str_at P k e,adn];rw[ax (bH (by omega)),ax (by rw[aM];exact⟨bg (by omega),bH (by rw[aD,w];omega)⟩),ax (by rw[aM];exact⟨bg (by omega),bH (by omega)⟩),ax (by rw[aM];exact⟨bg (by omega),bg (by omega)⟩)];by_cases b:aQ.ok (P.getD k []) (aQ.least k) (aQ.most k)=true
  ·have z:=ok_val m1 b
   simp only[ado b];rw[aK (by rw[b];rfl)];have m:val (P.getD k [])*aQ.unit k≤999*3600:=abW z r;have y:bJ .i64 (k:Int) 1=((k+1:Nat):Int):=by rw[cZ (by omega)];rfl
   have u:bJ .i64 (aQ.Av P k:Int) (mF .i64 (val (P.getD k []):Int) (aQ.unit k:Int))=((aQ.Av P (k+1):Nat):Int):=by
    have p:(val (P.getD k []):Int)*(aQ.unit k:Int)=((val (P.getD k [])*aQ.unit k:Nat):Int):=by rw[Int.natCast_mul]
    rw[og (by rw[p];omega),p,cZ (by omega)];show _=((aQ.Av P k+val (P.getD k [])*aQ.unit k:Nat):Int)
    omega
   have i:aQ.uI P (k+1)=true:=by unfold aQ.uI;rw[l,b];rfl
   have j:aQ.Av P (k+1)≤(k+1)*3596400:=by show aQ.Av P k+val (P.getD k [])*aQ.unit k≤_;omega
   have a:=B (k+1) (by omega) (by omega) i j;have d:ak (av 0 (k:Int)) (aW (k:Int) 3)=true:=by rw[aM];exact⟨bg (by omega),bH (by omega)⟩
   rw[y,u];by_cases c:k=0
   ·rw[aK (bF (by omega)),ax d]
    have:aQ.qH P (k+1)=aQ.qH P k:=by show(aQ.qH P k&&(decide (k=0)||_))=_;rw[u6 c];simp
    rw[←this];exact a
   rw[ax (bH (by omega))];by_cases q:60≤val (P.getD k [])
   ·rw[ax (bg (by omega)),ax d]
    have:aQ.qH P (k+1)=false:=by show(aQ.qH P k&&(decide (k=0)||decide (val (P.getD k [])≤59)))=_;rw[uZ c,uZ (by omega)];simp
    rw[this] at a;exact a
   rw[aK (mr (by omega)),ax d];have:aQ.qH P (k+1)=aQ.qH P k:=by show(aQ.qH P k&&(decide (k=0)||decide (val (P.getD k [])≤59)))=_;rw[uZ c,u6 (by omega)];simp
   rw[←this];exact a
  rw[ax (by rw[bW];exact b)];unfold Qb;rw[told_bad e b]
def readV (s:af):V:=.tup [.int .i64 (aQ.read s).1,.int .i64 (aQ.read s).2]
theorem readS_ok (l m u:Int) (s:af) (a:ak (av 1 l) (av m 3)=true):aj aE 152 [.agg [.int .i64 l,.int .i64 m,.int .i64 u],.str s] (.tup [.int .i64 (Ea s l m),.bool (GD s l m)]):=by rw[aM,aB,aB] at a;exact apart_ev _ _ _ _ a.1 a.2
theorem bS_ok:bf aE bS:=by
 unfold bS;refine bf.cons (fun args r h=>?_) Ww;all_goals (revert h;intro h;first|unfold readS at h)
 all_goals (split at h;rotate_left; · cases h)
 all_goals (simp only[aR,bM] at h;obtain⟨a,rfl⟩:=h)
 ·exact readS_ok _ _ _ _ a
theorem adp {P:List (af)} {b:Bool} (h:3<P.length):aQ.told P b=(0,2):=by unfold aQ.told;rw[u6 h];rfl
theorem SF (s:af):ay (l5 s)=((aQ.pieces s).length:Int):=by unfold ay l5;rw[sO]
theorem QI (s:af) (h:s.length≤1000):aj aE 121 [.str s] (readV s):=by
 refine au AQ bS_ok 5 3 ?_
 (rw[adi];(conv=>zeta))
 have b: ∀(d:af) (below:Bool),d.length≤1000→sel (ak (seq [58] [58]) (av (aA d) 1000))
    (sel (aW 3 (ay (l5 d)))
     (some (V.tup [V.int .i64 0,V.int .i64 2]))
     (pO 5 [] 5 s 0 0 d below (l5 d) 0 0 (l5 d) (ay (l5 d)) 0 some))
    none=some (Qb (aQ.pieces d) below):=by
  intro d below m;rw[ax (by rw[aM];exact⟨rfl,bg (by rw[aI];omega)⟩),SF];by_cases i:3<(aQ.pieces d).length
  ·rw[ax (bH (by omega))]
   unfold Qb;rw[adp i]
  rw[aK (bF (by omega))];exact Vt 5 some s d 0 0 (l5 d) below (aQ.pieces d) (by omega) 5 0 (by omega) (by omega) rfl (by show 0≤_;omega)
 cases s with
 |nil=>rw[aK (mr (by decide))];exact b [] false (by simp)
 |cons c t=>
  have a:aA (c::t)=(t.length:Int)+1:=by rw[aI,fI];omega
  have k:dN (c::t) 0 (aA [45])=[c]:=rfl;have l:dN (c::t) (aA [45]) (aA (c::t))=t:=by rw[show aA [45]=((1:Nat):Int) from rfl,aI,Ig];simp
  have e:aA [45]=1:=rfl;rw[k,l,ax (bg (by rw[e,a];omega)),ax (by rw[aM];exact⟨by decide,bg (by rw[e,a];omega)⟩)];by_cases f:c=45
  ·subst f
   rw[aK (by decide),ax (by rw[aM];exact⟨by decide,bg (by rw[e,a];omega)⟩)];by_cases g:t=[]
   ·subst g
    rw[ax (by decide)];rfl
   rw[aK (by rw[Bool.eq_false_iff,ne_eq,cK];exact g),b t true (by simp at h;omega)];unfold readV aQ.read;rw[if_neg (by simpa using g)];rfl
  rw[ax (by rw[bW,cK];simpa using f),b (c::t) false h];have j:minus (c::t)=false:=by unfold minus;simpa using f
  unfold readV aQ.read bare;rw[if_neg (by simp[f]),j];rfl
theorem adq (k:Nat):oo k=gy (k/3600):=by unfold oo text;rw[if_neg (by omega),abV];rfl
theorem digs_ok (n f:Nat) (a:0<f) (h:n<10 ^ f) (d:f≤3):aQ.ok (gy n) 1 3=true∧val (gy n)=n:=by have c:=rZ f n h a;have b:=r9 (n+1) n (by omega);refine⟨?_,Bv (n+1) n (by omega)⟩;unfold aQ.ok;rw[b.1,u6 (by omega:1≤(gy n).length),u6 (by omega:(gy n).length≤3)];rfl
theorem xg (k:Nat) (h:k≤604799):aQ.ok (oo k) 1 3=true∧val (oo k)=k/3600:=by rw[adq];exact digs_ok _ 3 (by decide) (by omega) (by decide)
def KN (k:Nat):af:=(if 0<k%60 then[58]++aQ.two (k%60) else[])
theorem QM (p:af) (k:Nat) (g:k≤604799) (a:aQ.ok p 1 3=true) (e:val p=k/3600) (b:Bool):
  aQ.told (aQ.pieces (p++([58]++aQ.two (k/60%60))++KN k)) b=(if b then -(k:Int) else(k:Int),0):=by
 obtain⟨m1,c⟩:=aQ.two_ok ⟨k/60%60,by omega⟩;obtain⟨d,f⟩:=aQ.two_ok ⟨k%60,by omega⟩;simp only at m1 c d f;unfold KN;by_cases h:0<k%60
 ·rw[if_pos h,aQ.pieces3 a m1 d,aQ.told3 a m1 d,e,c,f,if_neg (by omega)]
  have:k/3600*3600+k/60%60*60+k%60=k:=by omega
  rw[this]
 rw[if_neg h,JQ,aQ.pieces2 a m1,aQ.told2 a m1 (by omega) (by omega),e,c];have:k/3600*3600+k/60%60*60=k:=by omega
 rw[this]
theorem Vu {c:UInt8} {t:af} (h:c≠45):aQ.read (c::t)=aQ.told (aQ.pieces (c::t)) false:=by
 have a:minus (c::t)=false:=by unfold minus;simpa using h
 unfold aQ.read bare;rw[if_neg (by simp[h]),a];rfl
theorem Ji {t:af} (h:t≠[]):aQ.read ([45]++t)=aQ.told (aQ.pieces t) true:=by unfold aQ.read;rw[if_neg (by simpa using h)];rfl
theorem Ip (k:Nat) (h:k≤604799): ∃c t,oo k=c::t∧c≠45:=by
 have a:=(xg k h).1;unfold aQ.ok at a;rw[bC,bC,lG] at a
 cases e:oo k with
 |nil=>rw[e] at a;simp at a
 |cons c t=>refine⟨c,t,rfl,fun b=>?_⟩;have:=List.all_eq_true.1 a.2 c (by rw[e];exact .head _);rw[b] at this;exact absurd this (by decide)
theorem w9 (k:Nat):qp k=oo k++([58]++aQ.two (k/60%60))++KN k:=rfl
theorem posL_ne (k:Nat) (h:k≤604799):qp k≠[]:=by obtain⟨c,t,e,_⟩:=Ip k h;rw[w9,e];simp
theorem QN (k:Nat) (h:k≤604799):aQ.read (qp k)=((k:Int),0):=by
 obtain⟨c,t,e,b⟩:=Ip k h;have a:qp k=c::(t++([58]++aQ.two (k/60%60))++KN k):=by rw[w9,e];rfl
 rw[a,Vu b,←a,w9,QM _ k h (xg k h).1 (xg k h).2];rfl
theorem QU (m:Nat) (h:m<100): ∃c,aQ.two m=[digit (m/10)]++[c]∧48≤c.toNat∧c.toNat≤57:=by refine⟨digit (m%10),rfl,?_⟩;rw[jV _ (by omega)];omega
theorem pos_last (k:Nat) (h:k≤604799): ∃l c,qp k=l++[c]∧48≤c.toNat∧c.toNat≤57:=by
 rw[w9];unfold KN;by_cases d:0<k%60
 ·obtain⟨c,b,a⟩:=QU (k%60) (by omega)
  rw[if_pos d,b];exact⟨oo k++([58]++aQ.two (k/60%60))++([58]++[digit (k%60/10)]),c,by simp,a⟩
 obtain⟨c,b,a⟩:=QU (k/60%60) (by omega);rw[if_neg d,b];exact⟨oo k++([58]++[digit (k/60%60/10)]),c,by simp,a⟩
theorem Z4 (n:Int) (h:0≤n) (g:n≤604799): ∃l c,(aQ.text n).1=l++[c]∧48≤c.toNat∧c.toNat≤57∧aQ.read (aQ.text n).1=(n,0):=by
 obtain⟨k,rfl⟩: ∃k:Nat,n=(k:Int):=⟨n.toNat,by omega⟩
 by_cases a:k=0
 ·subst a
  exact⟨[],48,rfl,by decide,by decide,rfl⟩
 have e:(aQ.text (k:Int)).1=qp k:=by rw[Be k (by omega) (by omega)]
 obtain⟨l,c,b,f,d⟩:=pos_last k (by omega);exact⟨l,c,e.trans b,f,d,by rw[e];exact QN k (by omega)⟩
end Nt.Ev.YtknhlobahpgkeaaGreatDoor
