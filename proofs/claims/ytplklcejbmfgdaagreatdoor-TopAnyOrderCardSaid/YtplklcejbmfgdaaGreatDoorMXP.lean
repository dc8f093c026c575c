/-
  ReadRgt: equations of functions, as the evaluator prints them. What is read is right: the plain law of the reader's run. ReadRight: the law, by the evaluator.
-/
import Derived.Test.YtplklcejbmfgdaaGreatDoorMXO
import Derived.Test.YtplklcejbmfgdaaGreatDoorMXA
set_option linter.unusedVariables false
set_option linter.unusedSimpArgs false
set_option linter.unusedSectionVars false
namespace Nt.Ev.YtplklcejbmfgdaaGreatDoor.Rr
open Go Nt.Num Go.Proofs.YtplklcejbmfgdaaGreatDoor
variable [nP]
open Nt.Ev.YtplklcejbmfgdaaGreatDoor
open Nt.Civil
open Nt.Fld
open Nt.Ev.YtplklcejbmfgdaaGreatDoor.Lk
open Nt.Lin
noncomputable def gErS:aG:=fun a=>match a with|[.agg [.int .i64 o,.int .i64 k,.int .i64 v,.str r,.str q,.bool h,.int .i64 y,.int .i64 m,.int .i64 ok,.int .i64 ow,.int .i64 od,.int .i64 c,.int .i64 b]]=>some (true,.bool (z8 o k v r q h y m ok ow od c b))|_=>none
set_option maxRecDepth 100000
open Nt
def LX (x:V):Bool:=RG (aH (ah x 0)) (asInt (ah x 1)) (asInt (ah x 2)) (asInt (ah x 3)) (asInt (ah x 4)) (asInt (ah x 5)) (asInt (ah x 6)) (asInt (ah x 7)) (asInt (ah x 8)) (asInt (ah x 9)) (aH (ah x 10))
def rgtE (x:V):Bool:=z8 (asInt (ah x 0)) (asInt (ah x 1)) (asInt (ah x 2)) (aH (ah x 3)) (aH (ah x 4)) (asBool (ah x 5)) (asInt (ah x 6)) (asInt (ah x 7)) (asInt (ah x 8)) (asInt (ah x 9)) (asInt (ah x 10)) (asInt (ah x 11)) (asInt (ah x 12))
noncomputable def XF (x:V):Bool:=rgB (aH (ah x 0)) (aH (ah x 1))
abbrev LY (x:V):Bool:=asBool (ah x 5)
theorem ZO {xs:List V} (h:Oy xs=0):LX (On xs)=true:=by
 cases hB:Fy xs with
 |false=>exact absurd h (by unfold Oy;rw[hB];exact rdE_ne xs hB)
 |true=>
  obtain⟨r0,r1,r2,r3,r4,r5,r6,r7,r8,r9,r10,rE⟩:=rd_inj xs (rd_yes xs hB);show RG (R3 xs) (R4 xs) (R5 xs) (R6 xs) (R7 xs) (R8 xs) (R9 xs) (Sb xs) (Sc xs) (Sd xs) (za xs)=true;rw[r0,r1,r2,r3,r4,r5,r6,r7,r8,r9,r10];exact(ru_right xs hB).1
theorem LB {xs:List V} (hA:gB xs=true) (h:kT xs=0):rgtE (qK xs)=true:=(er_right xs hA h).1
theorem ZQ {xs:List V} (h:RP xs=0):XF (RQ xs)=true:=by
 show rgB (lrT xs) (lrN xs)=true;unfold rgB lrT lrN;rw[if_pos h,if_pos h];unfold RP at h;rw[Dw,Dw];simp only[Dw] at h;by_cases h1:av xs<2
 ·rw[if_pos h1] at h;cases h
 rw[if_neg h1] at h;by_cases h2:2<av xs
 ·rw[if_pos h2] at h;cases h
 rw[if_neg h2] at h;by_cases h3:U1 (dZ (aH (ah (aX xs 0) 0))) (dZ (aH (ah (aX xs 1) 0)))=0
 case neg=>rw[if_pos h3] at h;exact absurd h h3
 rw[if_neg (fun e=>e h3)] at h;rw[Hw] at h3;by_cases h4:aH (ah (aX xs 0) 0)=aH (ah (aX xs 1) 0)
 ·rw[if_pos h4] at h;cases h
 ·exact decide_eq_true ⟨h3.1,h3.2,h4⟩
def nOf (x:V):Int:=asInt (ah x 0)
def Inc (ls:List V) (k:Int):Prop:=∀i,i<ls.length→(1≤nOf (aX ls (i:Int))∧nOf (aX ls (i:Int))≤k)∧(0<i→nOf (aX ls ((i-1:Nat):Int))<nOf (aX ls (i:Int)))
theorem inc_nil (k:Int):Inc [] k:=fun i h=>by cases h
theorem Inc.mono {ls:List V} {k m:Int} (h:Inc ls k) (hm:k≤m):Inc ls m:=fun i hi=>⟨⟨(h i hi).1.1,by have:=(h i hi).1.2;omega⟩,(h i hi).2⟩
theorem lG {a b:List V} {i:Nat} (h:i<a.length):aX (a++b) (i:Int)=aX a (i:Int):=by
 rw[ja,ja,List.getD_eq_getElem?_getD,List.getD_eq_getElem?_getD,List.getElem?_append_left h]
theorem jX (a:List V) (x:V):aX (a++[x]) (a.length:Int)=x:=by
 rw[ja,List.getD_eq_getElem?_getD,List.getElem?_append_right (by omega),Nat.sub_self];rfl
theorem Inc.snoc {ls:List V} {k m v:Int} (h:Inc ls k) (h0:0≤k) (h1:k<v) (h2:v≤m):Inc (ls++[.int .i64 v]) m:=by
 intro i hi;rw[List.length_append,List.length_singleton] at hi;by_cases e:i<ls.length
 ·rw[lG e]
  refine⟨⟨(h i e).1.1,by have:=(h i e).1.2;omega⟩,fun h3=>?_⟩;rw[lG (by omega)];exact(h i e).2 h3
 ·obtain rfl:i=ls.length:=by omega
  rw[jX];refine⟨⟨by show 1≤v;omega,h2⟩,fun h3=>?_⟩;rw[lG (by omega)];have:=(h (ls.length-1) (by omega)).1.2;show _<v;omega
def ZP (op:Bool) (k:Int) (n:List UInt8) (es ls:List V):Prop:=
 dZ n=0∧es≠[]∧ls.length=es.length∧(∀e∈es,rgtE e=true)∧(∀j,j<es.length→LY (aX es (j:Int))=(decide (j+1<es.length)||op))∧Inc ls k
abbrev zV (n:List UInt8) (es:List V):V:=.agg [.str n,.sl 59 kE none es]
abbrev wV (ls:List V):V:=.sl 3 kI none ls
theorem ZP.mono {op:Bool} {k m:Int} {n:List UInt8} {es ls:List V} (h:ZP op k n es ls) (hm:k≤m):ZP op m n es ls:=
 ⟨h.1,h.2.1,h.2.2.1,h.2.2.2.1,h.2.2.2.2.1,h.2.2.2.2.2.mono hm⟩
theorem ZP.one {op:Bool} {k:Int} {n:List UInt8} {e:V} (hn:dZ n=0) (he:rgtE e=true) (ho:LY e=op) (h0:1≤k):ZP op k n [e] [.int .i64 k]:=by
 refine⟨hn,by simp,rfl,?_,?_,?_⟩
 ·intro x hx;rw[List.mem_singleton] at hx;rw[hx];exact he
 ·intro j hj
  obtain rfl:j=0:=by simpa using hj
  show LY e=_;rw[ho];rfl
 ·exact(inc_nil 0).snoc (by omega) (by omega) (by omega)
theorem ZP.more {op:Bool} {k m:Int} {n:List UInt8} {es ls:List V} {e:V} (h:ZP true k n es ls) (h0:0≤k) (hm:k<m) (he:rgtE e=true) (ho:LY e=op):ZP op m n (es++[e]) (ls++[.int .i64 m]):=by
 obtain⟨h1,h2,h3,h4,h5,h6⟩:=h;refine⟨h1,by simp,by simp[h3],?_,?_,h6.snoc h0 hm (by omega)⟩
 ·intro x hx
  rcases List.mem_append.1 hx with hx|hx
  ·exact h4 x hx
  ·rw[List.mem_singleton] at hx;rw[hx];exact he
 ·intro j hj
  rw[List.length_append,List.length_singleton] at hj⊢;by_cases e1:j<es.length
  ·rw[lG e1,h5 j e1,Bool.or_true,decide_eq_true (by omega)];rfl
  ·obtain rfl:j=es.length:=by omega
   rw[jX,ho,decide_eq_false (by omega)];rfl
structure RGood (t:qg) (k:Int):Prop where
 r: ∀x∈t.rs,LX x=true
 l: ∀x∈t.ks,XF x=true
 wr:Inc t.wr k
 wl:Inc t.wl k
 z:(t.zs=[]∧t.we=[])∨ ∃(zs we:List V) (n:List UInt8),t.zs=zs++[zV n t.yz]∧t.we=we++[wV t.ye]∧zs.length=we.length∧ZP (decide (0<t.op)) k n t.yz t.ye∧
  ∀i,i<zs.length→ ∃n es ls,aX zs (i:Int)=zV n es∧aX we (i:Int)=wV ls∧ZP false k n es ls
theorem allS_ofL {s:List UInt8} (h:Af s=0):gB (cK s)=true:=by
 refine WO ?_;unfold Af at h;rw[aC] at h;by_cases e:s.length≤511
 ·exact e
 ·rw[aB (bE (by omega))] at h;cases h
theorem WX {xs:List V} (h:gB xs=true):gB (tl1 xs)=true:=Hy h _ _
theorem wY {zs:List V} {x y:V}:om (zs++[x]) (av (zs++[x])-1) y=zs++[y]:=by
 unfold om;rw[aA,List.length_append,List.length_singleton,show((zs.length+1:Nat):Int)-1=(zs.length:Int) from by omega,Int.toNat_natCast];simp
theorem RGood.step {t:qg} {k:Int} (h:RGood t k) (h0:0≤k) (h0z:0<t.op→t.zs≠[]) {s:List UInt8} (he:t.err s=0):RGood (t.step (k+1) s) (k+1):=by
 obtain⟨hr,hl,hwr,hwl,hz⟩:=h;obtain⟨hk,hck,hof⟩:=err_0 he;have hA:gB (cK s)=true:=allS_ofL hck;have hA1:gB (tl1 (cK s))=true:=WX hA;have hA2:gB (tl1 (tl1 (cK s)))=true:=WX hA1;have keep: ∀{op:Int},op=t.op→((t.zs=[]∧t.we=[])∨ ∃(zs we:List V) (n:List UInt8),t.zs=zs++[zV n t.yz]∧t.we=we++[wV t.ye]∧zs.length=we.length∧ZP (decide (0<op)) (k+1) n t.yz t.ye∧
   ∀i,i<zs.length→ ∃n es ls,aX zs (i:Int)=zV n es∧aX we (i:Int)=wV ls∧ZP false (k+1) n es ls):=by
  rintro op rfl;rcases hz with hz|⟨zs,we,n,e1,e2,e3,e4,e5⟩
  ·exact .inl hz
  ·refine .inr ⟨zs,we,n,e1,e2,e3,e4.mono (by omega),fun i hi=>?_⟩
   obtain⟨n,es,ls,a,b,c⟩:=e5 i hi;exact⟨n,es,ls,a,b,c.mono (by omega)⟩
 rcases hk with kd|⟨kd,ho,er⟩|⟨ho,kd,er⟩|⟨ho,kd,er⟩|⟨ho,kd,er⟩
 ·rw[iU kd]
  exact⟨hr,hl,hwr.mono (by omega),hwl.mono (by omega),keep rfl⟩
 ·rw[iU kd]
  have ee:=(nM er).1;rcases hz with⟨hz,_⟩|⟨zs,we,n,e1,e2,e3,e4,e5⟩
  ·exact absurd hz (h0z ho)
  ·refine⟨hr,hl,hwr.mono (by omega),hwl.mono (by omega),.inr ⟨zs,we,n,?_,?_,e3,?_,fun i hi=>?_⟩⟩
   ·show oq t.zs t.yz (cK s)=zs++[zV n (aM t.yz [qK (cK s)])]
    unfold oq;rw[e1,wY];have:aX (zs++[zV n t.yz]) (av (zs++[zV n t.yz])-1)=zV n t.yz:=by
     rw[aA,List.length_append,List.length_singleton,show((zs.length+1:Nat):Int)-1=(zs.length:Int) from by omega,jX]
    rw[this];rfl
   ·show q8 t.we t.ye (k+1)=we++[wV (aM t.ye [.int .i64 (k+1)])]
    unfold q8;rw[e2,wY]
   ·show ZP (decide (0<jw (cK s) (k+1))) (k+1) n (aM t.yz [qK (cK s)]) (aM t.ye [.int .i64 (k+1)])
    rw[decide_eq_true ho] at e4;refine e4.more h0 (by omega) (LB hA ee) ?_;show ED (cK s)=_;unfold jw
    cases ED (cK s) with
    |true=>rw[if_pos rfl,decide_eq_true (by omega)]
    |false=>rw[if_neg (by decide)];rfl
   ·obtain⟨n,es,ls,a,b,c⟩:=e5 i hi
    exact⟨n,es,ls,a,b,c.mono (by omega)⟩
 ·rw[iU kd]
  refine⟨?_,hl,hwr.snoc h0 (by omega) (by omega),hwl.mono (by omega),keep rfl⟩;intro x hx;rcases List.mem_append.1 (show x∈t.rs++[On (tl1 (cK s))] from hx) with hx|hx
  ·exact hr x hx
  ·rw[List.mem_singleton] at hx;rw[hx];exact ZO (nM er).1
 ·rw[iU kd]
  obtain⟨q1,q2,q3,q4⟩:=znEr_0 er;have hop:decide (0<t.op)=false:=decide_eq_false ho;refine⟨hr,hl,hwr.mono (by omega),hwl.mono (by omega),.inr ⟨t.zs,t.we,aH (ah (aX (tl1 (cK s)) 0) 0),rfl,rfl,?_,?_,?_⟩⟩
  ·rcases hz with⟨a,b⟩|⟨zs,we,n,e1,e2,e3,_⟩
   ·rw[a,b]
   ·rw[e1,e2,List.length_append,List.length_append,e3];rfl
  ·show ZP (decide (0<jw (tl1 (tl1 (cK s))) (k+1))) (k+1) _ [qK (tl1 (tl1 (cK s)))] [.int .i64 (k+1)]
   refine ZP.one q2 (LB hA2 q3) ?_ (by omega);show ED (tl1 (tl1 (cK s)))=_;unfold jw
   cases ED (tl1 (tl1 (cK s))) with
   |true=>rw[if_pos rfl,decide_eq_true (by omega)]
   |false=>rw[if_neg (by decide)];rfl
  ·intro i hi
   rcases hz with⟨a,b⟩|⟨zs,we,n,e1,e2,e3,e4,e5⟩
   ·rw[a] at hi;cases hi
   ·rw[hop] at e4
    rw[e1,List.length_append,List.length_singleton] at hi;by_cases e:i<zs.length
    ·obtain⟨n,es,ls,a,b,c⟩:=e5 i e
     refine⟨n,es,ls,?_,?_,c.mono (by omega)⟩
     ·show aX t.zs _=_;rw[e1,lG e];exact a
     ·show aX t.we _=_;rw[e2,lG (by omega)];exact b
    ·obtain rfl:i=zs.length:=by omega
     refine⟨n,t.yz,t.ye,?_,?_,e4.mono (by omega)⟩
     ·show aX t.zs _=_;rw[e1,jX]
     ·show aX t.we _=_;rw[e2,e3,jX]
 ·rw[iU kd]
  refine⟨hr,?_,hwr.mono (by omega),hwl.snoc h0 (by omega) (by omega),keep rfl⟩;intro x hx;rcases List.mem_append.1 (show x∈t.ks++[RQ (tl1 (cK s))] from hx) with hx|hx
  ·exact hl x hx
  ·rw[List.mem_singleton] at hx;rw[hx];exact ZQ (nM er).1
theorem gErS_ok (o k v:Int) (r q:List UInt8) (h:Bool) (y m ok ow od c b:Int) (hc:true=true):af eE 17 [.agg [.int .i64 o,.int .i64 k,.int .i64 v,.str r,.str q,.bool h,.int .i64 y,.int .i64 m,.int .i64 ok,.int .i64 ow,.int .i64 od,.int .i64 c,.int .i64 b]] (.bool (z8 o k v r q h y m ok ow od c b)):=WW o k v r q h y m ok ow od c b rfl
theorem gt {α:Type} (a b:α):sel true a b=a:=rfl
theorem gf {α:Type} (a b:α):sel false a b=b:=rfl
theorem gn:aK true=false:=rfl
theorem gb (a:Bool):beq a a=true:=by cases a<;>rfl
theorem i0:((0:Nat):Int)=0:=rfl
theorem idx_t {xs:List V} {i:Nat} (h:i<xs.length):ai (ak 0 (i:Int)) (aU (i:Int) (av xs))=true:=by rw[aJ,ay,bf,aA];omega
theorem WY {i:Nat} (h:i<1000000):eu .i64 (i:Int) 1=((i+1:Nat):Int):=by rw[fU (by omega)];omega
section
variable (F:Nat) (s:List UInt8) (L rs zs ks wr we wl:List V) (l e:Int) (K:V→Option V)
end
end Nt.Ev.YtplklcejbmfgdaaGreatDoor.Rr
