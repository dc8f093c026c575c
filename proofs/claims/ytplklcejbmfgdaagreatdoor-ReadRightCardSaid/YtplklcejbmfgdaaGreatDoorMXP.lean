/-
  ReadRgt: equations of functions, as the evaluator prints them. What is read is right: the plain law of the reader's run. ReadRight: the law, by the evaluator.
-/
import Derived.Test.YtplklcejbmfgdaaGreatDoorMXO
import Derived.Test.YtplklcejbmfgdaaGreatDoorMXA
set_option linter.unusedVariables false
set_option linter.unusedSimpArgs false
set_option linter.unusedSectionVars false
namespace Nt.Ev.YtplklcejbmfgdaaGreatDoor.Rr
set_option maxRecDepth 100000
open Go Nt.Num Go.Proofs.YtplklcejbmfgdaaGreatDoor
variable [mJ]
open Nt.Ev.YtplklcejbmfgdaaGreatDoor
open Nt.Civil
open Nt.Fld
open Nt.Ev.YtplklcejbmfgdaaGreatDoor.Lk
open Nt.Lin
noncomputable def gRrS:aF:=fun a=>match a with|[.agg [.str n,.int .i64 f,.int .i64 t,.int .i64 m,.int .i64 k,.int .i64 w,.int .i64 d,.int .i64 c,.int .i64 b,.int .i64 v,.str l]]=>some (true,.bool (V7 n f t m k w d c b v l))|_=>none
noncomputable def gErS:aF:=fun a=>match a with|[.agg [.int .i64 o,.int .i64 k,.int .i64 v,.str r,.str q,.bool h,.int .i64 y,.int .i64 m,.int .i64 ok,.int .i64 ow,.int .i64 od,.int .i64 c,.int .i64 b]]=>some (true,.bool (Wl o k v r q h y m ok ow od c b))|_=>none
noncomputable def gNmS:aF:=fun a=>match a with|[.str s]=>some (true,.int .i64 (fF s))|_=>none
noncomputable def gLrS:aF:=fun a=>match a with|[.agg [.str t,.str n]]=>some (true,.bool (rgB t n))|_=>none
noncomputable def gR1:List (Nat×aF):=(10,nOfS)::(12,nJoS)::(11,TT)::(14,gRrS)::(17,gErS)::(16,gNmS)::(15,gLrS)::[]
noncomputable def gR2:List (Nat×aF):=(8,lLvS)::gR1
noncomputable def Dy (F:Nat) (ns:List Nat) (n:Nat) (x0:List UInt8) (x2:Bool) (x6 x103:List V) (x104 x105 pF pG:Int) (gF jq mO fT dM gG:List V) (K:V→Option V):Option V:=
 iA eE gR2 F 3 4 [1,1,1,1,1,1,1,0,1,0] ns K n (mH 301 [(0,V.str x0),(2,V.bool x2),(3,V.box 3 0),(4,V.box 4 0),(5,V.box 5 0),(6,V.sl 9 [Kd.str] none x6),(9,V.tup []),(12,V.tup []),(13,V.tup []),(14,V.tup []),(15,V.tup []),(16,V.tup []),(17,V.tup []),(103,V.sl 47 kR none x103),(104,V.int .i64 x104),(105,V.int .i64 x105),(151,V.tup []),(152,V.tup []),(153,V.tup []),(199,V.tup []),(200,V.tup []),(201,V.tup []),(229,V.tup []),(230,V.tup []),(231,V.tup [])] [(5,[V.int .i64 pF,V.int .i64 pG]),(4,[V.sl 3 [Kd.int .i64] none gF,V.sl 31 kW none jq,V.sl 3 [Kd.int .i64] none mO]),(3,[V.sl 47 kR none fT,V.sl 54 kZ none dM,V.sl 50 kL none gG])])
noncomputable def yP (F:Nat) (ns:List Nat) (n:Nat) (x0:List UInt8) (x2:Bool) (x6 x103:List V) (x104 x105:Int) (x151:List V) (x152 x153 pF pG:Int) (gF jq mO fT dM gG:List V) (K:V→Option V):Option V:=
 iA eE gR2 F 3 4 [1,1,1,1,1,1,1,1,0,1,0] ns K n (mH 301 [(0,V.str x0),(2,V.bool x2),(3,V.box 3 0),(4,V.box 4 0),(5,V.box 5 0),(6,V.sl 9 [Kd.str] none x6),(9,V.tup []),(14,V.tup []),(15,V.tup []),(16,V.tup []),(17,V.tup []),(103,V.sl 47 kR none x103),(104,V.int .i64 x104),(105,V.int .i64 x105),(151,V.sl 50 kL none x151),(152,V.int .i64 x152),(153,V.int .i64 x153),(199,V.tup []),(200,V.tup []),(201,V.tup []),(229,V.tup []),(230,V.tup []),(231,V.tup [])] [(5,[V.int .i64 pF,V.int .i64 pG]),(4,[V.sl 3 [Kd.int .i64] none gF,V.sl 31 kW none jq,V.sl 3 [Kd.int .i64] none mO]),(3,[V.sl 47 kR none fT,V.sl 54 kZ none dM,V.sl 50 kL none gG])])
noncomputable def u7 (F:Nat) (ns:List Nat) (n:Nat) (x0:List UInt8) (x2:Bool) (x6 x103:List V) (x104 x105:Int) (x151:List V) (x152 x153:Int) (Aj:List V) (x200 qW pF pG:Int) (gF jq mO fT dM gG:List V) (K:V→Option V):Option V:=
 iA eE gR2 F 3 4 [1,1,1,1,1,1,1,1,1,0,1,0] ns K n (mH 301 [(0,V.str x0),(2,V.bool x2),(3,V.box 3 0),(4,V.box 4 0),(5,V.box 5 0),(6,V.sl 9 [Kd.str] none x6),(9,V.tup []),(103,V.sl 47 kR none x103),(104,V.int .i64 x104),(105,V.int .i64 x105),(151,V.sl 50 kL none x151),(152,V.int .i64 x152),(153,V.int .i64 x153),(199,V.sl 54 kZ none Aj),(200,V.int .i64 x200),(201,V.int .i64 qW)] [(5,[V.int .i64 pF,V.int .i64 pG]),(4,[V.sl 3 [Kd.int .i64] none gF,V.sl 31 kW none jq,V.sl 3 [Kd.int .i64] none mO]),(3,[V.sl 47 kR none fT,V.sl 54 kZ none dM,V.sl 50 kL none gG])])
noncomputable def Dz (F:Nat) (ns:List Nat) (n:Nat) (x0:List UInt8) (x2:Bool) (x6:List V) (CU:Int) (x103:List V) (x104 x105:Int) (x151:List V) (x152 x153:Int) (Aj:List V) (x200 qW:Int) (TU:List V) (WJ yu:Int) (RG:List UInt8) (LY:List V) (pF pG:Int) (gF jq mO fT dM gG:List V) (K:V→Option V):Option V:=
 iA eE gR2 F 3 4 [1,1,1,1,1,1,1,1,1,0,1,0,0,1,1,0,0,1,1,1,0] ns K n (mH 301 [(0,V.str x0),(2,V.bool x2),(3,V.box 3 0),(4,V.box 4 0),(5,V.box 5 0),(6,V.sl 9 [Kd.str] none x6),(9,V.tup []),(14,V.int .i64 CU),(15,V.box 15 0),(103,V.sl 47 kR none x103),(104,V.int .i64 x104),(105,V.int .i64 x105),(151,V.sl 50 kL none x151),(152,V.int .i64 x152),(153,V.int .i64 x153),(199,V.sl 54 kZ none Aj),(200,V.int .i64 x200),(201,V.int .i64 qW),(229,V.sl 59 kE none TU),(230,V.int .i64 WJ),(231,V.int .i64 yu)] [(15,[V.str RG,V.sl 59 kE none LY]),(5,[V.int .i64 pF,V.int .i64 pG]),(4,[V.sl 3 [Kd.int .i64] none gF,V.sl 31 kW none jq,V.sl 3 [Kd.int .i64] none mO]),(3,[V.sl 47 kR none fT,V.sl 54 kZ none dM,V.sl 50 kL none gG])])
theorem aac (F:Nat) (s:List UInt8) (K:V→Option V):
 cr eE (bV eE gR2 F 3) F 4 [V.str s] K=
 let A:=K (V.bool false);let B:=iX .i64 (qp s) 1;let D:=av (qT s);let E:=K (V.bool true);let C:=dL (bY s) 0 B;sel (aG (ai (aj s) 8000)) E (sel (ai (aj s) 4000000) (sel (aG (ieq (rU s) 0)) (sel (aT (qp s) 1) A (sel (aT (av (bY s)) (qp s)) A (sel (aG (ieq (fB .i64 (fB .i64 D (av (qU s))) (av (qV s))) 0)) A (sel (ak (ai 0 B) (ai B (av (bY s)))) (sel (Wm C) (sel (ieq (rU (Dg C)) 0) E (K (V.bool (ieq (rU (Dg C)) 16)))) none) none)))) (sel (aG (ieq (av (Gj s)) D)) A (sel (aG (ieq (av (Gl s)) (av (qU s)))) A (sel (aG (ieq (av (Gm s)) (av (qV s)))) A (Dy F [] F s false (bY s) (qT s) D 0 (qp s) (rU s) (Gj s) (Gl s) (Gm s) (qT s) (qU s) (qV s) K))))) none):=by kernel_rfl
theorem zQ (F n:Nat) (x0:List UInt8) (x2:Bool) (x6 x103:List V) (x104 x105 pF pG:Int) (gF jq mO fT dM gG:List V) (K:V→Option V):
 Dy F [] (n+1) x0 x2 x6 x103 x104 x105 pF pG gF jq mO fT dM gG K=
 let A:=aP x103 x105;let B:=Dy F [] n x0 x2 x6 x103 x104 (fB .i64 x105 1) pF pG gF jq mO fT dM gG K;let C:=ak (ai 0 x105) (aT x105 (av gF));let D:=asInt (ax (aP gF x105) 0);let E:=K (V.bool false);let G:=iX .i64 x105 1;sel (aT x105 x104) (sel (ak (ai 0 x105) (aT x105 (av x103))) (sel (aG (V7 (aR (ax A 0)) (asInt (ax A 1)) (asInt (ax A 2)) (asInt (ax A 3)) (asInt (ax A 4)) (asInt (ax A 5)) (asInt (ax A 6)) (asInt (ax A 7)) (asInt (ax A 8)) (asInt (ax A 9)) (aR (ax A 10)))) E (sel C (sel (aT D 1) E (sel C (sel (aT (av x6) D) E (sel (aT 0 x105) (sel C (sel (ak (ai 0 G) (aT G (av gF))) (sel (ai D (asInt (ax (aP gF G) 0))) E B) none) none) B)) none)) none)) none) (yP F [] F x0 x2 x6 x103 x104 x105 gG (av gG) 0 pF pG gF jq mO fT dM gG K):=by kernel_rfl
theorem zR (F n:Nat) (x0:List UInt8) (x2:Bool) (x6 x103:List V) (x104 x105:Int) (x151:List V) (x152 x153 pF pG:Int) (gF jq mO fT dM gG:List V) (K:V→Option V):
 yP F [] (n+1) x0 x2 x6 x103 x104 x105 x151 x152 x153 pF pG gF jq mO fT dM gG K=
 let A:=yP F [] n x0 x2 x6 x103 x104 x105 x151 x152 (fB .i64 x153 1) pF pG gF jq mO fT dM gG K;let B:=ak (ai 0 x153) (aT x153 (av mO));let C:=asInt (ax (aP mO x153) 0);let D:=K (V.bool false);let E:=iX .i64 x153 1;sel (aT x153 x152) (sel (ak (ai 0 x153) (aT x153 (av x151))) (sel (aG (rgB (aR (ax (aP x151 x153) 0)) (aR (ax (aP x151 x153) 1)))) D (sel B (sel (aT C 1) D (sel B (sel (aT (av x6) C) D (sel (aT 0 x153) (sel B (sel (ak (ai 0 E) (aT E (av mO))) (sel (ai C (asInt (ax (aP mO E) 0))) D A) none) none) A)) none)) none)) none) (u7 F [] F x0 x2 x6 x103 x104 x105 x151 x152 x153 dM (av dM) 0 pF pG gF jq mO fT dM gG K):=by kernel_rfl
theorem zT (F n:Nat) (x0:List UInt8) (x2:Bool) (x6 x103:List V) (x104 x105:Int) (x151:List V) (x152 x153:Int) (Aj:List V) (x200 qW pF pG:Int) (gF jq mO fT dM gG:List V) (K:V→Option V):
 u7 F [] (n+1) x0 x2 x6 x103 x104 x105 x151 x152 x153 Aj x200 qW pF pG gF jq mO fT dM gG K=
 let A:=I6 (ax (aP Aj qW) 1);let B:=K (V.bool false);let C:=aR (ax (aP Aj qW) 0);sel (aT qW x200) (sel (ak (ai 0 qW) (aT qW (av Aj))) (sel (aG (ieq (fF C) 0)) B (sel (ieq (av A) 0) B (sel (ak (ai 0 qW) (aT qW (av jq))) (sel (aG (ieq (av (I6 (ax (aP jq qW) 0))) (av A))) B (Dz F [n] F x0 x2 x6 qW x103 x104 x105 x151 x152 x153 Aj x200 qW A (av A) 0 C A pF pG gF jq mO fT dM gG K)) none))) none) (K (V.bool true)):=by kernel_rfl
theorem zU (F m0 n:Nat) (x0:List UInt8) (x2:Bool) (x6:List V) (CU:Int) (x103:List V) (x104 x105:Int) (x151:List V) (x152 x153:Int) (Aj:List V) (x200 qW:Int) (TU:List V) (WJ yu:Int) (RG:List UInt8) (LY:List V) (pF pG:Int) (gF jq mO fT dM gG:List V) (K:V→Option V):
 Dz F [m0] (n+1) x0 x2 x6 CU x103 x104 x105 x151 x152 x153 Aj x200 qW TU WJ yu RG LY pF pG gF jq mO fT dM gG K=
 let A:=I6 (ax (aP jq CU) 0);let B:=aP TU yu;let C:=Dz F [m0] n x0 x2 x6 CU x103 x104 x105 x151 x152 x153 Aj x200 qW TU WJ (fB .i64 yu 1) RG LY pF pG gF jq mO fT dM gG K;let D:=ak (ai 0 CU) (aT CU (av jq));let G:=K (V.bool false);let I:=iX .i64 yu 1;let E:=ak (ai 0 yu) (aT yu (av A));let H:=asInt (ax (aP A yu) 0);let J:=asBool (ax B 5);sel (aT yu WJ) (sel (ak (ai 0 yu) (aT yu (av TU))) (sel (aG (Wl (asInt (ax B 0)) (asInt (ax B 1)) (asInt (ax B 2)) (aR (ax B 3)) (aR (ax B 4)) J (asInt (ax B 6)) (asInt (ax B 7)) (asInt (ax B 8)) (asInt (ax B 9)) (asInt (ax B 10)) (asInt (ax B 11)) (asInt (ax B 12)))) G (sel (aG (beq J (aT yu (iX .i64 (av LY) 1)))) G (sel D (sel E (sel (aT H 1) G (sel D (sel E (sel (aT (av x6) H) G (sel (aT 0 yu) (sel D (sel E (sel D (sel (ak (ai 0 I) (aT I (av A))) (sel (ai H (asInt (ax (aP A I) 0))) G C) none) none) none) none) C)) none) none)) none) none))) none) (u7 F [] m0 x0 x2 x6 x103 x104 x105 x151 x152 x153 Aj x200 (fB .i64 qW 1) pF pG gF jq mO fT dM gG K):=by kernel_rfl
open Nt
def rgtR (x:V):Bool:=V7 (aR (ax x 0)) (asInt (ax x 1)) (asInt (ax x 2)) (asInt (ax x 3)) (asInt (ax x 4)) (asInt (ax x 5)) (asInt (ax x 6)) (asInt (ax x 7)) (asInt (ax x 8)) (asInt (ax x 9)) (aR (ax x 10))
def TV (x:V):Bool:=Wl (asInt (ax x 0)) (asInt (ax x 1)) (asInt (ax x 2)) (aR (ax x 3)) (aR (ax x 4)) (asBool (ax x 5)) (asInt (ax x 6)) (asInt (ax x 7)) (asInt (ax x 8)) (asInt (ax x 9)) (asInt (ax x 10)) (asInt (ax x 11)) (asInt (ax x 12))
noncomputable def rgtL (x:V):Bool:=rgB (aR (ax x 0)) (aR (ax x 1))
abbrev WK (x:V):Bool:=asBool (ax x 5)
theorem VX {xs:List V} (h:OQ xs=0):rgtR (Tq xs)=true:=by
 cases hB:F4 xs with
 |false=>exact absurd h (by unfold OQ;rw[hB];exact rdE_ne xs hB)
 |true=>
  obtain⟨r0,r1,r2,r3,r4,r5,r6,r7,r8,r9,r10,rE⟩:=rd_inj xs (rd_yes xs hB);show V7 (OC xs) (OD xs) (OE xs) (OH xs) (OI xs) (OJ xs) (OL xs) (OM xs) (OO xs) (OP xs) (wT xs)=true;rw[r0,r1,r2,r3,r4,r5,r6,r7,r8,r9,r10];exact(Zj xs hB).1
theorem I4 {xs:List V} (hA:iN xs=true) (h:lM xs=0):TV (z8 xs)=true:=(ZO xs hA h).1
theorem VY {xs:List V} (h:Wj xs=0):rgtL (Wn xs)=true:=by
 show rgB (lrT xs) (lrN xs)=true;unfold rgB lrT lrN;rw[if_pos h,if_pos h];unfold Wj at h;rw[RE,RE];simp only[RE] at h;by_cases h1:av xs<2
 ·rw[if_pos h1] at h;cases h
 rw[if_neg h1] at h;by_cases h2:2<av xs
 ·rw[if_pos h2] at h;cases h
 rw[if_neg h2] at h;by_cases h3:Wi (fF (aR (ax (aP xs 0) 0))) (fF (aR (ax (aP xs 1) 0)))=0
 case neg=>rw[if_pos h3] at h;exact absurd h h3
 rw[if_neg (fun e=>e h3)] at h;rw[EW] at h3;by_cases h4:aR (ax (aP xs 0) 0)=aR (ax (aP xs 1) 0)
 ·rw[if_pos h4] at h;cases h
 ·exact decide_eq_true ⟨h3.1,h3.2,h4⟩
def nOf (x:V):Int:=asInt (ax x 0)
def Q8 (ls:List V) (k:Int):Prop:=∀i,i<ls.length→(1≤nOf (aP ls (i:Int))∧nOf (aP ls (i:Int))≤k)∧(0<i→nOf (aP ls ((i-1:Nat):Int))<nOf (aP ls (i:Int)))
theorem Kt (k:Int):Q8 [] k:=fun i h=>by cases h
theorem Q8.mono {ls:List V} {k m:Int} (h:Q8 ls k) (hm:k≤m):Q8 ls m:=fun i hi=>⟨⟨(h i hi).1.1,by have:=(h i hi).1.2;omega⟩,(h i hi).2⟩
theorem iM {a b:List V} {i:Nat} (h:i<a.length):aP (a++b) (i:Int)=aP a (i:Int):=by
 rw[ku,ku,List.getD_eq_getElem?_getD,List.getD_eq_getElem?_getD,List.getElem?_append_left h]
theorem iW (a:List V) (x:V):aP (a++[x]) (a.length:Int)=x:=by
 rw[ku,List.getD_eq_getElem?_getD,List.getElem?_append_right (by omega),Nat.sub_self];rfl
theorem Q8.snoc {ls:List V} {k m v:Int} (h:Q8 ls k) (h0:0≤k) (h1:k<v) (h2:v≤m):Q8 (ls++[.int .i64 v]) m:=by
 intro i hi;rw[List.length_append,List.length_singleton] at hi;by_cases e:i<ls.length
 ·rw[iM e]
  refine⟨⟨(h i e).1.1,by have:=(h i e).1.2;omega⟩,fun h3=>?_⟩;rw[iM (by omega)];exact(h i e).2 h3
 ·obtain rfl:i=ls.length:=by omega
  rw[iW];refine⟨⟨by show 1≤v;omega,h2⟩,fun h3=>?_⟩;rw[iM (by omega)];have:=(h (ls.length-1) (by omega)).1.2;show _<v;omega
def ZP (op:Bool) (k:Int) (n:List UInt8) (es ls:List V):Prop:=
 fF n=0∧es≠[]∧ls.length=es.length∧(∀e∈es,TV e=true)∧(∀j,j<es.length→WK (aP es (j:Int))=(decide (j+1<es.length)||op))∧Q8 ls k
abbrev zV (n:List UInt8) (es:List V):V:=.agg [.str n,.sl 59 kE none es]
abbrev wV (ls:List V):V:=.sl 3 kI none ls
theorem ZP.mono {op:Bool} {k m:Int} {n:List UInt8} {es ls:List V} (h:ZP op k n es ls) (hm:k≤m):ZP op m n es ls:=
 ⟨h.1,h.2.1,h.2.2.1,h.2.2.2.1,h.2.2.2.2.1,h.2.2.2.2.2.mono hm⟩
theorem ZP.one {op:Bool} {k:Int} {n:List UInt8} {e:V} (hn:fF n=0) (he:TV e=true) (ho:WK e=op) (h0:1≤k):ZP op k n [e] [.int .i64 k]:=by
 refine⟨hn,by simp,rfl,?_,?_,?_⟩
 ·intro x hx;rw[List.mem_singleton] at hx;rw[hx];exact he
 ·intro j hj
  obtain rfl:j=0:=by simpa using hj
  show WK e=_;rw[ho];rfl
 ·exact(Kt 0).snoc (by omega) (by omega) (by omega)
theorem ZP.more {op:Bool} {k m:Int} {n:List UInt8} {es ls:List V} {e:V} (h:ZP true k n es ls) (h0:0≤k) (hm:k<m) (he:TV e=true) (ho:WK e=op):ZP op m n (es++[e]) (ls++[.int .i64 m]):=by
 obtain⟨h1,h2,h3,h4,h5,h6⟩:=h;refine⟨h1,by simp,by simp[h3],?_,?_,h6.snoc h0 hm (by omega)⟩
 ·intro x hx
  rcases List.mem_append.1 hx with hx|hx
  ·exact h4 x hx
  ·rw[List.mem_singleton] at hx;rw[hx];exact he
 ·intro j hj
  rw[List.length_append,List.length_singleton] at hj⊢;by_cases e1:j<es.length
  ·rw[iM e1,h5 j e1,Bool.or_true,decide_eq_true (by omega)];rfl
  ·obtain rfl:j=es.length:=by omega
   rw[iW,ho,decide_eq_false (by omega)];rfl
structure BP (t:qP) (k:Int):Prop where
 r: ∀x∈t.rs,rgtR x=true
 l: ∀x∈t.ks,rgtL x=true
 wr:Q8 t.wr k
 wl:Q8 t.wl k
 z:(t.zs=[]∧t.we=[])∨ ∃(zs we:List V) (n:List UInt8),t.zs=zs++[zV n t.yz]∧t.we=we++[wV t.ye]∧zs.length=we.length∧ZP (decide (0<t.op)) k n t.yz t.ye∧
  ∀i,i<zs.length→ ∃n es ls,aP zs (i:Int)=zV n es∧aP we (i:Int)=wV ls∧ZP false k n es ls
theorem aad:BP r0 0:=⟨fun x hx=>(nomatch hx),fun x hx=>(nomatch hx),Kt 0,Kt 0,.inl ⟨rfl,rfl⟩⟩
theorem aae {s:List UInt8} (h:DD s=0):iN (bX s)=true:=by
 refine SY ?_;unfold DD at h;rw[aB] at h;by_cases e:s.length≤511
 ·exact e
 ·rw[ay (bD (by omega))] at h;cases h
theorem Tf {xs:List V} (h:iN xs=true):iN (tl1 xs)=true:=EX h _ _
theorem I5 {zs:List V} {x y:V}:pY (zs++[x]) (av (zs++[x])-1) y=zs++[y]:=by
 unfold pY;rw[aD,List.length_append,List.length_singleton,show((zs.length+1:Nat):Int)-1=(zs.length:Int) from by omega,Int.toNat_natCast];simp
theorem BP.step {t:qP} {k:Int} (h:BP t k) (h0:0≤k) (h0z:0<t.op→t.zs≠[]) {s:List UInt8} (he:t.err s=0):BP (t.step (k+1) s) (k+1):=by
 obtain⟨hr,hl,hwr,hwl,hz⟩:=h;obtain⟨hk,hck,hof⟩:=Xo he;have hA:iN (bX s)=true:=aae hck;have hA1:iN (tl1 (bX s))=true:=Tf hA;have hA2:iN (tl1 (tl1 (bX s)))=true:=Tf hA1;have keep: ∀{op:Int},op=t.op→((t.zs=[]∧t.we=[])∨ ∃(zs we:List V) (n:List UInt8),t.zs=zs++[zV n t.yz]∧t.we=we++[wV t.ye]∧zs.length=we.length∧ZP (decide (0<op)) (k+1) n t.yz t.ye∧
   ∀i,i<zs.length→ ∃n es ls,aP zs (i:Int)=zV n es∧aP we (i:Int)=wV ls∧ZP false (k+1) n es ls):=by
  rintro op rfl;rcases hz with hz|⟨zs,we,n,e1,e2,e3,e4,e5⟩
  ·exact .inl hz
  ·refine .inr ⟨zs,we,n,e1,e2,e3,e4.mono (by omega),fun i hi=>?_⟩
   obtain⟨n,es,ls,a,b,c⟩:=e5 i hi;exact⟨n,es,ls,a,b,c.mono (by omega)⟩
 rcases hk with kd|⟨kd,ho,er⟩|⟨ho,kd,er⟩|⟨ho,kd,er⟩|⟨ho,kd,er⟩
 ·rw[jW kd]
  exact⟨hr,hl,hwr.mono (by omega),hwl.mono (by omega),keep rfl⟩
 ·rw[jW kd]
  have ee:=(ni er).1;rcases hz with⟨hz,_⟩|⟨zs,we,n,e1,e2,e3,e4,e5⟩
  ·exact absurd hz (h0z ho)
  ·refine⟨hr,hl,hwr.mono (by omega),hwl.mono (by omega),.inr ⟨zs,we,n,?_,?_,e3,?_,fun i hi=>?_⟩⟩
   ·show pE t.zs t.yz (bX s)=zs++[zV n (aZ t.yz [z8 (bX s)])]
    unfold pE;rw[e1,I5];have:aP (zs++[zV n t.yz]) (av (zs++[zV n t.yz])-1)=zV n t.yz:=by
     rw[aD,List.length_append,List.length_singleton,show((zs.length+1:Nat):Int)-1=(zs.length:Int) from by omega,iW]
    rw[this];rfl
   ·show rZ t.we t.ye (k+1)=we++[wV (aZ t.ye [.int .i64 (k+1)])]
    unfold rZ;rw[e2,I5]
   ·show ZP (decide (0<nD (bX s) (k+1))) (k+1) n (aZ t.yz [z8 (bX s)]) (aZ t.ye [.int .i64 (k+1)])
    rw[decide_eq_true ho] at e4;refine e4.more h0 (by omega) (I4 hA ee) ?_;show F6 (bX s)=_;unfold nD
    cases F6 (bX s) with
    |true=>rw[if_pos rfl,decide_eq_true (by omega)]
    |false=>rw[if_neg (by decide)];rfl
   ·obtain⟨n,es,ls,a,b,c⟩:=e5 i hi
    exact⟨n,es,ls,a,b,c.mono (by omega)⟩
 ·rw[jW kd]
  refine⟨?_,hl,hwr.snoc h0 (by omega) (by omega),hwl.mono (by omega),keep rfl⟩;intro x hx;rcases List.mem_append.1 (show x∈t.rs++[Tq (tl1 (bX s))] from hx) with hx|hx
  ·exact hr x hx
  ·rw[List.mem_singleton] at hx;rw[hx];exact VX (ni er).1
 ·rw[jW kd]
  obtain⟨q1,q2,q3,q4⟩:=Yu er;have hop:decide (0<t.op)=false:=decide_eq_false ho;refine⟨hr,hl,hwr.mono (by omega),hwl.mono (by omega),.inr ⟨t.zs,t.we,aR (ax (aP (tl1 (bX s)) 0) 0),rfl,rfl,?_,?_,?_⟩⟩
  ·rcases hz with⟨a,b⟩|⟨zs,we,n,e1,e2,e3,_⟩
   ·rw[a,b]
   ·rw[e1,e2,List.length_append,List.length_append,e3];rfl
  ·show ZP (decide (0<nD (tl1 (tl1 (bX s))) (k+1))) (k+1) _ [z8 (tl1 (tl1 (bX s)))] [.int .i64 (k+1)]
   refine ZP.one q2 (I4 hA2 q3) ?_ (by omega);show F6 (tl1 (tl1 (bX s)))=_;unfold nD
   cases F6 (tl1 (tl1 (bX s))) with
   |true=>rw[if_pos rfl,decide_eq_true (by omega)]
   |false=>rw[if_neg (by decide)];rfl
  ·intro i hi
   rcases hz with⟨a,b⟩|⟨zs,we,n,e1,e2,e3,e4,e5⟩
   ·rw[a] at hi;cases hi
   ·rw[hop] at e4
    rw[e1,List.length_append,List.length_singleton] at hi;by_cases e:i<zs.length
    ·obtain⟨n,es,ls,a,b,c⟩:=e5 i e
     refine⟨n,es,ls,?_,?_,c.mono (by omega)⟩
     ·show aP t.zs _=_;rw[e1,iM e];exact a
     ·show aP t.we _=_;rw[e2,iM (by omega)];exact b
    ·obtain rfl:i=zs.length:=by omega
     refine⟨n,t.yz,t.ye,?_,?_,e4.mono (by omega)⟩
     ·show aP t.zs _=_;rw[e1,iW]
     ·show aP t.we _=_;rw[e2,e3,iW]
 ·rw[jW kd]
  refine⟨hr,?_,hwr.mono (by omega),hwl.snoc h0 (by omega) (by omega),keep rfl⟩;intro x hx;rcases List.mem_append.1 (show x∈t.ks++[Wn (tl1 (bX s))] from hx) with hx|hx
  ·exact hl x hx
  ·rw[List.mem_singleton] at hx;rw[hx];exact VY (ni er).1
theorem Good.nz {t:qP} (h:Good t):0<t.op→t.zs≠[]:=fun ho e=>by
 have:=h.op ho;rw[e] at this
 cases this
theorem FQ: ∀(xs:List V) (k:Int) (t:qP),0≤k→Good t→BP t k→(fQ xs k t).2.2=0→BP (fQ xs k t).1 (fQ xs k t).2.1
 |[],k,t,_,_,h,_=>h
 |x::xs,k,t,h0,hg,h,he=>by
  by_cases e:t.err (DF x)=0
  ·rw[gL e] at he⊢
   exact FQ xs (k+1) _ (by omega) (hg.step e) (h.step h0 hg.nz e) he
  ·rw[iV e] at he
   exact absurd he e
theorem Nh: ∀(xs:List V) (k:Int) (t:qP) (m:Nat),(m:Int)+k<(fQ xs k t).2.1∨(fQ xs k t).2.2=0→(fQ (xs.take m) k t).2.2=0
 |[],k,t,m,_=>by rw[List.take_nil];rfl
 |x::xs,k,t,0,_=>rfl
 |x::xs,k,t,m+1,h=>by
  rw[List.take_succ_cons];by_cases e:t.err (DF x)=0
  ·rw[gL e] at h⊢
   exact Nh xs (k+1) _ m (h.imp (fun h=>by omega) id)
  ·rw[iV e] at h
   rcases h with h|h
   ·have h:((m+1:Nat):Int)+k<k+1:=h
    omega
   ·exact absurd h e
theorem gRrS_ok (n:List UInt8) (f t m k w d c b v:Int) (l:List UInt8) (hc:true=true):af eE 14 [.agg [.str n,.int .i64 f,.int .i64 t,.int .i64 m,.int .i64 k,.int .i64 w,.int .i64 d,.int .i64 c,.int .i64 b,.int .i64 v,.str l]] (.bool (V7 n f t m k w d c b v l)):=tRrS_ok n f t m k w d c b v l rfl
theorem gErS_ok (o k v:Int) (r q:List UInt8) (h:Bool) (y m ok ow od c b:Int) (hc:true=true):af eE 17 [.agg [.int .i64 o,.int .i64 k,.int .i64 v,.str r,.str q,.bool h,.int .i64 y,.int .i64 m,.int .i64 ok,.int .i64 ow,.int .i64 od,.int .i64 c,.int .i64 b]] (.bool (Wl o k v r q h y m ok ow od c b)):=tErS_ok o k v r q h y m ok ow od c b rfl
theorem gNmS_ok (s:List UInt8) (hc:true=true):af eE 16 [.str s] (.int .i64 (fF s)):=Te s rfl
theorem gLrS_ok (t n:List UInt8) (hc:true=true):af eE 15 [.agg [.str t,.str n]] (.bool (rgB t n)):=eO (VJ t n)
theorem gR1_ok:bq eE gR1:=by
 unfold gR1;refine bq.cons (fun args r h=>?_) (bq.cons (fun args r h=>?_) (bq.cons (fun args r h=>?_) (bq.cons (fun args r h=>?_) (bq.cons (fun args r h=>?_) (bq.cons (fun args r h=>?_) (bq.cons (fun args r h=>?_) bq.nil))))));all_goals (revert h;intro h;first|unfold nOfS at h|unfold nJoS at h|unfold TT at h|unfold gRrS at h|unfold gErS at h|unfold gNmS at h|unfold gLrS at h)
 all_goals (split at h;rotate_left; · cases h)
 all_goals (simp only[Option.some.injEq,Prod.mk.injEq] at h;obtain⟨hc,rfl⟩:=h)
 ·exact Tc _ hc
 ·exact Td _ hc
 ·exact Ks _ rfl
 ·exact gRrS_ok _ _ _ _ _ _ _ _ _ _ _ rfl
 ·exact gErS_ok _ _ _ _ _ _ _ _ _ _ _ _ _ rfl
 ·exact gNmS_ok _ rfl
 ·exact gLrS_ok _ _ rfl
theorem gR2_ok:bq eE gR2:=by
 unfold gR2;refine bq.cons (fun args r h=>?_) gR1_ok;all_goals (revert h;intro h;first|unfold lLvS at h)
 all_goals (split at h;rotate_left; · cases h)
 all_goals (simp only[Option.some.injEq,Prod.mk.injEq] at h;obtain⟨hc,rfl⟩:=h)
 ·exact S9 rfl
theorem gt {α:Type} (a b:α):sel true a b=a:=rfl
theorem gf {α:Type} (a b:α):sel false a b=b:=rfl
theorem gn:aG true=false:=rfl
theorem gb (a:Bool):beq a a=true:=by cases a<;>rfl
theorem gB (a:Bool):ak true a=a:=rfl
theorem i0:((0:Nat):Int)=0:=rfl
theorem mV {xs:List V} {i:Nat} (h:i<xs.length):ak (ai 0 (i:Int)) (aT (i:Int) (av xs))=true:=by rw[aH,aA,bf,aD];omega
theorem E5 {ls L:List V} {i:Nat} (h:Q8 ls (av L)) (hi:i<ls.length):
  aT (asInt (ax (aP ls (i:Int)) 0)) 1=false∧aT (av L) (asInt (ax (aP ls (i:Int)) 0))=false∧(aT 0 (i:Int)=true→i<1000000→ak (ai 0 (iX .i64 (i:Int) 1)) (aT (iX .i64 (i:Int) 1) (av ls))=true∧ai (asInt (ax (aP ls (i:Int)) 0)) (asInt (ax (aP ls (iX .i64 (i:Int) 1)) 0))=false):=by
 obtain⟨⟨a,b⟩,c⟩:=h i hi;unfold nOf at a b c;refine⟨bB (by omega),bB (by omega),fun h0 hb=>?_⟩;rw[bf] at h0;have e:iX .i64 (i:Int) 1=((i-1:Nat):Int):=by rw[qY (by omega)];omega
 rw[e];exact⟨mV (by omega),vY (c (by omega))⟩
theorem rz {i:Nat} (h:i<1000000):fB .i64 (i:Int) 1=((i+1:Nat):Int):=by rw[iO (by omega)];omega
theorem JP {xs:List V} {i:Nat} (h:i<xs.length):aP xs (i:Int)∈xs:=get_mem h
section
variable (F:Nat) (s:List UInt8) (L rs zs ks wr we wl:List V) (l e:Int) (K:V→Option V)
theorem rg_0 (hr: ∀x∈rs,rgtR x=true) (hw:Q8 wr (av L)) (hl:wr.length=rs.length) (hb:rs.length≤1000000): ∀(j i n:Nat),i+j=rs.length→j<n→
  Dy F [] n s false L rs (av rs) (i:Int) l e wr we wl rs zs ks K=yP F [] F s false L rs (av rs) (av rs) ks (av ks) 0 l e wr we wl rs zs ks K
 |0,i,n,hi,hn=>by
  obtain⟨m,rfl⟩: ∃m,n=m+1:=⟨n-1,by omega⟩
  obtain rfl:i=rs.length:=by omega
  (rw[zQ];(conv=>zeta);rw[show aT ((rs.length:Nat):Int) (av rs)=false from bB (by rw[aD];omega)])
  rfl
 |j+1,i,n,hi,hn=>by
  obtain⟨m,rfl⟩: ∃m,n=m+1:=⟨n-1,by omega⟩
  have h1:aT (i:Int) (av rs)=true:=bD (by rw[aD];omega);have h2:=hr _ (JP (xs:=rs) (i:=i) (by omega));unfold rgtR at h2;obtain⟨f1,f2,f3⟩:=E5 hw (i:=i) (by omega)
  (rw[zQ];(conv=>zeta))
  cases h0:aT 0 (i:Int) with
  |false=>
   simp only[h1,h2,f1,f2,h0,mV (xs:=rs) (i:=i) (by omega),mV (xs:=wr) (i:=i) (by omega),rz (i:=i) (by omega),gt,gf,gn];exact rg_0 hr hw hl hb j (i+1) m (by omega) (by omega)
  |true=>
   obtain⟨f4,f5⟩:=f3 h0 (by omega);simp only[h1,h2,f1,f2,f4,f5,h0,mV (xs:=rs) (i:=i) (by omega),mV (xs:=wr) (i:=i) (by omega),rz (i:=i) (by omega),gt,gf,gn];exact rg_0 hr hw hl hb j (i+1) m (by omega) (by omega)
theorem rg_1 (x4 x5:Int) (hr: ∀x∈ks,rgtL x=true) (hw:Q8 wl (av L)) (hl:wl.length=ks.length) (hb:ks.length≤1000000): ∀(j i n:Nat),i+j=ks.length→j<n→
  yP F [] n s false L rs x4 x5 ks (av ks) (i:Int) l e wr we wl rs zs ks K=u7 F [] F s false L rs x4 x5 ks (av ks) (av ks) zs (av zs) 0 l e wr we wl rs zs ks K
 |0,i,n,hi,hn=>by
  obtain⟨m,rfl⟩: ∃m,n=m+1:=⟨n-1,by omega⟩
  obtain rfl:i=ks.length:=by omega
  (rw[zR];(conv=>zeta);rw[show aT ((ks.length:Nat):Int) (av ks)=false from bB (by rw[aD];omega)])
  rfl
 |j+1,i,n,hi,hn=>by
  obtain⟨m,rfl⟩: ∃m,n=m+1:=⟨n-1,by omega⟩
  have h1:aT (i:Int) (av ks)=true:=bD (by rw[aD];omega);have h2:=hr _ (JP (xs:=ks) (i:=i) (by omega));unfold rgtL at h2;obtain⟨f1,f2,f3⟩:=E5 hw (i:=i) (by omega)
  (rw[zR];(conv=>zeta))
  cases h0:aT 0 (i:Int) with
  |false=>
   simp only[h1,h2,f1,f2,h0,mV (xs:=ks) (i:=i) (by omega),mV (xs:=wl) (i:=i) (by omega),rz (i:=i) (by omega),gt,gf,gn];exact rg_1 x4 x5 hr hw hl hb j (i+1) m (by omega) (by omega)
  |true=>
   obtain⟨f4,f5⟩:=f3 h0 (by omega);simp only[h1,h2,f1,f2,f4,f5,h0,mV (xs:=ks) (i:=i) (by omega),mV (xs:=wl) (i:=i) (by omega),rz (i:=i) (by omega),gt,gf,gn];exact rg_1 x4 x5 hr hw hl hb j (i+1) m (by omega) (by omega)
theorem rg_3 (m0:Nat) (x3 x4 x5 x6:Int) (a b c:List V) (z:Nat) (nm:List UInt8) (es ls:List V) (hz:z<we.length) (hzb:z<1000000) (hes:I6 (ax (aP we (z:Int)) 0)=ls) (hr: ∀x∈es,TV x=true) (hh: ∀j,j<es.length→WK (aP es (j:Int))=(decide (j+1<es.length)||false)) (hw:Q8 ls (av L)) (hl:ls.length=es.length) (hb:es.length≤1000000): ∀(j i n:Nat),i+j=es.length→j<n→
  Dz F [m0] n s false L (z:Int) a x3 x4 b x5 x6 c (av c) (z:Int) es (av es) (i:Int) nm es l e wr we wl rs zs ks K=u7 F [] m0 s false L a x3 x4 b x5 x6 c (av c) ((z+1:Nat):Int) l e wr we wl rs zs ks K
 |0,i,n,hi,hn=>by
  obtain⟨m,rfl⟩: ∃m,n=m+1:=⟨n-1,by omega⟩
  obtain rfl:i=es.length:=by omega
  (rw[zU];(conv=>zeta);rw[show aT ((es.length:Nat):Int) (av es)=false from bB (by rw[aD];omega),gf,rz hzb])
 |j+1,i,n,hi,hn=>by
  obtain⟨m,rfl⟩: ∃m,n=m+1:=⟨n-1,by omega⟩
  have h1:aT (i:Int) (av es)=true:=bD (by rw[aD];omega);have h00:ai 0 (i:Int)=true:=bF (by omega);have h11:aT (i:Int) (av ls)=true:=bD (by rw[aD];omega);have h2:=hr _ (JP (xs:=es) (i:=i) (by omega));unfold TV at h2;have h3:beq (asBool (ax (aP es (i:Int)) 5)) (aT (i:Int) (iX .i64 (av es) 1))=true:=by
   have:=hh i (by omega);rw[show asBool (ax (aP es (i:Int)) 5)=_ from this,Bool.or_false,aD,qY (by omega)];unfold aT;rw[decide_eq_decide.2 (show i+1<es.length↔(i:Int)<(es.length:Int)-1 by omega)];exact gb _
  obtain⟨f1,f2,f3⟩:=E5 hw (i:=i) (by omega)
  (rw[zU];(conv=>zeta))
  cases h0:aT 0 (i:Int) with
  |false=>
   simp only[hes,h1,h11,h2,h3,h00,gB,f1,f2,h0,mV (xs:=es) (i:=i) (by omega),mV (xs:=we) (i:=z) hz,mV (xs:=ls) (i:=i) (by omega),rz (i:=i) (by omega),gt,gf,gn];exact rg_3 m0 x3 x4 x5 x6 a b c z nm es ls hz hzb hes hr hh hw hl hb j (i+1) m (by omega) (by omega)
  |true=>
   obtain⟨f4,f5⟩:=f3 h0 (by omega);simp only[hes,h1,h11,h2,h3,h00,gB,f1,f2,f4,f5,h0,mV (xs:=es) (i:=i) (by omega),mV (xs:=we) (i:=z) hz,mV (xs:=ls) (i:=i) (by omega),rz (i:=i) (by omega),gt,gf,gn];exact rg_3 m0 x3 x4 x5 x6 a b c z nm es ls hz hzb hes hr hh hw hl hb j (i+1) m (by omega) (by omega)
theorem rg_2 (x4 x5 x6 x7:Int) (hz: ∀i,i<zs.length→ ∃n es ls,aP zs (i:Int)=zV n es∧aP we (i:Int)=wV ls∧ZP false (av L) n es ls) (he: ∀z∈zs,(I6 (ax z 1)).length≤256) (hF:300<F) (hl:we.length=zs.length) (hb:zs.length≤1000000): ∀(j i n:Nat),i+j=zs.length→j<n→
  u7 F [] n s false L rs x4 x5 ks x6 x7 zs (av zs) (i:Int) l e wr we wl rs zs ks K=K (.bool true)
 |0,i,n,hi,hn=>by
  obtain⟨m,rfl⟩: ∃m,n=m+1:=⟨n-1,by omega⟩
  obtain rfl:i=zs.length:=by omega
  (rw[zT];(conv=>zeta);rw[show aT ((zs.length:Nat):Int) (av zs)=false from bB (by rw[aD];omega)])
  rfl
 |j+1,i,n,hi,hn=>by
  obtain⟨m,rfl⟩: ∃m,n=m+1:=⟨n-1,by omega⟩
  have h1:aT (i:Int) (av zs)=true:=bD (by rw[aD];omega);obtain⟨nm,es,ls,q1,q2,p1,p2,p3,p4,p5,p6⟩:=hz i (by omega);have h2:I6 (ax (aP zs (i:Int)) 1)=es:=by rw[q1];rfl
  have h3:I6 (ax (aP we (i:Int)) 0)=ls:=by rw[q2];rfl
  have h4:aR (ax (aP zs (i:Int)) 0)=nm:=by rw[q1];rfl
  have h5:ieq (av es) 0=false:=cO (by rw[aD];have:=List.length_pos_iff.2 p2;omega);have h6:es.length≤256:=by have:=he _ (JP (xs:=zs) (i:=i) (by omega));rw[h2] at this;exact this
  have h7:ieq (av ls) (av es)=true:=bn (by rw[aD,aD,p3])
  (rw[zT];(conv=>zeta))
  simp only[h1,h2,h3,h4,p1,h5,h7,jc,mV (xs:=zs) (i:=i) (by omega),mV (xs:=we) (i:=i) (by omega),gt,gf,gn];have:=rg_3 F s L rs zs ks wr we wl l e K m x4 x5 x6 x7 rs ks zs i nm es ls (by omega) (by omega) h3 p4 p5 p6 p3 (by omega) es.length 0 F (by omega) (by omega);rw[i0] at this;rw[this];exact rg_2 x4 x5 x6 x7 hz he hF hl hb j (i+1) m (by omega) (by omega)
end
theorem rR_good (s:List UInt8) (hs:s.length≤8000) (h:rU s=0):
  (fU s).2.2=0∧ ¬0<(fU s).1.op∧Good (fU s).1∧Few (fU s).1∧BP (fU s).1 (av (bY s)):=by
 unfold rU at h;rw[if_neg (by omega)] at h;have h:vM (fU s)=0:=h;unfold vM at h;have h1:(fU s).2.2=0:=by
  by_cases e:(fU s).2.2=0
  ·exact e
  ·rw[if_pos e] at h;exact absurd h e
 have h2: ¬0<(fU s).1.op:=by
  intro e;rw[if_neg (fun h=>h h1),if_pos e] at h;cases h
 have hg:=FQ (bY s) 0 r0 (by omega) ru aad h1;obtain⟨a,b,c,d,f⟩:=zx (bY s) 0 r0 (by decide) (by decide);have e:fQ (bY s) 0 r0=fU s:=rfl;rw[e] at d hg;refine⟨h1,h2,Bi _ _ _ ru,EZ _ _ _ ru Yw,?_⟩;obtain⟨g1,g2,g3,g4,g5⟩:=hg;have hm:(fU s).2.1≤av (bY s):=by rw[aD];omega
 refine⟨g1,g2,g3.mono hm,g4.mono hm,?_⟩;rcases g5 with g5|⟨zs,we,n,e1,e2,e3,e4,e5⟩
 ·exact .inl g5
 ·refine .inr ⟨zs,we,n,e1,e2,e3,e4.mono hm,fun i hi=>?_⟩
  obtain⟨n,es,ls,a,b,c⟩:=e5 i hi;exact⟨n,es,ls,a,b,c.mono hm⟩
theorem aaf {t:qP} {k:Int} (h:BP t k) (ho: ¬0<t.op): ∀i,i<t.zs.length→ ∃n es ls,aP t.zs (i:Int)=zV n es∧aP t.we (i:Int)=wV ls∧ZP false k n es ls:=by
 intro i hi;rcases h.z with⟨a,b⟩|⟨zs,we,n,e1,e2,e3,e4,e5⟩
 ·rw[a] at hi;cases hi
 ·rw[decide_eq_false ho] at e4
  rw[e1,List.length_append,List.length_singleton] at hi;by_cases e:i<zs.length
  ·obtain⟨n,es,ls,a,b,c⟩:=e5 i e
   exact⟨n,es,ls,by rw[e1,iM e];exact a,by rw[e2,iM (by omega)];exact b,c⟩
  ·obtain rfl:i=zs.length:=by omega
   exact⟨n,t.yz,t.ye,by rw[e1,iW],by rw[e2,e3,iW],e4⟩
theorem rR_bad (s:List UInt8) (hs:s.length≤8000) (h: ¬rU s=0):
  1≤qp s∧qp s≤(bY s).length∧Wm (dL (bY s) 0 (qp s-1))=true∧(rU (Dg (dL (bY s) 0 (qp s-1)))=0∨rU (Dg (dL (bY s) 0 (qp s-1)))=16):=by
 have hE:rU s=vM (fU s):=by unfold rU;rw[if_neg (by omega)];rfl
 have hL:qp s=wW (fU s):=by
  unfold qp;rw[if_neg (by omega),if_neg (by rw[hE] at h;exact h)];rfl
 obtain⟨a,b,c,d,f⟩:=zx (bY s) 0 r0 (by decide) (by decide);have e:fQ (bY s) 0 r0=fU s:=rfl;rw[e] at a b c d f;rw[hE] at h;unfold vM at h;have key:1≤qp s∧qp s≤(bY s).length∧(((qp s-1).toNat:Int)+0<(fU s).2.1∨(fU s).2.2=0):=by
  rw[hL];unfold wW;by_cases e1:(fU s).2.2=0
  ·rw[if_neg (fun h=>h e1)] at h⊢
   by_cases e2:0<(fU s).1.op
   ·rw[if_pos e2];exact⟨by omega,by omega,.inr e1⟩
   ·rw[if_neg e2] at h;exact absurd rfl h
  ·rw[if_pos e1]
   have:=f e1;exact⟨by omega,by omega,.inl (by omega)⟩
 obtain⟨k1,k2,k3⟩:=key;obtain⟨m,hm⟩: ∃m:Nat,qp s-1=(m:Int):=⟨(qp s-1).toNat,by omega⟩
 rw[hm,Int.toNat_natCast] at k3;have e1:dL (bY s) 0 (qp s-1)=Ev.bL ((eu s).take m):=by
  rw[hm];show((bY s).take ((m:Int)).toNat).drop 0=_;rw[Int.toNat_natCast,List.drop_zero];unfold bY Ev.bL;rw[List.map_take]
 have e2:Dg (Ev.bL ((eu s).take m))=sW ((eu s).take m):=by
  unfold Dg;congr 1;unfold strsOf Ev.bL;rw[List.map_map];exact(List.map_congr_left (fun x _=>rfl)).trans (List.map_id _)
 have hno: ∀x∈(eu s).take m,x.contains 10=false:=fun x hx=>Dx s [] rfl x (List.mem_of_mem_take hx)
 have l3:(sW (eu s)).length≤s.length+1:=by
  rcases zk s [] with h|h
  ·show(sW (lg s [])).length≤_;rw[h];simp
  ·show(sW (lg s [])).length≤_;rw[h];simp
 have l4:(sW ((eu s).take m)).length≤(sW (eu s)).length:=by
  have:sW (eu s)=sW ((eu s).take m)++sW ((eu s).drop m):=by
   unfold sW;rw[←List.flatten_append,←List.map_append,List.take_append_drop]
  rw[this,List.length_append];omega
 refine⟨k1,k2,?_,?_⟩
 ·rw[e1]
  unfold Wm;rw[decide_eq_true_eq,e2];have:=qE s;have:(Ev.bL ((eu s).take m)).length≤(bY s).length:=by unfold bY;rw[je,je,List.length_take];omega
  exact⟨by omega,by omega⟩
 ·rw[e1,e2]
  have q:fU (sW ((eu s).take m))=fQ ((bY s).take m) 0 r0:=by
   show fQ ((eu (sW ((eu s).take m))).map V.str) 0 r0=_;rw[EV _ hno,List.map_take];rfl
  have:=Nh (bY s) 0 r0 m k3;unfold rU;rw[if_neg (by omega)];show vM (fU _)=0∨vM (fU _)=16;rw[q];unfold vM;rw[if_neg (fun h=>h this)];split
  ·exact .inr rfl
  ·exact .inl rfl
theorem rR_ev (s:List UInt8):af eE 4 [.str s] (.bool true):=by
 refine ah iY gR2_ok 10000 3 ?_
 (rw[aac];(conv=>zeta))
 by_cases h:s.length≤8000
 ·rw[aU (by rw[show ai (aj s) 8000=true from bF (by rw[aB];omega)];rfl),ay (bF (by rw[aB];omega))]
  have hf:=qE s;by_cases hE:rU s=0
  ·obtain⟨h1,h2,hg,hfw,hr⟩:=rR_good s h hE
   have hz:=aaf hr h2;obtain⟨z,we,y,ye,r,wr,k,wl,op,i⟩:=hg;have t1:qT s=(fU s).1.rs:=if_pos hE;have t2:qU s=(fU s).1.zs:=if_pos hE;have t3:qV s=(fU s).1.ks:=if_pos hE;have t4:Gj s=(fU s).1.wr:=if_pos hE;have t5:Gl s=(fU s).1.we:=if_pos hE;have t6:Gm s=(fU s).1.wl:=if_pos hE;rw[t1,t2,t3,t4,t5,t6,hE];rw[show ieq (av (fU s).1.wr) (av (fU s).1.rs)=true from bn (by rw[aD,aD,wr]),show ieq (av (fU s).1.we) (av (fU s).1.zs)=true from bn (by rw[aD,aD,we]),show ieq (av (fU s).1.wl) (av (fU s).1.ks)=true from bn (by rw[aD,aD,wl])];simp only[jc,gn,gt,gf];have a:=rg_0 10000 s (bY s) (fU s).1.rs (fU s).1.zs (fU s).1.ks (fU s).1.wr (fU s).1.we (fU s).1.wl (qp s) 0 some hr.r hr.wr wr (by omega) (fU s).1.rs.length 0 10000 (by omega) (by omega);have b:=rg_1 10000 s (bY s) (fU s).1.rs (fU s).1.zs (fU s).1.ks (fU s).1.wr (fU s).1.we (fU s).1.wl (qp s) 0 some (av (fU s).1.rs) (av (fU s).1.rs) hr.l hr.wl wl (by omega) (fU s).1.ks.length 0 10000 (by omega) (by omega);have c:=rg_2 10000 s (bY s) (fU s).1.rs (fU s).1.zs (fU s).1.ks (fU s).1.wr (fU s).1.we (fU s).1.wl (qp s) 0 some (av (fU s).1.rs) (av (fU s).1.rs) (av (fU s).1.ks) (av (fU s).1.ks) hz hfw.1 (by omega) we (by omega) (fU s).1.zs.length 0 10000 (by omega) (by omega);rw[i0] at a b c;exact a.trans (b.trans c)
  ·obtain⟨k1,k2,k3,k4⟩:=rR_bad s h hE
   have t1:qT s=[]:=if_neg hE;have t2:qU s=[]:=if_neg hE;have t3:qV s=[]:=if_neg hE;rw[t1,t2,t3,qY (by omega),show ieq (rU s) 0=false from cO hE,show aT (qp s) 1=false from bB (by omega),show aT (av (bY s)) (qp s)=false from bB (by rw[aD];omega),k3,show ak (ai 0 (qp s-1)) (ai (qp s-1) (av (bY s)))=true from by rw[aH,aA,aA,aD];omega];rcases k4 with k4|k4<;>rw[k4]<;>rfl
 ·rw[ay (by rw[show ai (aj s) 8000=false from vY (by rw[aB];omega)];rfl)]
end Nt.Ev.YtplklcejbmfgdaaGreatDoor.Rr
