/-
  Months: equations of functions, as the evaluator prints them. Words: months, for the evaluator, both sides. Rule: equations of functions, as the evaluator prints them. Rules: what the program's functions and the document's answer. Rules: what is read, and what may be. Rules: there and back, in plain terms. RuleLaw: equations of functions, as the evaluator prints them. Rules: the two statements.
-/
import Derived.Test.YtpbgegnlkdfjgaaGreatDoorML
import Derived.Test.YtpbgegnlkdfjgaaGreatDoorMG
import Derived.Test.YtpbgegnlkdfjgaaGreatDoorMH
import Derived.Test.YtpbgegnlkdfjgaaGreatDoorMJ
import Derived.Test.YtpbgegnlkdfjgaaGreatDoorMI
import Derived.Test.YtpbgegnlkdfjgaaGreatDoorMF
set_option linter.unusedVariables false
set_option linter.unusedSimpArgs false
set_option linter.unusedSectionVars false
namespace Nt.Ev.YtpbgegnlkdfjgaaGreatDoor
set_option maxRecDepth 100000
open Go Nt.Num Go.Proofs.YtpbgegnlkdfjgaaGreatDoor
noncomputable def MQ:V:=.rptr [.str,.str,.str,.str,.str,.str,.str,.str,.str,.str,.str,.str] (.agg [.str [74,97,110,117,97,114,121],.str [70,101,98,114,117,97,114,121],.str [77,97,114,99,104],.str [65,112,114,105,108],.str [77,97,121],.str [74,117,110,101],.str [74,117,108,121],.str [65,117,103,117,115,116],.str [83,101,112,116,101,109,98,101,114],.str [79,99,116,111,98,101,114],.str [78,111,118,101,109,98,101,114],.str [68,101,99,101,109,98,101,114]]) 0
noncomputable def mE:Env:=⟨Go.Proofs.Tryz.prog,fun g=>bif g==3 then some MQ else none⟩
noncomputable def MR:aL:=fun a=>match a with|[.str s,.sl e [.str] o ws]=>some (av (ak (ah s) 1000) (mV ws),.tup [.int .i64 (kH s ws),.int .i64 (mO s ws)])|_=>none
noncomputable def mS:List (Nat×aL):=(31,MR)::(22,MR)::[]
theorem Tg (F:Nat) (s:List UInt8) (K:V→Option V):
 bD mE (bB mE mS F 2) F 115 [V.str s] K=
 let A:=[V.str [74,97,110,117,97,114,121],V.str [70,101,98,114,117,97,114,121],V.str [77,97,114,99,104],V.str [65,112,114,105,108],V.str [77,97,121],V.str [74,117,110,101],V.str [74,117,108,121],V.str [65,117,103,117,115,116],V.str [83,101,112,116,101,109,98,101,114],V.str [79,99,116,111,98,101,114],V.str [78,111,118,101,109,98,101,114],V.str [68,101,99,101,109,98,101,114]];sel (av (ak (ah s) 1000) (mV A)) (sel (aB (ieq (mO s A) 0)) (K (V.tup [V.int .i64 0,V.int .i64 (mO s A)])) (K (V.tup [V.int .i64 (bP .i64 (kH s A) 1),V.int .i64 0]))) none:=by kernel_rfl
theorem Ti (F:Nat) (s:List UInt8) (K:V→Option V):
 bD mE (bB mE mS F 2) F 63 [V.str s] K=
 let A:=[V.str [74,97,110,117,97,114,121],V.str [70,101,98,114,117,97,114,121],V.str [77,97,114,99,104],V.str [65,112,114,105,108],V.str [77,97,121],V.str [74,117,110,101],V.str [74,117,108,121],V.str [65,117,103,117,115,116],V.str [83,101,112,116,101,109,98,101,114],V.str [79,99,116,111,98,101,114],V.str [78,111,118,101,109,98,101,114],V.str [68,101,99,101,109,98,101,114]];sel (av (ak (ah s) 1000) (mV A)) (sel (aB (ieq (mO s A) 0)) (K (V.tup [V.int .i64 0,V.int .i64 (mO s A)])) (K (V.tup [V.int .i64 (bP .i64 (kH s A) 1),V.int .i64 0]))) none:=by kernel_rfl
open Go.RowKit Nt
theorem mE_ok:vT mE:=⟨by kernel_rfl,by kernel_rfl⟩
theorem toM {f:Nat} {args:List V} {r:V} (h:af nE f args r):af mE f args r:=af.env (E:=nE) rfl (fun n v h=>by cases h) h
theorem IG (s:List UInt8) (e:Nat) (o:Option Nat) (ws:List V) (hc:av (ak (ah s) 1000) (mV ws)=true):af mE 31 [.str s,.sl e [.str] o ws] (.tup [.int .i64 (kH s ws),.int .i64 (mO s ws)]):=by
 obtain⟨h1,h2⟩:=aV hc;exact toM (Ho s e o ws (o8 h1) h2)
theorem iM (s:List UInt8) (e:Nat) (o:Option Nat) (ws:List V) (hc:av (ak (ah s) 1000) (mV ws)=true):af mE 22 [.str s,.sl e [.str] o ws] (.tup [.int .i64 (kH s ws),.int .i64 (mO s ws)]):=by
 obtain⟨h1,h2⟩:=aV hc;exact toM (Hq s e o ws (o8 h1) h2)
theorem mS_ok:bF mE mS:=by
 unfold mS;refine bF.cons (fun args r h=>?_) (bF.cons (fun args r h=>?_) bF.nil);all_goals (revert h;intro h;first|unfold MR at h)
 all_goals (split at h;rotate_left; · cases h)
 all_goals (simp only[Option.some.injEq,Prod.mk.injEq] at h;obtain⟨hc,rfl⟩:=h)
 ·exact IG _ _ _ _ hc
 ·exact iM _ _ _ _ hc
def NJ:List V:=[.str [74,97,110,117,97,114,121],.str [70,101,98,114,117,97,114,121],.str [77,97,114,99,104],.str [65,112,114,105,108],.str [77,97,121],.str [74,117,110,101],.str [74,117,108,121],.str [65,117,103,117,115,116],.str [83,101,112,116,101,109,98,101,114],.str [79,99,116,111,98,101,114],.str [78,111,118,101,109,98,101,114],.str [68,101,99,101,109,98,101,114]]
def kG (s:List UInt8):Int:=if mO s NJ=0 then kH s NJ+1 else 0
def ku (s:List UInt8):Int:=mO s NJ
theorem ZT:mV NJ=true:=by decide
theorem xD (s:List UInt8) (ws:List V) (h:ws.length≤1000) (h0:mO s ws=0):0≤kH s ws∧kH s ws<ws.length:=by
 unfold mO at h0;have:=mt_lt ⟨s.toArray⟩ (QW ws) (by omega);unfold kH;rw[show(QW ws).length=ws.length from List.length_map ..] at this;omega
theorem WK (s:List UInt8) (hs:s.length≤1000):af mE 115 [.str s] (.tup [.int .i64 (kG s),.int .i64 (ku s)]):=by
 refine ai mE_ok mS_ok 5 2 ?_;have hc:av (ak (ah s) 1000) (mV NJ)=true:=by rw[aC];exact⟨bA (by rw[au];omega),ZT⟩
 (rw[Tg];(conv=>zeta))
 refine(aj hc).trans ?_;unfold kG ku;by_cases h:mO s NJ=0
 ·have:=xD s NJ (by decide) h
  have e:(NJ.length:Int)=12:=rfl;refine(aG (show aB (ieq (mO s NJ) 0)=false by rw[aR h];rfl)).trans ?_;rw[if_pos h];show some (V.tup [V.int .i64 (bP .i64 (kH s NJ) 1),V.int .i64 _])=_;rw[dh (by omega)];first|rfl|(rw[h];rfl)|(rw[h])
 ·refine(aj (show aB (ieq (mO s NJ) 0)=true by rw[bf h];rfl)).trans ?_
  rw[if_neg h];rfl
theorem WL (s:List UInt8) (hs:s.length≤1000):af mE 63 [.str s] (.tup [.int .i64 (kG s),.int .i64 (ku s)]):=by
 refine ai mE_ok mS_ok 5 2 ?_;have hc:av (ak (ah s) 1000) (mV NJ)=true:=by rw[aC];exact⟨bA (by rw[au];omega),ZT⟩
 (rw[Ti];(conv=>zeta))
 refine(aj hc).trans ?_;unfold kG ku;by_cases h:mO s NJ=0
 ·have:=xD s NJ (by decide) h
  have e:(NJ.length:Int)=12:=rfl;refine(aG (show aB (ieq (mO s NJ) 0)=false by rw[aR h];rfl)).trans ?_;rw[if_pos h];show some (V.tup [V.int .i64 (bP .i64 (kH s NJ) 1),V.int .i64 _])=_;rw[dh (by omega)];first|rfl|(rw[h];rfl)|(rw[h])
 ·refine(aj (show aB (ieq (mO s NJ) 0)=true by rw[bf h];rfl)).trans ?_
  rw[if_neg h];rfl
variable [uT]
open Nt.Civil
noncomputable def zE:Env:=⟨Go.Proofs.Tryz.prog,fun g=>bif g==6 then some Dw else bif g==3 then some MQ else bif g==1 then some RY else bif g==0 then some (.rptr [.int .i64] (.int .i64 uT.val) 0) else none⟩
noncomputable def ZU:aL:=fun a=>match a with|[.str s,.int .u8 c]=>some (true,.int .i64 (wo s c))|_=>none
noncomputable def Zj:aL:=fun a=>match a with|[.int .i64 y,.int .i64 m]=>some (av (ak (-9223372036854775808) y) (ak y 9223372036854775807),.int .i64 (pu y m))|_=>none
noncomputable def zOnS:aL:=fun a=>match a with|[.agg [.int .i64 k,.int .i64 w,.int .i64 d]]=>some (true,.bool (Rb k w d))|_=>none
noncomputable def zS0:List (Nat×aL):=(43,ZU)::(154,Zj)::(130,Zj)::(152,zOnS)::(129,zOnS)::[]
def YP (c:UInt8):Bool:=(decide (65≤c.toNat)&&decide (c.toNat≤90))||(decide (97≤c.toNat)&&decide (c.toNat≤122))||c==95
def YQ (c:UInt8):Bool:=(decide (48≤c.toNat)&&decide (c.toNat≤57))||c==45||c==43||c==47||c==46
def I7 (k:Nat) (c:UInt8):Bool:=YP c||(decide (0<k)&&YQ c)
def Cz:Nat→List UInt8→Bool|_,[]=>true|k,c::t=>I7 k c&&Cz (k+1) t
def gW (s:List UInt8):Int:=if 64<s.length then 9 else if Cz 0 s=true∧s≠[] then 0 else 10
def zf (k w d m:Int):Bool:=Rb k w d&&decide (1≤m∧m≤12∧d≤pu 1 m)
def y5 (s:List UInt8):Int:=(wX s).1
def EX (s:List UInt8):Int:=(wX s).2
def ytI (s:List UInt8) (n:Int):Int:=(Oc s n).1
def Lm (s:List UInt8) (n:Int):Int:=(Oc s n).2
def Vr (s:List UInt8):Int:=(Gi s).1
def Vs (s:List UInt8):Int:=(Gi s).2.1
def xZ (s:List UInt8):Int:=(Gi s).2.2
def dK (s:List UInt8):Int:=(aJ.read s).1
def ig (s:List UInt8):Int:=(aJ.read s).2
noncomputable def CU:aL:=fun a=>match a with|[.str s]=>some (ak (ah s) 1000,.int .i64 (gW s))|_=>none
noncomputable def CV:aL:=fun a=>match a with|[.agg [.int .i64 k,.int .i64 w,.int .i64 d],.int .i64 m]=>some (true,.bool (zf k w d m))|_=>none
noncomputable def RZ:aL:=fun a=>match a with|[.str s]=>some (ak (ah s) 900,.tup [.int .i64 (y5 s),.int .i64 (EX s)])|_=>none
noncomputable def zToS:aL:=fun a=>match a with|[.str s,.int .i64 n]=>some (ak (ah s) 900,.tup [.int .i64 (ytI s n),.int .i64 (Lm s n)])|_=>none
noncomputable def J3:aL:=fun a=>match a with|[.str s]=>some (ak (ah s) 900,.tup [.int .i64 (kG s),.int .i64 (ku s)])|_=>none
noncomputable def J4:aL:=fun a=>match a with|[.str s]=>some (ak (ah s) 900,.tup [.agg [.int .i64 (tX s),.int .i64 (iB s),.int .i64 (tY s)],.int .i64 (uQ s)])|_=>none
noncomputable def J5:aL:=fun a=>match a with|[.str s]=>some (ak (ah s) 900,.tup [.agg [.int .i64 (Vr s),.int .i64 (Vs s)],.int .i64 (xZ s)])|_=>none
noncomputable def J6:aL:=fun a=>match a with|[.str s]=>some (ak (ah s) 900,.tup [.int .i64 (dK s),.int .i64 (ig s)])|_=>none
noncomputable def Zk:aL:=fun a=>match a with|[.str s]=>some (ak (ah s) 900,.tup [.str (T9 s),.int .i64 (EY s)])|_=>none
noncomputable def zCrS:aL:=fun a=>match a with|[.agg [.int .i64 n,.int .i64 b]]=>some (true,.bool (Mc n b))|_=>none
noncomputable def zS:List (Nat×aL):=(54,CU)::(40,CU)::(118,CV)::(93,CV)::(113,RZ)::(61,RZ)::(114,zToS)::(62,zToS)::(115,J3)::(63,J3)::(117,J4)::(92,J4)::(120,J5)::(65,J5)::(104,J6)::(56,J6)::(123,Zk)::(67,Zk)::(156,zCrS)::zS0
def odP (s:List UInt8) (m:Int):Int×Int×Int×Int:=if uQ s=0 then(if zf (tX s) (iB s) (tY s) m=true then(tX s,iB s,tY s,0) else(0,0,0,1)) else(tX s,iB s,tY s,uQ s)
def QX (s:List UInt8) (m:Int):Int:=(odP s m).1
def QY (s:List UInt8) (m:Int):Int:=(odP s m).2.1
def QZ (s:List UInt8) (m:Int):Int:=(odP s m).2.2.1
def NK (s:List UInt8) (m:Int):Int:=(odP s m).2.2.2
def svP (s:List UInt8):Int×Int:=if ig s=0 then(if dK s< -10800∨10800<dK s then(0,1) else(dK s,0)) else(dK s,ig s)
def Rc (s:List UInt8):Int:=(svP s).1
def Re (s:List UInt8):Int:=(svP s).2
noncomputable def zOdS:aL:=fun a=>match a with|[.str s,.int .i64 m]=>some (ak (ah s) 900,.tup [.agg [.int .i64 (QX s m),.int .i64 (QY s m),.int .i64 (QZ s m)],.int .i64 (NK s m)])|_=>none
noncomputable def zSvS:aL:=fun a=>match a with|[.str s]=>some (ak (ah s) 900,.tup [.int .i64 (Rc s),.int .i64 (Re s)])|_=>none
noncomputable def zS1:List (Nat×aL):=(64,zOdS)::(66,zSvS)::zS
noncomputable def qN (F:Nat) (ns:List Nat) (n:Nat) (x0:List UInt8) (x2:Int) (x9:List V) (x10 Fw:Int) (K:V→Option V):Option V:=
 dN zE zS0 F 2 54 [1,1,0,1,0] ns K n (iY 48 [(0,V.str x0),(2,V.int .i64 x2),(9,V.sl 5 [Kd.int .u8] none x9),(10,V.int .i64 x10),(11,V.int .i64 Fw)] [])
theorem WM (F:Nat) (s:List UInt8) (K:V→Option V):
 bD zE (bB zE zS0 F 2) F 54 [V.str s] K=
 sel (aK 64 (ah s)) (K (V.int .i64 9)) (sel (JQ s) (qN F [] F s 0 (aZ s) (ax (aZ s)) 0 K) none):=by kernel_rfl
theorem zD (F n:Nat) (x0:List UInt8) (x2:Int) (x9:List V) (x10 Fw:Int) (K:V→Option V):
 qN F [] (n+1) x0 x2 x9 x10 Fw K=
 let B:=qN F [] n x0 x2 x9 x10 (bP .i64 Fw 1) K;let C:=asInt (aD (aY x9 Fw) 0);let E:=K (V.int .i64 10);let D:=sel (ak 0 (wo [45,43,47,46] C)) B E;let G:=jW .or .u8 C 32;let A:=sel (ieq C 95) B (sel (aK 0 Fw) (sel (ak 48 C) (sel (ak C 57) B D) D) E);sel (aK Fw x10) (sel (av (ak 0 Fw) (aK Fw (ax x9))) (sel (ak 97 G) (sel (ak G 122) B A) A) none) (sel (seq x0 []) E (K (V.int .i64 0))):=by kernel_rfl
noncomputable def lK (F:Nat) (ns:List Nat) (n:Nat) (x0:List UInt8) (x2 x3:Int) (K:V→Option V):Option V:=
 dN zE zS0 F 2 40 [1,1,0,1,0] ns K n (iY 71 [(0,V.str x0),(2,V.int .i64 x2),(3,V.int .i64 x3)] [])
theorem QH (F:Nat) (s:List UInt8) (K:V→Option V):
 bD zE (bB zE zS0 F 2) F 40 [V.str s] K=
 sel (aK 64 (ah s)) (K (V.int .i64 9)) (lK F [] F s 0 0 K):=by kernel_rfl
theorem vL (F n:Nat) (x0:List UInt8) (x2 x3:Int) (K:V→Option V):
 lK F [] (n+1) x0 x2 x3 K=
 let B:=lK F [] n x0 x2 (bP .i64 x3 1) K;let D:=sat x0 x3;let H:=K (V.int .i64 10);let L:=aK x3 (ah x0);let G:=sel (ieq D 45) B (sel (ieq D 43) B (sel (ieq D 47) B B));let M:=aB (ieq D 95);let E:=sel M (sel (ieq x3 0) H B) B;let I:=sel (ak 48 D) (sel (ak D 57) B G) G;let A:=sel (ieq D 45) E (sel (ieq D 43) E (sel (ieq D 47) E (sel M (sel (ieq x3 0) H (sel (aB (ieq D 46)) H B)) B)));let J:=sel (ak 48 D) (sel (ak D 57) E A) A;let C:=sel (ak 97 D) (sel (ak D 122) I J) J;sel L (sel (av (ak 0 x3) L) (sel (ak 65 D) (sel (ak D 90) I C) C) none) (sel (seq x0 []) H (K (V.int .i64 0))):=by kernel_rfl
theorem WN (F:Nat) (k w d m:Int) (K:V→Option V):
 bD zE (bB zE zS0 F 3) F 118 [V.agg [V.int .i64 k,V.int .i64 w,V.int .i64 d],V.int .i64 m] K=
 let A:=K (V.bool false);sel (Rb k w d) (sel (ak 1 m) (sel (ak m 12) (K (V.bool (ak d (pu 1 m)))) A) A) A:=by kernel_rfl
theorem Tj (F:Nat) (k w d m:Int) (K:V→Option V):
 bD zE (bB zE zS0 F 3) F 93 [V.agg [V.int .i64 k,V.int .i64 w,V.int .i64 d],V.int .i64 m] K=
 let A:=K (V.bool false);sel (Rb k w d) (sel (ak 1 m) (sel (ak m 12) (K (V.bool (ak d (pu 2001 m)))) A) A) A:=by kernel_rfl
theorem K3 (F:Nat) (xs:List V) (K:V→Option V):
 bD zE (bB zE zS F 10) F 53 [V.sl 9 [Kd.str] none xs] K=
 let B:=aT (aD (aY xs 5) 0);let C:=aT (aD (aY xs 1) 0);let D:=aT (aD (aY xs 7) 0);let E:=V.int .i64 0;let G:=aT (aD (aY xs 4) 0);let H:=aT (aD (aY xs 6) 0);let I:=aT (aD (aY xs 0) 0);let J:=aT (aD (aY xs 2) 0);let L:=aT (aD (aY xs 8) 0);let N:=av (ak 0 0) (aK 0 (ax xs));let A:=V.agg [V.str [],E,E,E,E,E,E,E,E,E,V.str []];let M:=K (V.tup [A,V.int .i64 1]);sel (aB (ak 9 (ax xs))) (K (V.tup [A,V.int .i64 5])) (sel (aB (ak (ax xs) 9)) (K (V.tup [A,V.int .i64 6])) (sel N (sel N (sel (ak (ah I) 1000) (sel (aB (ieq (gW I) 0)) (K (V.tup [A,V.int .i64 (gW I)])) (sel (av (ak 0 1) (aK 1 (ax xs))) (sel (ak (ah C) 900) (sel (aB (ieq (EX C) 0)) (K (V.tup [A,V.int .i64 (EX C)])) (sel (av (ak 0 2) (aK 2 (ax xs))) (sel (ak (ah J) 900) (sel (aB (ieq (Lm J (y5 C)) 0)) (K (V.tup [A,V.int .i64 (Lm J (y5 C))])) (sel (av (ak 0 3) (aK 3 (ax xs))) (sel (aB (seq (aT (aD (aY xs 3) 0)) [45])) (K (V.tup [A,V.int .i64 3])) (sel (av (ak 0 4) (aK 4 (ax xs))) (sel (ak (ah G) 900) (sel (aB (ieq (ku G) 0)) (K (V.tup [A,V.int .i64 (ku G)])) (sel (av (ak 0 5) (aK 5 (ax xs))) (sel (ak (ah B) 900) (sel (aB (ieq (uQ B) 0)) (K (V.tup [A,V.int .i64 (uQ B)])) (sel (aB (zf (tX B) (iB B) (tY B) (kG G))) M (sel (av (ak 0 6) (aK 6 (ax xs))) (sel (ak (ah H) 900) (sel (aB (ieq (xZ H) 0)) (K (V.tup [A,V.int .i64 (xZ H)])) (sel (av (ak 0 7) (aK 7 (ax xs))) (sel (ak (ah D) 900) (sel (aB (ieq (ig D) 0)) (K (V.tup [A,V.int .i64 (ig D)])) (sel (ak (-10800) (dK D)) (sel (aB (ak (dK D) 10800)) M (sel (av (ak 0 8) (aK 8 (ax xs))) (sel (ak (ah L) 900) (sel (aB (ieq (EY L) 0)) (K (V.tup [A,V.int .i64 (EY L)])) (K (V.tup [V.agg [V.str I,V.int .i64 (y5 C),V.int .i64 (ytI J (y5 C)),V.int .i64 (kG G),V.int .i64 (tX B),V.int .i64 (iB B),V.int .i64 (tY B),V.int .i64 (Vr H),V.int .i64 (Vs H),V.int .i64 (dK D),V.str (T9 L)],E]))) none) none)) M)) none) none)) none) none))) none) none)) none) none)) none)) none) none)) none) none)) none) none) none)):=by kernel_rfl
theorem Tk (F:Nat) (a0 a1 a2 a3 a4 a5 a6 a7 a8:List UInt8) (K:V→Option V):
 bD zE (bB zE zS F 10) F 53 [V.sl 9 [Kd.str] none [V.str a0,V.str a1,V.str a2,V.str a3,V.str a4,V.str a5,V.str a6,V.str a7,V.str a8]] K=
 let B:=ax [V.str a0,V.str a1,V.str a2,V.str a3,V.str a4,V.str a5,V.str a6,V.str a7,V.str a8];let C:=V.int .i64 0;let G:=Lm a2 (y5 a1);let A:=V.agg [V.str [],C,C,C,C,C,C,C,C,C,V.str []];let E:=av (ak 0 0) (aK 0 B);let D:=K (V.tup [A,V.int .i64 1]);sel (aB (ak 9 B)) (K (V.tup [A,V.int .i64 5])) (sel (aB (ak B 9)) (K (V.tup [A,V.int .i64 6])) (sel E (sel E (sel (ak (ah a0) 1000) (sel (aB (ieq (gW a0) 0)) (K (V.tup [A,V.int .i64 (gW a0)])) (sel (av (ak 0 1) (aK 1 B)) (sel (ak (ah a1) 900) (sel (aB (ieq (EX a1) 0)) (K (V.tup [A,V.int .i64 (EX a1)])) (sel (av (ak 0 2) (aK 2 B)) (sel (ak (ah a2) 900) (sel (aB (ieq G 0)) (K (V.tup [A,V.int .i64 G])) (sel (av (ak 0 3) (aK 3 B)) (sel (aB (seq a3 [45])) (K (V.tup [A,V.int .i64 3])) (sel (av (ak 0 4) (aK 4 B)) (sel (ak (ah a4) 900) (sel (aB (ieq (ku a4) 0)) (K (V.tup [A,V.int .i64 (ku a4)])) (sel (av (ak 0 5) (aK 5 B)) (sel (ak (ah a5) 900) (sel (aB (ieq (uQ a5) 0)) (K (V.tup [A,V.int .i64 (uQ a5)])) (sel (aB (zf (tX a5) (iB a5) (tY a5) (kG a4))) D (sel (av (ak 0 6) (aK 6 B)) (sel (ak (ah a6) 900) (sel (aB (ieq (xZ a6) 0)) (K (V.tup [A,V.int .i64 (xZ a6)])) (sel (av (ak 0 7) (aK 7 B)) (sel (ak (ah a7) 900) (sel (aB (ieq (ig a7) 0)) (K (V.tup [A,V.int .i64 (ig a7)])) (sel (ak (-10800) (dK a7)) (sel (aB (ak (dK a7) 10800)) D (sel (av (ak 0 8) (aK 8 B)) (sel (ak (ah a8) 900) (sel (aB (ieq (EY a8) 0)) (K (V.tup [A,V.int .i64 (EY a8)])) (K (V.tup [V.agg [V.str a0,V.int .i64 (y5 a1),V.int .i64 (ytI a2 (y5 a1)),V.int .i64 (kG a4),V.int .i64 (tX a5),V.int .i64 (iB a5),V.int .i64 (tY a5),V.int .i64 (Vr a6),V.int .i64 (Vs a6),V.int .i64 (dK a7),V.str (T9 a8)],C]))) none) none)) D)) none) none)) none) none))) none) none)) none) none)) none)) none) none)) none) none)) none) none) none)):=by kernel_rfl
theorem Tm (F:Nat) (s:List UInt8) (m:Int) (K:V→Option V):
 bD zE (bB zE zS F 2) F 64 [V.str s,V.int .i64 m] K=
 let A:=K (V.tup [V.agg [V.int .i64 (tX s),V.int .i64 (iB s),V.int .i64 (tY s)],V.int .i64 (uQ s)]);let B:=V.int .i64 0;sel (ak (ah s) 900) (sel (ieq (uQ s) 0) (sel (aB (zf (tX s) (iB s) (tY s) m)) (K (V.tup [V.agg [B,B,B],V.int .i64 1])) A) A) none:=by kernel_rfl
theorem QI (F:Nat) (s:List UInt8) (K:V→Option V):
 bD zE (bB zE zS F 2) F 66 [V.str s] K=
 let A:=K (V.tup [V.int .i64 (dK s),V.int .i64 (ig s)]);let B:=K (V.tup [V.int .i64 0,V.int .i64 1]);sel (ak (ah s) 900) (sel (ieq (ig s) 0) (sel (aK (dK s) (-10800)) B (sel (aK 10800 (dK s)) B A)) A) none:=by kernel_rfl
noncomputable def Tn (F:Nat) (ns:List Nat) (n:Nat) (x0:List V) (x3 x4 x5 x6 x7 x9 x10 tT vU Cv uR:Int) (rQ:List UInt8) (x18:Int) (x96:List V) (Rf x98 kM kN kP kQ kS:Int) (eX:List UInt8) (dV fU wu wB wC wD wF wG wH:Int) (om:List UInt8) (K:V→Option V):Option V:=
 dN zE zS1 F 2 39 [1,1,1,1,1,1,1,1,1,1,1,1,0,1,0] ns K n (iY 118 [(0,V.sl 9 [Kd.str] none x0),(2,V.box 2 0),(3,V.int .i64 x3),(4,V.int .i64 x4),(5,V.int .i64 x5),(6,V.int .i64 x6),(7,V.int .i64 x7),(8,V.int .i64 3),(9,V.int .i64 x9),(10,V.int .i64 x10),(11,V.box 11 0),(12,V.int .i64 tT),(13,V.box 13 0),(14,V.int .i64 vU),(15,V.int .i64 Cv),(16,V.int .i64 uR),(17,V.str rQ),(18,V.int .i64 x18),(96,V.sl 33 [Kd.int .i64] (some 96) x96),(97,V.int .i64 Rf),(98,V.int .i64 x98)] [(13,[V.int .i64 kM,V.int .i64 kN]),(11,[V.int .i64 kP,V.int .i64 kQ,V.int .i64 kS]),(2,[V.str eX,V.int .i64 dV,V.int .i64 fU,V.int .i64 wu,V.int .i64 wB,V.int .i64 wC,V.int .i64 wD,V.int .i64 wF,V.int .i64 wG,V.int .i64 wH,V.str om])])
noncomputable def Tp (F:Nat) (ns:List Nat) (n:Nat) (x0:List V) (x3 x4 x5 x6 x7 x9 x10 tT vU Cv uR:Int) (rQ:List UInt8) (x18:Int) (x96:List V) (Rf x98 kM kN kP kQ kS:Int) (eX:List UInt8) (dV fU wu wB wC wD wF wG wH:Int) (om:List UInt8) (K:V→Option V):Option V:=
 dN zE zS1 F 2 39 [1,1,1,1,1,1,1,1,1,1,1,1,0,1,0] ns K n (iY 118 [(0,V.sl 9 [Kd.str] none x0),(2,V.box 2 0),(3,V.int .i64 x3),(4,V.int .i64 x4),(5,V.int .i64 x5),(6,V.int .i64 x6),(7,V.int .i64 x7),(8,V.int .i64 0),(9,V.int .i64 x9),(10,V.int .i64 x10),(11,V.box 11 0),(12,V.int .i64 tT),(13,V.box 13 0),(14,V.int .i64 vU),(15,V.int .i64 Cv),(16,V.int .i64 uR),(17,V.str rQ),(18,V.int .i64 x18),(96,V.sl 33 [Kd.int .i64] (some 96) x96),(97,V.int .i64 Rf),(98,V.int .i64 x98)] [(13,[V.int .i64 kM,V.int .i64 kN]),(11,[V.int .i64 kP,V.int .i64 kQ,V.int .i64 kS]),(2,[V.str eX,V.int .i64 dV,V.int .i64 fU,V.int .i64 wu,V.int .i64 wB,V.int .i64 wC,V.int .i64 wD,V.int .i64 wF,V.int .i64 wG,V.int .i64 wH,V.str om])])
theorem EG (F:Nat) (xs:List V) (K:V→Option V):
 bD zE (bB zE zS1 F 2) F 39 [V.sl 9 [Kd.str] none xs] K=
 let A:=aT (aD (aY xs 4) 0);let B:=aT (aD (aY xs 1) 0);let E:=aT (aD (aY xs 5) 0);let G:=aT (aD (aY xs 6) 0);let H:=V.int .i64 0;let I:=aT (aD (aY xs 7) 0);let J:=aT (aD (aY xs 8) 0);let L:=aT (aD (aY xs 2) 0);let M:=aT (aD (aY xs 0) 0);let Q:=av (ak 0 4) (aK 4 (ax xs));let R:=av (ak 0 5) (aK 5 (ax xs));let S:=av (ak 0 6) (aK 6 (ax xs));let T:=av (ak 0 7) (aK 7 (ax xs));let U:=av (ak 0 8) (aK 8 (ax xs));let W:=av (ak 0 0) (aK 0 (ax xs));let N:=V.agg [V.str [],H,H,H,H,H,H,H,H,H,V.str []];let O:=Lm L (y5 B);let P:=NK E (kG A);let X:=V.int .i64 (gW M);let Y:=V.int .i64 (EX B);let Z:=V.int .i64 (ku A);let Aa:=V.int .i64 (xZ G);let Ab:=V.int .i64 (Re I);let Ac:=V.int .i64 (EY J);let C:=[X,Y,V.int .i64 O,V.int .i64 3,Z,V.int .i64 P,Aa,Ab,Ac];let D:=[X,Y,V.int .i64 O,H,Z,V.int .i64 P,Aa,Ab,Ac];sel (aK (ax xs) 9) (K (V.tup [N,V.int .i64 5])) (sel (aK 9 (ax xs)) (K (V.tup [N,V.int .i64 6])) (sel (av (ak 0 1) (aK 1 (ax xs))) (sel (ak (ah B) 900) (sel (av (ak 0 2) (aK 2 (ax xs))) (sel (ak (ah L) 900) (sel (av (ak 0 3) (aK 3 (ax xs))) (sel (aB (seq (aT (aD (aY xs 3) 0)) [45])) (sel Q (sel (ak (ah A) 900) (sel R (sel (ak (ah E) 900) (sel S (sel (ak (ah G) 900) (sel T (sel (ak (ah I) 900) (sel U (sel (ak (ah J) 900) (sel W (sel (ak (ah M) 1000) (Tn F [] F xs 0 (y5 B) (EX B) (ytI L (y5 B)) O (kG A) (ku A) P (xZ G) (Rc I) (Re I) (T9 J) (EY J) C (ax C) 0 (Vr G) (Vs G) (QX E (kG A)) (QY E (kG A)) (QZ E (kG A)) [] 0 0 0 0 0 0 0 0 0 [] K) none) none) none) none) none) none) none) none) none) none) none) none) (sel Q (sel (ak (ah A) 900) (sel R (sel (ak (ah E) 900) (sel S (sel (ak (ah G) 900) (sel T (sel (ak (ah I) 900) (sel U (sel (ak (ah J) 900) (sel W (sel (ak (ah M) 1000) (Tp F [] F xs 0 (y5 B) (EX B) (ytI L (y5 B)) O (kG A) (ku A) P (xZ G) (Rc I) (Re I) (T9 J) (EY J) D (ax D) 0 (Vr G) (Vs G) (QX E (kG A)) (QY E (kG A)) (QZ E (kG A)) [] 0 0 0 0 0 0 0 0 0 [] K) none) none) none) none) none) none) none) none) none) none) none) none)) none) none) none) none) none)):=by kernel_rfl
noncomputable def sI (F:Nat) (ns:List Nat) (n:Nat) (x0:List V) (x3 x4 x5 x6 x7 x9 x10 tT vU Cv uR:Int) (rQ:List UInt8) (x18:Int) (x96:List V) (Rf x98 kM kN kP kQ kS:Int) (eX:List UInt8) (dV fU wu wB wC wD wF wG wH:Int) (om:List UInt8) (K:V→Option V):Option V:=
 dN zE zS1 F 2 39 [1,1,1,1,1,1,1,1,1,1,1,1,0,1,0] ns K n (iY 118 [(0,V.sl 9 [Kd.str] none x0),(2,V.box 2 0),(3,V.int .i64 x3),(4,V.int .i64 x4),(5,V.int .i64 x5),(6,V.int .i64 x6),(7,V.int .i64 x7),(8,V.int .i64 3),(9,V.int .i64 x9),(10,V.int .i64 x10),(11,V.box 11 0),(12,V.int .i64 tT),(13,V.box 13 0),(14,V.int .i64 vU),(15,V.int .i64 Cv),(16,V.int .i64 uR),(17,V.str rQ),(18,V.int .i64 x18),(96,V.sl 33 [Kd.int .i64] (some 96) x96),(97,V.int .i64 Rf),(98,V.int .i64 x98)] [(13,[V.int .i64 kM,V.int .i64 kN]),(11,[V.int .i64 kP,V.int .i64 kQ,V.int .i64 kS]),(2,[V.str eX,V.int .i64 dV,V.int .i64 fU,V.int .i64 wu,V.int .i64 wB,V.int .i64 wC,V.int .i64 wD,V.int .i64 wF,V.int .i64 wG,V.int .i64 wH,V.str om])])
noncomputable def sJ (F:Nat) (ns:List Nat) (n:Nat) (x0:List V) (x3 x4 x5 x6 x7 x9 x10 tT vU Cv uR:Int) (rQ:List UInt8) (x18:Int) (x96:List V) (Rf x98 kM kN kP kQ kS:Int) (eX:List UInt8) (dV fU wu wB wC wD wF wG wH:Int) (om:List UInt8) (K:V→Option V):Option V:=
 dN zE zS1 F 2 39 [1,1,1,1,1,1,1,1,1,1,1,1,0,1,0] ns K n (iY 118 [(0,V.sl 9 [Kd.str] none x0),(2,V.box 2 0),(3,V.int .i64 x3),(4,V.int .i64 x4),(5,V.int .i64 x5),(6,V.int .i64 x6),(7,V.int .i64 x7),(8,V.int .i64 0),(9,V.int .i64 x9),(10,V.int .i64 x10),(11,V.box 11 0),(12,V.int .i64 tT),(13,V.box 13 0),(14,V.int .i64 vU),(15,V.int .i64 Cv),(16,V.int .i64 uR),(17,V.str rQ),(18,V.int .i64 x18),(96,V.sl 33 [Kd.int .i64] (some 96) x96),(97,V.int .i64 Rf),(98,V.int .i64 x98)] [(13,[V.int .i64 kM,V.int .i64 kN]),(11,[V.int .i64 kP,V.int .i64 kQ,V.int .i64 kS]),(2,[V.str eX,V.int .i64 dV,V.int .i64 fU,V.int .i64 wu,V.int .i64 wB,V.int .i64 wC,V.int .i64 wD,V.int .i64 wF,V.int .i64 wG,V.int .i64 wH,V.str om])])
theorem Nv (F:Nat) (a0 a1 a2 a3 a4 a5 a6 a7 a8:List UInt8) (K:V→Option V):
 bD zE (bB zE zS1 F 2) F 39 [V.sl 9 [Kd.str] none [V.str a0,V.str a1,V.str a2,V.str a3,V.str a4,V.str a5,V.str a6,V.str a7,V.str a8]] K=
 let A:=[V.str a0,V.str a1,V.str a2,V.str a3,V.str a4,V.str a5,V.str a6,V.str a7,V.str a8];let B:=V.int .i64 0;let G:=Lm a2 (y5 a1);let H:=NK a5 (kG a4);let P:=V.int .i64 (gW a0);let Q:=V.int .i64 (EX a1);let R:=V.int .i64 (ku a4);let S:=V.int .i64 (xZ a6);let T:=V.int .i64 (Re a7);let U:=V.int .i64 (EY a8);let W:=ak (ah a0) 1000;let X:=ak (ah a4) 900;let Y:=ak (ah a5) 900;let Z:=ak (ah a6) 900;let C:=[P,Q,V.int .i64 G,V.int .i64 3,R,V.int .i64 H,S,T,U];let D:=[P,Q,V.int .i64 G,B,R,V.int .i64 H,S,T,U];let E:=V.agg [V.str [],B,B,B,B,B,B,B,B,B,V.str []];let I:=av (ak 0 4) (aK 4 (ax A));let J:=av (ak 0 5) (aK 5 (ax A));let L:=av (ak 0 6) (aK 6 (ax A));let M:=av (ak 0 7) (aK 7 (ax A));let N:=av (ak 0 8) (aK 8 (ax A));let O:=av (ak 0 0) (aK 0 (ax A));sel (aK (ax A) 9) (K (V.tup [E,V.int .i64 5])) (sel (aK 9 (ax A)) (K (V.tup [E,V.int .i64 6])) (sel (av (ak 0 1) (aK 1 (ax A))) (sel (ak (ah a1) 900) (sel (av (ak 0 2) (aK 2 (ax A))) (sel (ak (ah a2) 900) (sel (av (ak 0 3) (aK 3 (ax A))) (sel (aB (seq a3 [45])) (sel I (sel X (sel J (sel Y (sel L (sel Z (sel M (sel (ak (ah a7) 900) (sel N (sel (ak (ah a8) 900) (sel O (sel W (sI F [] F A 0 (y5 a1) (EX a1) (ytI a2 (y5 a1)) G (kG a4) (ku a4) H (xZ a6) (Rc a7) (Re a7) (T9 a8) (EY a8) C (ax C) 0 (Vr a6) (Vs a6) (QX a5 (kG a4)) (QY a5 (kG a4)) (QZ a5 (kG a4)) [] 0 0 0 0 0 0 0 0 0 [] K) none) none) none) none) none) none) none) none) none) none) none) none) (sel I (sel X (sel J (sel Y (sel L (sel Z (sel M (sel (ak (ah a7) 900) (sel N (sel (ak (ah a8) 900) (sel O (sel W (sJ F [] F A 0 (y5 a1) (EX a1) (ytI a2 (y5 a1)) G (kG a4) (ku a4) H (xZ a6) (Rc a7) (Re a7) (T9 a8) (EY a8) D (ax D) 0 (Vr a6) (Vs a6) (QX a5 (kG a4)) (QY a5 (kG a4)) (QZ a5 (kG a4)) [] 0 0 0 0 0 0 0 0 0 [] K) none) none) none) none) none) none) none) none) none) none) none) none)) none) none) none) none) none)):=by kernel_rfl
theorem dx (F n:Nat) (x0:List V) (x3 x4 x5 x6 x7 x9 x10 tT vU Cv uR:Int) (rQ:List UInt8) (x18:Int) (x96:List V) (Rf x98 kM kN kP kQ kS:Int) (eX:List UInt8) (dV fU wu wB wC wD wF wG wH:Int) (om:List UInt8) (K:V→Option V):
 sI F [] (n+1) x0 x3 x4 x5 x6 x7 x9 x10 tT vU Cv uR rQ x18 x96 Rf x98 kM kN kP kQ kS eX dV fU wu wB wC wD wF wG wH om K=
 let A:=V.int .i64 0;let B:=asInt (aD (aY x96 x98) 0);sel (aK x98 Rf) (sel (av (ak 0 x98) (aK x98 (ax x96))) (sel (aB (ieq B 0)) (K (V.tup [V.agg [V.str [],A,A,A,A,A,A,A,A,A,V.str []],V.int .i64 B])) (sI F [] n x0 x3 x4 x5 x6 x7 x9 x10 tT vU Cv uR rQ x18 x96 Rf (bP .i64 x98 1) kM kN kP kQ kS eX dV fU wu wB wC wD wF wG wH om K)) none) (sel (av (ak 0 0) (aK 0 (ax x0))) (K (V.tup [V.agg [V.str (aT (aD (aY x0 0) 0)),V.int .i64 x4,V.int .i64 x6,V.int .i64 x9,V.int .i64 kP,V.int .i64 kQ,V.int .i64 kS,V.int .i64 kM,V.int .i64 kN,V.int .i64 Cv,V.str rQ],A])) none):=by kernel_rfl
theorem dA (F n:Nat) (x0:List V) (x3 x4 x5 x6 x7 x9 x10 tT vU Cv uR:Int) (rQ:List UInt8) (x18:Int) (x96:List V) (Rf x98 kM kN kP kQ kS:Int) (eX:List UInt8) (dV fU wu wB wC wD wF wG wH:Int) (om:List UInt8) (K:V→Option V):
 sJ F [] (n+1) x0 x3 x4 x5 x6 x7 x9 x10 tT vU Cv uR rQ x18 x96 Rf x98 kM kN kP kQ kS eX dV fU wu wB wC wD wF wG wH om K=
 let A:=V.int .i64 0;let B:=asInt (aD (aY x96 x98) 0);sel (aK x98 Rf) (sel (av (ak 0 x98) (aK x98 (ax x96))) (sel (aB (ieq B 0)) (K (V.tup [V.agg [V.str [],A,A,A,A,A,A,A,A,A,V.str []],V.int .i64 B])) (sJ F [] n x0 x3 x4 x5 x6 x7 x9 x10 tT vU Cv uR rQ x18 x96 Rf (bP .i64 x98 1) kM kN kP kQ kS eX dV fU wu wB wC wD wF wG wH om K)) none) (sel (av (ak 0 0) (aK 0 (ax x0))) (K (V.tup [V.agg [V.str (aT (aD (aY x0 0) 0)),V.int .i64 x4,V.int .i64 x6,V.int .i64 x9,V.int .i64 kP,V.int .i64 kQ,V.int .i64 kS,V.int .i64 kM,V.int .i64 kN,V.int .i64 Cv,V.str rQ],A])) none):=by kernel_rfl
theorem zw:vT zE:=⟨by kernel_rfl,by kernel_rfl⟩
theorem toZ {f:Nat} {args:List V} {r:V} (h:af nE f args r):af zE f args r:=af.env (E:=nE) rfl (fun n v h=>by cases h) h
theorem toZy {f:Nat} {args:List V} {r:V} (h:af yE f args r):af zE f args r:=af.env (E:=yE) rfl (fun n v h=>by cases h) h
theorem toZv {f:Nat} {args:List V} {r:V} (h:af vE f args r):af zE f args r:=af.env (E:=vE) rfl (fun n v h=>by cases h) h
theorem toZw {f:Nat} {args:List V} {r:V} (h:af wE f args r):af zE f args r:=af.env (E:=wE) rfl (fun n v h=>by
 unfold wE at h;simp only at h
 cases e:n==6 with
 |true=>
  obtain rfl:n=6:=by simpa using e
  exact h
 |false=>rw[e] at h;cases h) h
theorem toZm {f:Nat} {args:List V} {r:V} (h:af mE f args r):af zE f args r:=af.env (E:=mE) rfl (fun n v h=>by
 unfold mE at h;simp only at h
 cases e:n==3 with
 |true=>
  obtain rfl:n=3:=by simpa using e
  exact h
 |false=>rw[e] at h;cases h) h
theorem toZf {f:Nat} {args:List V} {r:V} (h:af fE f args r):af zE f args r:=af.env (E:=fE) rfl (fun n v h=>by
 unfold fE at h;simp only at h
 cases e:n==0 with
 |true=>
  obtain rfl:n=0:=by simpa using e
  exact h
 |false=>rw[e] at h;cases h) h
theorem YR {f:Nat} {args:List V} {r:V} (h:af aE f args r):af zE f args r:=af.env (E:=aE) rfl (fun n v h=>by
 unfold aE at h;simp only at h
 cases e:n==1 with
 |true=>
   obtain rfl:n=1:=by simpa using e
   exact h
 |false=>
  rw[e] at h;simp only[cond_false] at h
  cases e:n==0 with
  |true=>
    obtain rfl:n=0:=by simpa using e
    exact h
  |false=>rw[e] at h;cases h) h
theorem len_z {s:List UInt8} (h:ak (ah s) 1000=true):s.length≤1000:=by rw[aA,au] at h;omega
theorem kF {s:List UInt8} (h:ak (ah s) 900=true):s.length≤900:=by rw[aA,au] at h;omega
theorem ZV {m:Int} (h:av (ak (-9223372036854775808) m) (ak m 9223372036854775807)=true):Fits m:=by rw[aC,aA,aA] at h;exact h
theorem WO (s:List UInt8) (c:Int) (hc:true=true):af zE 43 [.str s,.int .u8 c] (.int .i64 (wo s c)):=toZ (Zh s c)
theorem abb (y m:Int) (hc:av (ak (-9223372036854775808) y) (ak y 9223372036854775807)=true):af zE 154 [.int .i64 y,.int .i64 m] (.int .i64 (pu y m)):=toZv (vLen_ev y m (ZV hc))
theorem q9 (y m:Int) (hc:av (ak (-9223372036854775808) y) (ak y 9223372036854775807)=true):af zE 130 [.int .i64 y,.int .i64 m] (.int .i64 (pu y m)):=toZv (rLen_ev y m (ZV hc))
theorem zOnS_ok (k w d:Int) (hc:true=true):af zE 152 [.agg [.int .i64 k,.int .i64 w,.int .i64 d]] (.bool (Rb k w d)):=toZw (KZ k w d)
theorem p9 (k w d:Int) (hc:true=true):af zE 129 [.agg [.int .i64 k,.int .i64 w,.int .i64 d]] (.bool (Rb k w d)):=toZw (IE k w d)
theorem GD:bF zE zS0:=by
 unfold zS0;refine bF.cons (fun args r h=>?_) (bF.cons (fun args r h=>?_) (bF.cons (fun args r h=>?_) (bF.cons (fun args r h=>?_) (bF.cons (fun args r h=>?_) bF.nil))));all_goals (revert h;intro h;first|unfold ZU at h|unfold Zj at h|unfold zOnS at h)
 all_goals (split at h;rotate_left; · cases h)
 all_goals (simp only[Option.some.injEq,Prod.mk.injEq] at h;obtain⟨hc,rfl⟩:=h)
 ·exact WO _ _ rfl
 ·exact abb _ _ hc
 ·exact q9 _ _ hc
 ·exact zOnS_ok _ _ _ rfl
 ·exact p9 _ _ _ rfl
theorem vD (c:UInt8):(ak 97 (jW .or .u8 ((c.toNat:Nat):Int) 32)&&ak (jW .or .u8 ((c.toNat:Nat):Int) 32) 122)=((decide (65≤c.toNat)&&decide (c.toNat≤90))||(decide (97≤c.toNat)&&decide (c.toNat≤122))):=by
 have h: ∀n:Fin 256,(ak 97 (jW .or .u8 ((n.val:Nat):Int) 32)&&ak (jW .or .u8 ((n.val:Nat):Int) 32) 122)=((decide (65≤n.val)&&decide (n.val≤90))||(decide (97≤n.val)&&decide (n.val≤122))):=by decide+kernel
 exact h ⟨c.toNat,c.toNat_lt⟩
theorem MS (c:UInt8):ak 0 (wo [45,43,47,46] ((c.toNat:Nat):Int))=(c==45||c==43||c==47||c==46):=by
 have h: ∀n:Fin 256,ak 0 (wo [45,43,47,46] ((n.val:Nat):Int))=(UInt8.ofNat n==45||UInt8.ofNat n==43||UInt8.ofNat n==47||UInt8.ofNat n==46):=by decide+kernel
 have:=h ⟨c.toNat,c.toNat_lt⟩;simpa using this
theorem GG (c d:UInt8):ieq ((c.toNat:Nat):Int) ((d.toNat:Nat):Int)=(c==d):=by
 rw[Bool.eq_iff_iff,aH,beq_iff_eq,←UInt8.toNat_inj];omega
theorem Ah (c:UInt8) (a:Nat):ak (a:Int) ((c.toNat:Nat):Int)=decide (a≤c.toNat):=by
 rw[Bool.eq_iff_iff,aA,decide_eq_true_eq];omega
theorem u6 (c:UInt8) (a:Nat):ak ((c.toNat:Nat):Int) (a:Int)=decide (c.toNat≤a):=by
 rw[Bool.eq_iff_iff,aA,decide_eq_true_eq];omega
theorem Tq (s:List UInt8) (x2:Int) (F n k:Nat) (hk:k<s.length) (hs:s.length≤64):qN F [] (n+1) s x2 (aZ s) (ax (aZ s)) (k:Int) some=
  if I7 k (s[k])=true then qN F [] n s x2 (aZ s) (ax (aZ s)) ((k+1:Nat):Int) some else some (.int .i64 10):=by
 have hl:(aZ s).length=s.length:=by unfold aZ;rw[List.length_map]
 have e:asInt (aD (aY (aZ s) (k:Int)) 0)=((s[k].toNat:Nat):Int):=by
  rw[uz];unfold aZ;rw[List.getD_eq_getElem?_getD,List.getElem?_map,List.getElem?_eq_getElem hk];rfl
 have e95:ieq ((s[k].toNat:Nat):Int) 95=(s[k]==95):=GG s[k] 95;have e48:ak 48 ((s[k].toNat:Nat):Int)=decide (48≤s[k].toNat):=Ah s[k] 48;have e57:ak ((s[k].toNat:Nat):Int) 57=decide (s[k].toNat≤57):=u6 s[k] 57;have e0:aK 0 (k:Int)=decide (0<k):=by rw[Bool.eq_iff_iff,aU,decide_eq_true_eq];omega
 have hL:=vD s[k]
 (rw[zD];(conv=>zeta);rw[aj (bq (by rw[aI,hl];omega)),aj (by rw[aC,aA,aU,aI,hl];omega),e,e95,e48,e57,e0,MS,dh (by omega),show(k:Int)+1=((k+1:Nat):Int) by omega])
 unfold I7 YP YQ;rw[←hL];generalize qN F [] n s x2 (aZ s) (ax (aZ s)) ((k+1:Nat):Int) some=N;generalize ak 97 (jW .or .u8 ((s[k].toNat:Nat):Int) 32)=b1;generalize ak (jW .or .u8 ((s[k].toNat:Nat):Int) 32) 122=b2;generalize (s[k]==95)=b3;generalize decide (0<k)=b4;generalize decide (48≤s[k].toNat)=b5;generalize decide (s[k].toNat≤57)=b6;generalize (s[k]==45)=b7;generalize (s[k]==43)=b8;generalize (s[k]==47)=b9;generalize (s[k]==46)=b10
 cases b1<;>cases b2<;>cases b3<;>cases b4<;>cases b5<;>cases b6<;>cases b7<;>cases b8<;>cases b9<;>cases b10<;>rfl
theorem Tt (s:List UInt8) (x2:Int) (F:Nat) (hs:s.length≤64): ∀(n k:Nat),k≤s.length→s.length-k<n→
  qN F [] n s x2 (aZ s) (ax (aZ s)) (k:Int) some=some (.int .i64 (if Cz k (s.drop k)=true then(if s=[] then 10 else 0) else 10)):=by
 intro n;induction n with
 |zero=>intro k _ h;omega
 |succ n ih=>
  intro k hk hn;by_cases h:k<s.length
  ·rw[Tq s x2 F n k h hs,List.drop_eq_getElem_cons h]
   show _=some (V.int .i64 (if(I7 k s[k]&&Cz (k+1) (s.drop (k+1)))=true then _ else _))
   cases hc:I7 k s[k] with
   |true=>rw[if_pos rfl,ih (k+1) (by omega) (by omega),Bool.true_and]
   |false=>rw[if_neg (by decide),Bool.false_and,if_neg (by decide)]
  ·have hl:(aZ s).length=s.length:=by unfold aZ;rw[List.length_map]
   (rw[zD];(conv=>zeta);rw[aG (bu (by rw[aI,hl];omega)),List.drop_of_length_le (by omega),if_pos (show Cz k []=true from rfl),bI])
   by_cases h0:s=[]
   ·rw[if_pos (by rw[dH];exact h0),if_pos h0]
   ·rw[if_neg (by rw[dH];exact h0),if_neg h0]
theorem GH (s:List UInt8):(if Cz 0 s=true then(if s=[] then(10:Int) else 0) else 10)=if Cz 0 s=true∧s≠[] then 0 else 10:=by
 by_cases h:Cz 0 s=true
 ·rw[if_pos h]
  by_cases h0:s=[]
  ·rw[if_pos h0,if_neg (fun e=>e.2 h0)]
  ·rw[if_neg h0,if_pos ⟨h,h0⟩]
 ·rw[if_neg h,if_neg (fun e=>h e.1)]
theorem abd (s:List UInt8) (hs:s.length≤1000):af zE 54 [.str s] (.int .i64 (gW s)):=by
 refine ai zw GD 100 2 ?_;rw[WM];unfold gW;by_cases h:64<s.length
 ·rw[aj (bq (by rw[au];omega)),if_pos h]
 ·rw[aG (bu (by rw[au];omega)),if_neg h,aj (by rw[Dt];omega)]
  have:=Tt s 0 100 (by omega) 100 0 (by omega) (by omega);rw[List.drop_zero,GH] at this;exact this
theorem MU (f:Bool→Option V) (c a b:Bool):sel c (f a) (f b)=f (sel c a b):=by cases c<;>rfl
theorem AP (s:List UInt8) (x2:Int) (F n k:Nat) (hk:k<s.length) (hs:s.length≤64):lK F [] (n+1) s x2 (k:Int) some=
  if I7 k (s[k])=true then lK F [] n s x2 ((k+1:Nat):Int) some else some (.int .i64 10):=by
 have e:sat s (k:Int)=((s[k].toNat:Nat):Int):=by
  rw[mg,List.getD_eq_getElem?_getD,List.getElem?_eq_getElem hk];rfl
 have hb:av (ak 0 (k:Int)) (aK (k:Int) (ah s))=true:=by rw[aC,aA,aU,au];omega
 have hz:ieq (k:Int) 0= !decide (0<k):=by
  rw[Bool.eq_iff_iff,aH,Bool.not_eq_true',decide_eq_false_iff_not];omega
 (rw[vL];(conv=>zeta);rw[aj (bq (by rw[au];omega)),aj hb,e,dh (by omega),show(k:Int)+1=((k+1:Nat):Int) by omega,hz])
 unfold I7;generalize lK F [] n s x2 ((k+1:Nat):Int) some=N;generalize some (V.int .i64 10)=X;obtain⟨f,h1,h2⟩: ∃f:Bool→Option V,f true=N∧f false=X:=⟨fun b=>sel b N X,rfl,rfl⟩
 subst h1;subst h2;have hr: ∀b:Bool,(if b=true then f true else f false)=f b:=fun b=>by cases b<;>rfl
 rw[hr];simp only[MU f];congr 1
 generalize decide (0<k)=z;generalize s[k]=c;clear hz e hb hr;obtain⟨⟨m⟩⟩:=c;revert m z;decide+kernel
theorem AQ (s:List UInt8) (x2:Int) (F:Nat) (hs:s.length≤64): ∀(n k:Nat),k≤s.length→s.length-k<n→
  lK F [] n s x2 (k:Int) some=some (.int .i64 (if Cz k (s.drop k)=true then(if s=[] then 10 else 0) else 10)):=by
 intro n;induction n with
 |zero=>intro k _ h;omega
 |succ n ih=>
  intro k hk hn;by_cases h:k<s.length
  ·rw[AP s x2 F n k h hs,List.drop_eq_getElem_cons h]
   show _=some (V.int .i64 (if(I7 k s[k]&&Cz (k+1) (s.drop (k+1)))=true then _ else _))
   cases hc:I7 k s[k] with
   |true=>rw[if_pos rfl,ih (k+1) (by omega) (by omega),Bool.true_and]
   |false=>rw[if_neg (by decide),Bool.false_and,if_neg (by decide)]
  ·(rw[vL];(conv=>zeta);rw[aG (bu (by rw[au];omega)),List.drop_of_length_le (by omega),if_pos (show Cz k []=true from rfl),bI])
   by_cases h0:s=[]
   ·rw[if_pos (by rw[dH];exact h0),if_pos h0]
   ·rw[if_neg (by rw[dH];exact h0),if_neg h0]
theorem Hr (s:List UInt8) (hs:s.length≤1000):af zE 40 [.str s] (.int .i64 (gW s)):=by
 refine ai zw GD 100 2 ?_;rw[QH];unfold gW;by_cases h:64<s.length
 ·rw[aj (bq (by rw[au];omega)),if_pos h]
 ·rw[aG (bu (by rw[au];omega)),if_neg h]
  have:=AQ s 0 100 (by omega) 100 0 (by omega) (by omega);rw[List.drop_zero,GH] at this;exact this
theorem K4 (s:List UInt8) (hc:ak (ah s) 1000=true):af zE 54 [.str s] (.int .i64 (gW s)):=abd s (len_z hc)
theorem je (s:List UInt8) (hc:ak (ah s) 1000=true):af zE 40 [.str s] (.int .i64 (gW s)):=Hr s (len_z hc)
theorem U0 (k w d m y:Int) (hy:um y=false):sel (Rb k w d) (sel (ak 1 m) (sel (ak m 12) (some (V.bool (ak d (pu y m)))) (some (V.bool false))) (some (V.bool false))) (some (V.bool false))=some (.bool (zf k w d m)):=by
 have e:pu y m=pu 1 m:=by unfold pu;rw[hy];rfl
 rw[e];unfold zf;have e2:decide (1≤m∧m≤12∧d≤pu 1 m)=(ak 1 m&&(ak m 12&&ak d (pu 1 m))):=by
  rw[Bool.eq_iff_iff,Bool.and_eq_true,Bool.and_eq_true,aA,aA,aA,decide_eq_true_eq]
 rw[e2];generalize ak d (pu 1 m)=x
 cases Rb k w d<;>cases ak 1 m<;>cases ak m 12<;>rfl
theorem K5 (k w d m:Int) (hc:true=true):af zE 118 [.agg [.int .i64 k,.int .i64 w,.int .i64 d],.int .i64 m] (.bool (zf k w d m)):=by
 refine ai zw GD 5 3 ?_
 (rw[WN];(conv=>zeta))
 exact U0 k w d m 1 (by decide)
theorem jf (k w d m:Int) (hc:true=true):af zE 93 [.agg [.int .i64 k,.int .i64 w,.int .i64 d],.int .i64 m] (.bool (zf k w d m)):=by
 refine ai zw GD 5 3 ?_
 (rw[Tj];(conv=>zeta))
 exact U0 k w d m 2001 (by decide)
theorem WQ (s:List UInt8) (hc:ak (ah s) 900=true):af zE 113 [.str s] (.tup [.int .i64 (y5 s),.int .i64 (EX s)]):=toZy (abe s (by have:=kF hc;omega))
theorem oZ (s:List UInt8) (hc:ak (ah s) 900=true):af zE 61 [.str s] (.tup [.int .i64 (y5 s),.int .i64 (EX s)]):=toZy (abf s (by have:=kF hc;omega))
theorem zToS_ok (s:List UInt8) (n:Int) (hc:ak (ah s) 900=true):af zE 114 [.str s,.int .i64 n] (.tup [.int .i64 (ytI s n),.int .i64 (Lm s n)]):=toZy (yTo_ev s n (by have:=kF hc;omega))
theorem tH (s:List UInt8) (n:Int) (hc:ak (ah s) 900=true):af zE 62 [.str s,.int .i64 n] (.tup [.int .i64 (ytI s n),.int .i64 (Lm s n)]):=toZy (rTo_ev s n (by have:=kF hc;omega))
theorem Pb (s:List UInt8) (hc:ak (ah s) 900=true):af zE 115 [.str s] (.tup [.int .i64 (kG s),.int .i64 (ku s)]):=toZm (WK s (by have:=kF hc;omega))
theorem jg (s:List UInt8) (hc:ak (ah s) 900=true):af zE 63 [.str s] (.tup [.int .i64 (kG s),.int .i64 (ku s)]):=toZm (WL s (by have:=kF hc;omega))
theorem Pf (s:List UInt8) (hc:ak (ah s) 900=true):af zE 117 [.str s] (.tup [.agg [.int .i64 (tX s),.int .i64 (iB s),.int .i64 (tY s)],.int .i64 (uQ s)]):=toZw (aa9 s (kF hc))
theorem jv (s:List UInt8) (hc:ak (ah s) 900=true):af zE 92 [.str s] (.tup [.agg [.int .i64 (tX s),.int .i64 (iB s),.int .i64 (tY s)],.int .i64 (uQ s)]):=toZw (Tf s (kF hc))
theorem Pg (s:List UInt8) (hc:ak (ah s) 900=true):af zE 120 [.str s] (.tup [.agg [.int .i64 (Vr s),.int .i64 (Vs s)],.int .i64 (xZ s)]):=YR (abg s (by have:=kF hc;omega))
theorem jw (s:List UInt8) (hc:ak (ah s) 900=true):af zE 65 [.str s] (.tup [.agg [.int .i64 (Vr s),.int .i64 (Vs s)],.int .i64 (xZ s)]):=YR (Tv s (by have:=kF hc;omega))
theorem Ph (s:List UInt8) (hc:ak (ah s) 900=true):af zE 104 [.str s] (.tup [.int .i64 (dK s),.int .i64 (ig s)]):=YR (Pj s (by have:=kF hc;omega))
theorem jy (s:List UInt8) (hc:ak (ah s) 900=true):af zE 56 [.str s] (.tup [.int .i64 (dK s),.int .i64 (ig s)]):=YR (Pk s (by have:=kF hc;omega))
theorem abh (s:List UInt8) (hc:ak (ah s) 900=true):af zE 123 [.str s] (.tup [.str (T9 s),.int .i64 (EY s)]):=toZf (Tw s (bA (by have:=kF hc;rw[au];omega)))
theorem oJ (s:List UInt8) (hc:ak (ah s) 900=true):af zE 67 [.str s] (.tup [.str (T9 s),.int .i64 (EY s)]):=toZf (mJ s (bA (by have:=kF hc;rw[au];omega)))
theorem U1 (n b:Int) (hc:true=true):af zE 156 [.agg [.int .i64 n,.int .i64 b]] (.bool (Mc n b)):=YR (WR n b)
theorem Ur:bF zE zS:=by
 unfold zS;refine bF.cons (fun args r h=>?_) (bF.cons (fun args r h=>?_) (bF.cons (fun args r h=>?_) (bF.cons (fun args r h=>?_) (bF.cons (fun args r h=>?_) (bF.cons (fun args r h=>?_) (bF.cons (fun args r h=>?_) (bF.cons (fun args r h=>?_) (bF.cons (fun args r h=>?_) (bF.cons (fun args r h=>?_) (bF.cons (fun args r h=>?_) (bF.cons (fun args r h=>?_) (bF.cons (fun args r h=>?_) (bF.cons (fun args r h=>?_) (bF.cons (fun args r h=>?_) (bF.cons (fun args r h=>?_) (bF.cons (fun args r h=>?_) (bF.cons (fun args r h=>?_) (bF.cons (fun args r h=>?_) GD))))))))))))))))));all_goals (revert h;intro h;first|unfold CU at h|unfold CV at h|unfold RZ at h|unfold zToS at h|unfold J3 at h|unfold J4 at h|unfold J5 at h|unfold J6 at h|unfold Zk at h|unfold zCrS at h)
 all_goals (split at h;rotate_left; · cases h)
 all_goals (simp only[Option.some.injEq,Prod.mk.injEq] at h;obtain⟨hc,rfl⟩:=h)
 ·exact K4 _ hc
 ·exact je _ hc
 ·exact K5 _ _ _ _ rfl
 ·exact jf _ _ _ _ rfl
 ·exact WQ _ hc
 ·exact oZ _ hc
 ·exact zToS_ok _ _ hc
 ·exact tH _ _ hc
 ·exact Pb _ hc
 ·exact jg _ hc
 ·exact Pf _ hc
 ·exact jv _ hc
 ·exact Pg _ hc
 ·exact jw _ hc
 ·exact Ph _ hc
 ·exact jy _ hc
 ·exact abh _ hc
 ·exact oJ _ hc
 ·exact U1 _ _ rfl
theorem U2 (s:List UInt8) (m:Int) (hc:ak (ah s) 900=true):af zE 64 [.str s,.int .i64 m] (.tup [.agg [.int .i64 (QX s m),.int .i64 (QY s m),.int .i64 (QZ s m)],.int .i64 (NK s m)]):=by
 refine ai zw Ur 5 2 ?_
 (rw[Tm];(conv=>zeta);rw[aj hc])
 unfold QX QY QZ NK odP;by_cases h:uQ s=0
 ·rw[aj (aR h),if_pos h]
  cases zf (tX s) (iB s) (tY s) m with
  |true=>rw[h];rfl
  |false=>rfl
 ·rw[aG (bf h),if_neg h]
theorem U3 (s:List UInt8) (hc:ak (ah s) 900=true):af zE 66 [.str s] (.tup [.int .i64 (Rc s),.int .i64 (Re s)]):=by
 refine ai zw Ur 5 2 ?_
 (rw[QI];(conv=>zeta);rw[aj hc])
 unfold Rc Re svP;by_cases h:ig s=0
 ·rw[aj (aR h),if_pos h]
  by_cases h1:dK s< -10800
  ·rw[aj (bq h1),if_pos (show dK s< -10800∨10800<dK s from .inl h1)]
  ·rw[aG (bu (by omega))]
   by_cases h2:10800<dK s
   ·rw[aj (bq h2),if_pos (show dK s< -10800∨10800<dK s from .inr h2)]
   ·rw[aG (bu (by omega)),if_neg (show¬(dK s< -10800∨10800<dK s) by omega),h]
 ·rw[aG (bf h),if_neg h]
theorem R3:bF zE zS1:=by
 unfold zS1;refine bF.cons (fun args r h=>?_) (bF.cons (fun args r h=>?_) Ur);all_goals (revert h;intro h;first|unfold zOdS at h|unfold zSvS at h)
 all_goals (split at h;rotate_left; · cases h)
 all_goals (simp only[Option.some.injEq,Prod.mk.injEq] at h;obtain⟨hc,rfl⟩:=h)
 ·exact U2 _ _ hc
 ·exact U3 _ hc
def rg (xs:List V) (i:Int):List UInt8:=aT (aD (aY xs i) 0)
def sV (v:V):Bool:=match v with| .str s=>ak (ah s) 900|_=>false
def dZ (xs:List V):Bool:=xs.all sV
def NS (xs:List V):Bool:=
 ieq (ax xs) 9&&(ieq (gW (rg xs 0)) 0&&(ieq (EX (rg xs 1)) 0&&(ieq (Lm (rg xs 2) (y5 (rg xs 1))) 0&&(seq (rg xs 3) [45]&&(ieq (ku (rg xs 4)) 0&&(ieq (uQ (rg xs 5)) 0&&(zf (tX (rg xs 5)) (iB (rg xs 5)) (tY (rg xs 5)) (kG (rg xs 4))&&(ieq (xZ (rg xs 6)) 0&&(ieq (ig (rg xs 7)) 0&&(ak (-10800) (dK (rg xs 7))&&(ak (dK (rg xs 7)) 10800&&ieq (EY (rg xs 8)) 0)))))))))))
def rdE (xs:List V):Int:=
 sel (aK (ax xs) 9) 5 (sel (aK 9 (ax xs)) 6 (sel (ieq (gW (rg xs 0)) 0) (sel (ieq (EX (rg xs 1)) 0) (sel (ieq (Lm (rg xs 2) (y5 (rg xs 1))) 0) (sel (seq (rg xs 3) [45]) (sel (ieq (ku (rg xs 4)) 0) (sel (ieq (uQ (rg xs 5)) 0) (sel (zf (tX (rg xs 5)) (iB (rg xs 5)) (tY (rg xs 5)) (kG (rg xs 4))) (sel (ieq (xZ (rg xs 6)) 0) (sel (ieq (ig (rg xs 7)) 0) (sel (ak (-10800) (dK (rg xs 7))) (sel (ak (dK (rg xs 7)) 10800) (EY (rg xs 8)) 1) 1) (ig (rg xs 7))) (xZ (rg xs 6))) 1) (uQ (rg xs 5))) (ku (rg xs 4))) 3) (Lm (rg xs 2) (y5 (rg xs 1)))) (EX (rg xs 1))) (gW (rg xs 0))))
def ru0 (xs:List V):List UInt8:=sel (NS xs) (rg xs 0) []
def ru1 (xs:List V):Int:=sel (NS xs) (y5 (rg xs 1)) 0
def ru2 (xs:List V):Int:=sel (NS xs) (ytI (rg xs 2) (y5 (rg xs 1))) 0
def ru3 (xs:List V):Int:=sel (NS xs) (kG (rg xs 4)) 0
def ru4 (xs:List V):Int:=sel (NS xs) (tX (rg xs 5)) 0
def ru5 (xs:List V):Int:=sel (NS xs) (iB (rg xs 5)) 0
def ru6 (xs:List V):Int:=sel (NS xs) (tY (rg xs 5)) 0
def ru7 (xs:List V):Int:=sel (NS xs) (Vr (rg xs 6)) 0
def ru8 (xs:List V):Int:=sel (NS xs) (Vs (rg xs 6)) 0
def ru9 (xs:List V):Int:=sel (NS xs) (dK (rg xs 7)) 0
def Jf (xs:List V):List UInt8:=sel (NS xs) (T9 (rg xs 8)) []
def NT (xs:List V):Int:=sel (NS xs) 0 (rdE xs)
def rdV (xs:List V):V:=.tup [.agg [.str (ru0 xs),.int .i64 (ru1 xs),.int .i64 (ru2 xs),.int .i64 (ru3 xs),.int .i64 (ru4 xs),.int .i64 (ru5 xs),.int .i64 (ru6 xs),.int .i64 (ru7 xs),.int .i64 (ru8 xs),.int .i64 (ru9 xs),.str (Jf xs)],.int .i64 (NT xs)]
theorem Us (xs:List V) (h:NS xs=false):rdV xs=.tup [.agg [.str [],.int .i64 0,.int .i64 0,.int .i64 0,.int .i64 0,.int .i64 0,.int .i64 0,.int .i64 0,.int .i64 0,.int .i64 0,.str []],.int .i64 (rdE xs)]:=by
 unfold rdV ru0 ru1 ru2 ru3 ru4 ru5 ru6 ru7 ru8 ru9 Jf NT;rw[h];rfl
theorem uL: ∀(xs:List V),dZ xs=true→ ∃l:List (List UInt8),xs=l.map V.str∧ ∀a∈l,ak (ah a) 900=true
 |[],_=>⟨[],rfl,fun a h=>by cases h⟩
 |v::xs,h=>by
  unfold dZ at h;rw[List.all_cons,Bool.and_eq_true] at h;obtain⟨l,e,hl⟩:=uL xs h.2
  cases v with
  |str s=>exact⟨s::l,by rw[e];rfl,fun a ha=>by
   rw[List.mem_cons] at ha;rcases ha with rfl|ha
   ·exact h.1
   ·exact hl a ha⟩
  |_=>exact absurd (show false=true from h.1) (by decide)
theorem nine (xs:List V) (h:dZ xs=true) (hl:xs.length=9): ∃a0 a1 a2 a3 a4 a5 a6 a7 a8:List UInt8,xs=[.str a0,.str a1,.str a2,.str a3,.str a4,.str a5,.str a6,.str a7,.str a8]∧ak (ah a0) 900=true∧ak (ah a1) 900=true∧ak (ah a2) 900=true∧ak (ah a4) 900=true∧ak (ah a5) 900=true∧ak (ah a6) 900=true∧ak (ah a7) 900=true∧ak (ah a8) 900=true:=by
 obtain⟨l,rfl,ha⟩:=uL xs h;rw[List.length_map] at hl;match l,hl,ha with
 |[a0,a1,a2,a3,a4,a5,a6,a7,a8],_,ha=>
  exact⟨a0,a1,a2,a3,a4,a5,a6,a7,a8,rfl,ha _ (by simp),ha _ (by simp),ha _ (by simp),ha _ (by simp),ha _ (by simp),ha _ (by simp),ha _ (by simp),ha _ (by simp)⟩
theorem ZW (v0 v1 v2 v3 v4 v5 v6 v7 v8:V):ax [v0,v1,v2,v3,v4,v5,v6,v7,v8]=9:=rfl
theorem sT {α:Type} (x y:α):sel true x y=x:=rfl
theorem sF {α:Type} (x y:α):sel false x y=y:=rfl
theorem sU {s:List UInt8} (h:ak (ah s) 900=true):ak (ah s) 1000=true:=by rw[aA] at*;omega
theorem Md (xs:List V) (h:ax xs≠9):NS xs=false:=by
 unfold NS;rw[bf h];rfl
theorem abj (xs:List V) (h:dZ xs=true):af zE 53 [.sl 9 [.str] none xs] (rdV xs):=by
 refine ai zw Ur 5 10 ?_;by_cases h1:ax xs<9
 ·(rw[K3];(conv=>zeta);rw[aj (by rw[bE,aA];omega),Us xs (Md xs (by omega))])
  unfold rdE;rw[bq h1];rfl
 ·by_cases h2:9<ax xs
  ·(rw[K3];(conv=>zeta);rw[aG (by rw[bA (by omega)];rfl),aj (by rw[bE,aA];omega),Us xs (Md xs (by omega))])
   unfold rdE;rw[bu (by omega),bq h2];rfl
  ·obtain⟨a0,a1,a2,a3,a4,a5,a6,a7,a8,rfl,c0,c1,c2,c4,c5,c6,c7,c8⟩:=nine xs h (by unfold ax at h1 h2;omega)
   (rw[Tk];(conv=>zeta))
   have g0:NS [.str a0,.str a1,.str a2,.str a3,.str a4,.str a5,.str a6,.str a7,.str a8]=(ieq (gW a0) 0&&(ieq (EX a1) 0&&(ieq (Lm a2 (y5 a1)) 0&&(seq a3 [45]&&(ieq (ku a4) 0&&(ieq (uQ a5) 0&&(zf (tX a5) (iB a5) (tY a5) (kG a4)&&(ieq (xZ a6) 0&&(ieq (ig a7) 0&&(ak (-10800) (dK a7)&&(ak (dK a7) 10800&&ieq (EY a8) 0))))))))))):=rfl;have g1:rdE [.str a0,.str a1,.str a2,.str a3,.str a4,.str a5,.str a6,.str a7,.str a8]=sel (ieq (gW a0) 0) (sel (ieq (EX a1) 0) (sel (ieq (Lm a2 (y5 a1)) 0) (sel (seq a3 [45]) (sel (ieq (ku a4) 0) (sel (ieq (uQ a5) 0) (sel (zf (tX a5) (iB a5) (tY a5) (kG a4)) (sel (ieq (xZ a6) 0) (sel (ieq (ig a7) 0) (sel (ak (-10800) (dK a7)) (sel (ak (dK a7) 10800) (EY a8) 1) 1) (ig a7)) (xZ a6)) 1) (uQ a5)) (ku a4)) 3) (Lm a2 (y5 a1))) (EX a1)) (gW a0):=rfl;have k0:rg [.str a0,.str a1,.str a2,.str a3,.str a4,.str a5,.str a6,.str a7,.str a8] 0=a0:=rfl;have k1:rg [.str a0,.str a1,.str a2,.str a3,.str a4,.str a5,.str a6,.str a7,.str a8] 1=a1:=rfl;have k2:rg [.str a0,.str a1,.str a2,.str a3,.str a4,.str a5,.str a6,.str a7,.str a8] 2=a2:=rfl;have k4:rg [.str a0,.str a1,.str a2,.str a3,.str a4,.str a5,.str a6,.str a7,.str a8] 4=a4:=rfl;have k5:rg [.str a0,.str a1,.str a2,.str a3,.str a4,.str a5,.str a6,.str a7,.str a8] 5=a5:=rfl;have k6:rg [.str a0,.str a1,.str a2,.str a3,.str a4,.str a5,.str a6,.str a7,.str a8] 6=a6:=rfl;have k7:rg [.str a0,.str a1,.str a2,.str a3,.str a4,.str a5,.str a6,.str a7,.str a8] 7=a7:=rfl
   have k8:rg [.str a0,.str a1,.str a2,.str a3,.str a4,.str a5,.str a6,.str a7,.str a8] 8=a8:=rfl;unfold rdV ru0 ru1 ru2 ru3 ru4 ru5 ru6 ru7 ru8 ru9 Jf NT;rw[g0,g1,k0,k1,k2,k4,k5,k6,k7,k8];simp only[ZW,sU c0,c1,c2,c4,c5,c6,c7,c8,sT];show sel (aB (ieq (gW a0) 0)) _ (sel (aB (ieq (EX a1) 0)) _ _)=_
   cases ieq (gW a0) 0 with
   |false=>rfl
   |true=>
   cases ieq (EX a1) 0 with
   |false=>rfl
   |true=>
   cases ieq (Lm a2 (y5 a1)) 0 with
   |false=>rfl
   |true=>
   cases seq a3 [45] with
   |false=>rfl
   |true=>
   cases ieq (ku a4) 0 with
   |false=>rfl
   |true=>
   cases ieq (uQ a5) 0 with
   |false=>rfl
   |true=>
   cases zf (tX a5) (iB a5) (tY a5) (kG a4) with
   |false=>rfl
   |true=>
   cases ieq (xZ a6) 0 with
   |false=>rfl
   |true=>
   cases ieq (ig a7) 0 with
   |false=>rfl
   |true=>
   cases ak (-10800) (dK a7) with
   |false=>rfl
   |true=>
   cases ak (dK a7) 10800 with
   |false=>rfl
   |true=>
   cases ieq (EY a8) 0 with
   |false=>rfl
   |true=>rfl
theorem jE (s:List UInt8) (m:Int):NK s m=sel (ieq (uQ s) 0) (sel (zf (tX s) (iB s) (tY s) m) 0 1) (uQ s):=by
 unfold NK odP;rw[bI,bI];by_cases h:uQ s=0
 ·rw[if_pos h,if_pos (aR h)]
  by_cases h2:zf (tX s) (iB s) (tY s) m=true
  ·rw[if_pos h2,if_pos h2]
  ·rw[if_neg h2,if_neg h2]
 ·rw[if_neg h,if_neg (by rw[aH];exact h)]
theorem abk (s:List UInt8) (m:Int) (h:ieq (uQ s) 0=true) (h2:zf (tX s) (iB s) (tY s) m=true):QX s m=tX s∧QY s m=iB s∧QZ s m=tY s:=by
 unfold QX QY QZ odP;rw[if_pos (by rw[aH] at h;exact h),if_pos h2];exact⟨rfl,rfl,rfl⟩
theorem gX (s:List UInt8):Re s=sel (ieq (ig s) 0) (sel (ak (-10800) (dK s)) (sel (ak (dK s) 10800) 0 1) 1) (ig s):=by
 unfold Re svP;simp only[bI,aH,aA];by_cases h:ig s=0
 ·rw[if_pos h,if_pos h]
  by_cases h1: -10800≤dK s
  ·rw[if_pos h1]
   by_cases h2:dK s≤10800
   ·rw[if_pos h2,if_neg (by omega)]
   ·rw[if_neg h2,if_pos (by omega)]
  ·rw[if_neg h1,if_pos (by omega)]
 ·rw[if_neg h,if_neg h]
theorem abl (s:List UInt8) (h:ieq (ig s) 0=true) (h1:ak (-10800) (dK s)=true) (h2:ak (dK s) 10800=true):Rc s=dK s:=by
 rw[aH] at h;rw[aA] at h1 h2;unfold Rc svP;rw[if_pos h,if_neg (by omega)]
theorem i_01:bP .i64 0 1=1:=by decide
theorem i_12:bP .i64 1 1=2:=by decide
theorem i_23:bP .i64 2 1=3:=by decide
theorem i_34:bP .i64 3 1=4:=by decide
theorem i_45:bP .i64 4 1=5:=by decide
theorem i_56:bP .i64 5 1=6:=by decide
theorem i_67:bP .i64 6 1=7:=by decide
theorem i_78:bP .i64 7 1=8:=by decide
theorem i_89:bP .i64 8 1=9:=by decide
def zZ:List V:=[.str [],.int .i64 0,.int .i64 0,.int .i64 0,.int .i64 0,.int .i64 0,.int .i64 0,.int .i64 0,.int .i64 0,.int .i64 0,.str []]
def zT (e:Int):Option V:=some (.tup [.agg zZ,.int .i64 e])
def mY:List Int→Option V→Option V
 |[],x=>x
 |e::l,x=>sel (aB (ieq e 0)) (zT e) (mY l x)
theorem WS (a0 a1 a2 a3 a4 a5 a6 a7 a8:List UInt8) (x3 x4 x5 x6 x7 x9 x10 tT vU Cv uR:Int) (rQ:List UInt8) (x18 e0 e1 e2 e3 e4 e5 e6 e7 e8 kM kN kP kQ kS:Int) (eX:List UInt8) (dV fU wu wB wC wD wF wG wH:Int) (om:List UInt8):
  sI 12 [] 12 [.str a0,.str a1,.str a2,.str a3,.str a4,.str a5,.str a6,.str a7,.str a8] x3 x4 x5 x6 x7 x9 x10 tT vU Cv uR rQ x18 [.int .i64 e0,.int .i64 e1,.int .i64 e2,.int .i64 e3,.int .i64 e4,.int .i64 e5,.int .i64 e6,.int .i64 e7,.int .i64 e8] 9 0 kM kN kP kQ kS eX dV fU wu wB wC wD wF wG wH om some=
  mY [e0,e1,e2,e3,e4,e5,e6,e7,e8] (some (.tup [.agg [.str a0,.int .i64 x4,.int .i64 x6,.int .i64 x9,.int .i64 kP,.int .i64 kQ,.int .i64 kS,.int .i64 kM,.int .i64 kN,.int .i64 Cv,.str rQ],.int .i64 0])):=by
 (rw[dx];(conv=>zeta);rw[aj (by decide:aK 0 9=true),aj (show av (ak 0 0) (aK 0 (ax _))=true from rfl),i_01])
 (rw[dx];(conv=>zeta);rw[aj (by decide:aK 1 9=true),aj (show av (ak 0 1) (aK 1 (ax _))=true from rfl),i_12])
 (rw[dx];(conv=>zeta);rw[aj (by decide:aK 2 9=true),aj (show av (ak 0 2) (aK 2 (ax _))=true from rfl),i_23])
 (rw[dx];(conv=>zeta);rw[aj (by decide:aK 3 9=true),aj (show av (ak 0 3) (aK 3 (ax _))=true from rfl),i_34])
 (rw[dx];(conv=>zeta);rw[aj (by decide:aK 4 9=true),aj (show av (ak 0 4) (aK 4 (ax _))=true from rfl),i_45])
 (rw[dx];(conv=>zeta);rw[aj (by decide:aK 5 9=true),aj (show av (ak 0 5) (aK 5 (ax _))=true from rfl),i_56])
 (rw[dx];(conv=>zeta);rw[aj (by decide:aK 6 9=true),aj (show av (ak 0 6) (aK 6 (ax _))=true from rfl),i_67])
 (rw[dx];(conv=>zeta);rw[aj (by decide:aK 7 9=true),aj (show av (ak 0 7) (aK 7 (ax _))=true from rfl),i_78])
 (rw[dx];(conv=>zeta);rw[aj (by decide:aK 8 9=true),aj (show av (ak 0 8) (aK 8 (ax _))=true from rfl),i_89])
 (rw[dx];(conv=>zeta);rw[aG (by decide:aK 9 9=false),aj (show av (ak 0 0) (aK 0 (ax _))=true from rfl)])
 rfl
theorem WT (a0 a1 a2 a3 a4 a5 a6 a7 a8:List UInt8) (x3 x4 x5 x6 x7 x9 x10 tT vU Cv uR:Int) (rQ:List UInt8) (x18 e0 e1 e2 e3 e4 e5 e6 e7 e8 kM kN kP kQ kS:Int) (eX:List UInt8) (dV fU wu wB wC wD wF wG wH:Int) (om:List UInt8):
  sJ 12 [] 12 [.str a0,.str a1,.str a2,.str a3,.str a4,.str a5,.str a6,.str a7,.str a8] x3 x4 x5 x6 x7 x9 x10 tT vU Cv uR rQ x18 [.int .i64 e0,.int .i64 e1,.int .i64 e2,.int .i64 e3,.int .i64 e4,.int .i64 e5,.int .i64 e6,.int .i64 e7,.int .i64 e8] 9 0 kM kN kP kQ kS eX dV fU wu wB wC wD wF wG wH om some=
  mY [e0,e1,e2,e3,e4,e5,e6,e7,e8] (some (.tup [.agg [.str a0,.int .i64 x4,.int .i64 x6,.int .i64 x9,.int .i64 kP,.int .i64 kQ,.int .i64 kS,.int .i64 kM,.int .i64 kN,.int .i64 Cv,.str rQ],.int .i64 0])):=by
 (rw[dA];(conv=>zeta);rw[aj (by decide:aK 0 9=true),aj (show av (ak 0 0) (aK 0 (ax _))=true from rfl),i_01])
 (rw[dA];(conv=>zeta);rw[aj (by decide:aK 1 9=true),aj (show av (ak 0 1) (aK 1 (ax _))=true from rfl),i_12])
 (rw[dA];(conv=>zeta);rw[aj (by decide:aK 2 9=true),aj (show av (ak 0 2) (aK 2 (ax _))=true from rfl),i_23])
 (rw[dA];(conv=>zeta);rw[aj (by decide:aK 3 9=true),aj (show av (ak 0 3) (aK 3 (ax _))=true from rfl),i_34])
 (rw[dA];(conv=>zeta);rw[aj (by decide:aK 4 9=true),aj (show av (ak 0 4) (aK 4 (ax _))=true from rfl),i_45])
 (rw[dA];(conv=>zeta);rw[aj (by decide:aK 5 9=true),aj (show av (ak 0 5) (aK 5 (ax _))=true from rfl),i_56])
 (rw[dA];(conv=>zeta);rw[aj (by decide:aK 6 9=true),aj (show av (ak 0 6) (aK 6 (ax _))=true from rfl),i_67])
 (rw[dA];(conv=>zeta);rw[aj (by decide:aK 7 9=true),aj (show av (ak 0 7) (aK 7 (ax _))=true from rfl),i_78])
 (rw[dA];(conv=>zeta);rw[aj (by decide:aK 8 9=true),aj (show av (ak 0 8) (aK 8 (ax _))=true from rfl),i_89])
 (rw[dA];(conv=>zeta);rw[aG (by decide:aK 9 9=false),aj (show av (ak 0 0) (aK 0 (ax _))=true from rfl)])
 rfl
theorem Tx (xs:List V) (h:dZ xs=true):af zE 39 [.sl 9 [.str] none xs] (rdV xs):=by
 by_cases h1:ax xs<9
 ·refine ai zw R3 5 2 ?_
  (rw[EG];(conv=>zeta);rw[aj (bq h1),Us xs (Md xs (by omega))])
  unfold rdE;rw[bq h1];rfl
 ·by_cases h2:9<ax xs
  ·refine ai zw R3 5 2 ?_
   (rw[EG];(conv=>zeta);rw[aG (bu (by omega)),aj (bq h2),Us xs (Md xs (by omega))])
   unfold rdE;rw[bu (by omega),bq h2];rfl
  ·obtain⟨a0,a1,a2,a3,a4,a5,a6,a7,a8,rfl,c0,c1,c2,c4,c5,c6,c7,c8⟩:=nine xs h (by unfold ax at h1 h2;omega)
   refine ai zw R3 12 2 ?_
   (rw[Nv];(conv=>zeta))
   have g0:NS [.str a0,.str a1,.str a2,.str a3,.str a4,.str a5,.str a6,.str a7,.str a8]=(ieq (gW a0) 0&&(ieq (EX a1) 0&&(ieq (Lm a2 (y5 a1)) 0&&(seq a3 [45]&&(ieq (ku a4) 0&&(ieq (uQ a5) 0&&(zf (tX a5) (iB a5) (tY a5) (kG a4)&&(ieq (xZ a6) 0&&(ieq (ig a7) 0&&(ak (-10800) (dK a7)&&(ak (dK a7) 10800&&ieq (EY a8) 0))))))))))):=rfl;have g1:rdE [.str a0,.str a1,.str a2,.str a3,.str a4,.str a5,.str a6,.str a7,.str a8]=sel (ieq (gW a0) 0) (sel (ieq (EX a1) 0) (sel (ieq (Lm a2 (y5 a1)) 0) (sel (seq a3 [45]) (sel (ieq (ku a4) 0) (sel (ieq (uQ a5) 0) (sel (zf (tX a5) (iB a5) (tY a5) (kG a4)) (sel (ieq (xZ a6) 0) (sel (ieq (ig a7) 0) (sel (ak (-10800) (dK a7)) (sel (ak (dK a7) 10800) (EY a8) 1) 1) (ig a7)) (xZ a6)) 1) (uQ a5)) (ku a4)) 3) (Lm a2 (y5 a1))) (EX a1)) (gW a0):=rfl;have k0:rg [.str a0,.str a1,.str a2,.str a3,.str a4,.str a5,.str a6,.str a7,.str a8] 0=a0:=rfl;have k1:rg [.str a0,.str a1,.str a2,.str a3,.str a4,.str a5,.str a6,.str a7,.str a8] 1=a1:=rfl;have k2:rg [.str a0,.str a1,.str a2,.str a3,.str a4,.str a5,.str a6,.str a7,.str a8] 2=a2:=rfl;have k4:rg [.str a0,.str a1,.str a2,.str a3,.str a4,.str a5,.str a6,.str a7,.str a8] 4=a4:=rfl;have k5:rg [.str a0,.str a1,.str a2,.str a3,.str a4,.str a5,.str a6,.str a7,.str a8] 5=a5:=rfl;have k6:rg [.str a0,.str a1,.str a2,.str a3,.str a4,.str a5,.str a6,.str a7,.str a8] 6=a6:=rfl;have k7:rg [.str a0,.str a1,.str a2,.str a3,.str a4,.str a5,.str a6,.str a7,.str a8] 7=a7:=rfl
   have k8:rg [.str a0,.str a1,.str a2,.str a3,.str a4,.str a5,.str a6,.str a7,.str a8] 8=a8:=rfl;unfold rdV ru0 ru1 ru2 ru3 ru4 ru5 ru6 ru7 ru8 ru9 Jf NT;rw[g0,g1,k0,k1,k2,k4,k5,k6,k7,k8];simp only[ZW,sU c0,c1,c2,c4,c5,c6,c7,c8,sT,show aK 9 9=false from rfl,sF];rw[WS,WT];have oc:=abk a5 (kG a4);have sc:=abl a7;rw[jE,gX];unfold mY mY mY mY mY mY mY mY mY mY
   cases ieq (gW a0) 0 with
   |false=>cases seq a3 [45]<;>rfl
   |true=>
   cases ieq (EX a1) 0 with
   |false=>cases seq a3 [45]<;>rfl
   |true=>
   cases ieq (Lm a2 (y5 a1)) 0 with
   |false=>cases seq a3 [45]<;>rfl
   |true=>
   cases seq a3 [45] with
   |false=>rfl
   |true=>
   cases ieq (ku a4) 0 with
   |false=>rfl
   |true=>
   cases hd:ieq (uQ a5) 0 with
   |false=>rw[sF,hd];rfl
   |true=>
   cases hf:zf (tX a5) (iB a5) (tY a5) (kG a4) with
   |false=>rfl
   |true=>
   obtain⟨o1,o2,o3⟩:=oc hd hf;rw[o1,o2,o3]
   cases ieq (xZ a6) 0 with
   |false=>rfl
   |true=>
   cases ha:ieq (ig a7) 0 with
   |false=>rw[sF,ha];rfl
   |true=>
   cases hb:ak (-10800) (dK a7) with
   |false=>rfl
   |true=>
   cases hc:ak (dK a7) 10800 with
   |false=>rfl
   |true=>
   rw[sc ha hb hc]
   cases ieq (EY a8) 0 with
   |false=>rfl
   |true=>rfl
theorem zRdS_ok (xs:List V) (hc:dZ xs=true):af zE 53 [.sl 9 [.str] none xs] (.tup [.agg [.str (ru0 xs),.int .i64 (ru1 xs),.int .i64 (ru2 xs),.int .i64 (ru3 xs),.int .i64 (ru4 xs),.int .i64 (ru5 xs),.int .i64 (ru6 xs),.int .i64 (ru7 xs),.int .i64 (ru8 xs),.int .i64 (ru9 xs),.str (Jf xs)],.int .i64 (NT xs)]):=abj xs hc
theorem rf (xs:List V) (hc:dZ xs=true):af zE 39 [.sl 9 [.str] none xs] (.tup [.agg [.str (ru0 xs),.int .i64 (ru1 xs),.int .i64 (ru2 xs),.int .i64 (ru3 xs),.int .i64 (ru4 xs),.int .i64 (ru5 xs),.int .i64 (ru6 xs),.int .i64 (ru7 xs),.int .i64 (ru8 xs),.int .i64 (ru9 xs),.str (Jf xs)],.int .i64 (NT xs)]):=Tx xs hc
end Nt.Ev.YtpbgegnlkdfjgaaGreatDoor
