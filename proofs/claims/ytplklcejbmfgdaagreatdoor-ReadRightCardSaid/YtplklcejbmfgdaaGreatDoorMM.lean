/-
  Months: equations of functions, as the evaluator prints them. Words: months, for the evaluator, both sides. Rule: equations of functions, as the evaluator prints them. Rules: what the program's functions and the document's answer. Rules: what is read, and what may be. Rules: there and back, in plain terms. RuleLaw: equations of functions, as the evaluator prints them. Rules: the two statements.
-/
import Derived.Test.YtplklcejbmfgdaaGreatDoorML
import Derived.Test.YtplklcejbmfgdaaGreatDoorMG
import Derived.Test.YtplklcejbmfgdaaGreatDoorMH
import Derived.Test.YtplklcejbmfgdaaGreatDoorMJ
import Derived.Test.YtplklcejbmfgdaaGreatDoorMI
import Derived.Test.YtplklcejbmfgdaaGreatDoorMF
set_option linter.unusedVariables false
set_option linter.unusedSimpArgs false
set_option linter.unusedSectionVars false
namespace Nt.Ev.YtplklcejbmfgdaaGreatDoor
set_option maxRecDepth 100000
open Go Nt.Num Go.Proofs.YtplklcejbmfgdaaGreatDoor
noncomputable def Ka:V:=.rptr [.str,.str,.str,.str,.str,.str,.str,.str,.str,.str,.str,.str] (.agg [.str [74,97,110,117,97,114,121],.str [70,101,98,114,117,97,114,121],.str [77,97,114,99,104],.str [65,112,114,105,108],.str [77,97,121],.str [74,117,110,101],.str [74,117,108,121],.str [65,117,103,117,115,116],.str [83,101,112,116,101,109,98,101,114],.str [79,99,116,111,98,101,114],.str [78,111,118,101,109,98,101,114],.str [68,101,99,101,109,98,101,114]]) 0
noncomputable def mE:Env:=⟨Go.Proofs.Tryz.prog,fun g=>bif g==1 then some Ka else none⟩
noncomputable def Sj:aF:=fun a=>match a with|[.str s,.sl e [.str] o ws]=>some (ak (ai (aj s) 1000) (rX ws),.tup [.int .i64 (nY s ws),.int .i64 (qo s ws)])|_=>none
noncomputable def mS:List (Nat×aF):=(89,Sj)::[]
theorem Qy (F:Nat) (s:List UInt8) (K:V→Option V):
 cr mE (bV mE mS F 2) F 157 [V.str s] K=
 let A:=[V.str [74,97,110,117,97,114,121],V.str [70,101,98,114,117,97,114,121],V.str [77,97,114,99,104],V.str [65,112,114,105,108],V.str [77,97,121],V.str [74,117,110,101],V.str [74,117,108,121],V.str [65,117,103,117,115,116],V.str [83,101,112,116,101,109,98,101,114],V.str [79,99,116,111,98,101,114],V.str [78,111,118,101,109,98,101,114],V.str [68,101,99,101,109,98,101,114]];sel (ak (ai (aj s) 1000) (rX A)) (sel (aG (ieq (qo s A) 0)) (K (V.tup [V.int .i64 0,V.int .i64 (qo s A)])) (K (V.tup [V.int .i64 (fB .i64 (nY s A) 1),V.int .i64 0]))) none:=by kernel_rfl
theorem Qz (F:Nat) (n:Int) (K:V→Option V):
 cr mE (bV mE mS F 2) F 61 [V.int .i64 n] K=
 let A:=[V.str [74,97,110,117,97,114,121],V.str [70,101,98,114,117,97,114,121],V.str [77,97,114,99,104],V.str [65,112,114,105,108],V.str [77,97,121],V.str [74,117,110,101],V.str [74,117,108,121],V.str [65,117,103,117,115,116],V.str [83,101,112,116,101,109,98,101,114],V.str [79,99,116,111,98,101,114],V.str [78,111,118,101,109,98,101,114],V.str [68,101,99,101,109,98,101,114]];let B:=iX .i64 n 1;let D:=K (V.str []);let C:=aR (ax (aP A B) 0);sel (aT n 1) D (sel (aT B 0) D (sel (ai (av A) B) D (sel (ak (ai 0 B) (aT B (av A))) (sel (ak (ai 0 3) (ai 3 (aj C))) (K (V.str (dF C 0 3))) none) none))):=by kernel_rfl
open Go.RowKit Nt
theorem mE_ok:sO mE:=⟨by kernel_rfl,by kernel_rfl⟩
theorem toM {f:Nat} {args:List V} {r:V} (h:af nE f args r):af mE f args r:=af.env (E:=nE) rfl (fun n v h=>by cases h) h
theorem FH (s:List UInt8) (e:Nat) (o:Option Nat) (ws:List V) (hc:ak (ai (aj s) 1000) (rX ws)=true):af mE 89 [.str s,.sl e [.str] o ws] (.tup [.int .i64 (nY s ws),.int .i64 (qo s ws)]):=by
 obtain⟨h1,h2⟩:=aY hc;exact toM (EQ s e o ws (BI h1) h2)
theorem mS_ok:bq mE mS:=by
 unfold mS;refine bq.cons (fun args r h=>?_) bq.nil;all_goals (revert h;intro h;first|unfold Sj at h)
 all_goals (split at h;rotate_left; · cases h)
 all_goals (simp only[Option.some.injEq,Prod.mk.injEq] at h;obtain⟨hc,rfl⟩:=h)
 ·exact FH _ _ _ _ hc
def OB:List V:=[.str [74,97,110,117,97,114,121],.str [70,101,98,114,117,97,114,121],.str [77,97,114,99,104],.str [65,112,114,105,108],.str [77,97,121],.str [74,117,110,101],.str [74,117,108,121],.str [65,117,103,117,115,116],.str [83,101,112,116,101,109,98,101,114],.str [79,99,116,111,98,101,114],.str [78,111,118,101,109,98,101,114],.str [68,101,99,101,109,98,101,114]]
def vD (s:List UInt8):Int:=if qo s OB=0 then nY s OB+1 else 0
def pX (s:List UInt8):Int:=qo s OB
theorem moV_ok:rX OB=true:=by decide
theorem za (s:List UInt8) (ws:List V) (h:ws.length≤1000) (h0:qo s ws=0):0≤nY s ws∧nY s ws<ws.length:=by
 unfold qo at h0;have:=mt_lt ⟨s.toArray⟩ (OA ws) (by omega);unfold nY;rw[show(OA ws).length=ws.length from List.length_map ..] at this;omega
theorem UR (s:List UInt8) (hs:s.length≤1000):af mE 157 [.str s] (.tup [.int .i64 (vD s),.int .i64 (pX s)]):=by
 refine ah mE_ok mS_ok 5 2 ?_;have hc:ak (ai (aj s) 1000) (rX OB)=true:=by rw[aH];exact⟨bF (by rw[aB];omega),moV_ok⟩
 (rw[Qy];(conv=>zeta))
 refine(ay hc).trans ?_;unfold vD pX;by_cases h:qo s OB=0
 ·have:=za s OB (by decide) h
  have e:(OB.length:Int)=12:=rfl;refine(aU (show aG (ieq (qo s OB) 0)=false by rw[bn h];rfl)).trans ?_;rw[if_pos h];show some (V.tup [V.int .i64 (fB .i64 (nY s OB) 1),V.int .i64 _])=_;rw[iO (by omega)];first|rfl|(rw[h];rfl)|(rw[h])
 ·refine(ay (show aG (ieq (qo s OB) 0)=true by rw[cO h];rfl)).trans ?_
  rw[if_neg h];rfl
def moT (n:Int):List UInt8:=if 1≤n∧n≤12 then(aR (OB.getD (n-1).toNat .any)).take 3 else[]
theorem US (n:Int) (hn:Fits n):af mE 61 [.int .i64 n] (.str (moT n)):=by
 refine ah mE_ok mS_ok 5 2 ?_
 (rw[Qz];(conv=>zeta))
 by_cases h:1≤n∧n≤12
 ·obtain rfl|rfl|rfl|rfl|rfl|rfl|rfl|rfl|rfl|rfl|rfl|rfl:n=1∨n=2∨n=3∨n=4∨n=5∨n=6∨n=7∨n=8∨n=9∨n=10∨n=11∨n=12:=by omega
  all_goals rfl
 ·have e:moT n=[]:=by unfold moT;rw[if_neg h]
  rw[e];by_cases h1:n<1
  ·rw[ay (bD h1)]
  ·unfold Fits at hn
   have e1:iX .i64 n 1=n-1:=qY (by omega);rw[aU (bB (by omega)),e1,aU (bB (by omega)),ay (bF (by rw[aD];show(12:Int)≤n-1;omega))]
variable [mJ]
open Nt.Civil
noncomputable def zE:Env:=⟨Go.Proofs.Tryz.prog,fun g=>bif g==2 then some Bd else bif g==1 then some Ka else bif g==4 then some Px else bif g==3 then some (.rptr [.int .i64] (.int .i64 mJ.val) 0) else none⟩
noncomputable def XR:aF:=fun a=>match a with|[.str s,.int .u8 c]=>some (true,.int .i64 (sZ s c))|_=>none
noncomputable def zLenS:aF:=fun a=>match a with|[.int .i64 y,.int .i64 m]=>some (ak (ai (-9223372036854775808) y) (ai y 9223372036854775807),.int .i64 (vI y m))|_=>none
noncomputable def zOnS:aF:=fun a=>match a with|[.agg [.int .i64 k,.int .i64 w,.int .i64 d]]=>some (true,.bool (Ot k w d))|_=>none
noncomputable def zS0:List (Nat×aF):=(43,XR)::(73,zLenS)::(71,zOnS)::[]
def Wy (c:UInt8):Bool:=(decide (65≤c.toNat)&&decide (c.toNat≤90))||(decide (97≤c.toNat)&&decide (c.toNat≤122))||c==95
def Wz (c:UInt8):Bool:=(decide (48≤c.toNat)&&decide (c.toNat≤57))||c==45||c==43||c==47||c==46
def Tg (k:Nat) (c:UInt8):Bool:=Wy c||(decide (0<k)&&Wz c)
def F7:Nat→List UInt8→Bool|_,[]=>true|k,c::t=>Tg k c&&F7 (k+1) t
def fF (s:List UInt8):Int:=if 64<s.length then 9 else if F7 0 s=true∧s≠[] then 0 else 10
def rQ (k w d m:Int):Bool:=Ot k w d&&decide (1≤m∧m≤12∧d≤vI 1 m)
def zX (s:List UInt8):Int:=(xq s).1
def K3 (s:List UInt8):Int:=(xq s).2
def ytI (s:List UInt8) (n:Int):Int:=(Gf s n).1
def Ou (s:List UInt8) (n:Int):Int:=(Gf s n).2
def V5 (s:List UInt8):Int:=(D4 s).1
def V6 (s:List UInt8):Int:=(D4 s).2.1
def Bq (s:List UInt8):Int:=(D4 s).2.2
def tcT (n b:Int):List UInt8:=(LU n b).1
def tcW (n b:Int):Int:=(LU n b).2
def eU (s:List UInt8):Int:=(aO.read s).1
def lK (s:List UInt8):Int:=(aO.read s).2
def amT (n:Int):List UInt8:=(aO.text n).1
def amE (n:Int):Int:=(aO.text n).2
def fxT (n:Int):List UInt8:=(o6 n).1
def fxW (n:Int):Int:=(o6 n).2
def txTy (m n:Int):List UInt8:=(uq m n).1
def TF (m n:Int):Int:=(uq m n).2
noncomputable def JE:aF:=fun a=>match a with|[.str s]=>some (ai (aj s) 1000,.int .i64 (fF s))|_=>none
noncomputable def Av:aF:=fun a=>match a with|[.agg [.int .i64 k,.int .i64 w,.int .i64 d],.int .i64 m]=>some (true,.bool (rQ k w d m))|_=>none
noncomputable def XT:aF:=fun a=>match a with|[.str s]=>some (ai (aj s) 900,.tup [.int .i64 (zX s),.int .i64 (K3 s)])|_=>none
noncomputable def zToS:aF:=fun a=>match a with|[.str s,.int .i64 n]=>some (ai (aj s) 900,.tup [.int .i64 (ytI s n),.int .i64 (Ou s n)])|_=>none
noncomputable def Rs:aF:=fun a=>match a with|[.str s]=>some (ai (aj s) 900,.tup [.int .i64 (vD s),.int .i64 (pX s)])|_=>none
noncomputable def Rt:aF:=fun a=>match a with|[.str s]=>some (ai (aj s) 900,.tup [.agg [.int .i64 (sK s),.int .i64 (jo s),.int .i64 (sM s)],.int .i64 (sQ s)])|_=>none
noncomputable def Ru:aF:=fun a=>match a with|[.str s]=>some (ai (aj s) 900,.tup [.agg [.int .i64 (V5 s),.int .i64 (V6 s)],.int .i64 (Bq s)])|_=>none
noncomputable def Rv:aF:=fun a=>match a with|[.str s]=>some (ai (aj s) 900,.tup [.int .i64 (eU s),.int .i64 (lK s)])|_=>none
noncomputable def zLetS:aF:=fun a=>match a with|[.str s]=>some (ai (aj s) 900,.tup [.str (Db s),.int .i64 (Dc s)])|_=>none
noncomputable def zFxS:aF:=fun a=>match a with|[.int .i64 n]=>some (true,.tup [.str (fxT n),.int .i64 (fxW n)])|_=>none
noncomputable def zTxS:aF:=fun a=>match a with|[.int .i64 m,.int .i64 n]=>some (true,.tup [.str (txTy m n),.int .i64 (TF m n)])|_=>none
noncomputable def TG:aF:=fun a=>match a with|[.agg [.int .i64 k,.int .i64 w,.int .i64 d]]=>some (true,.tup [.str (O7 k w d),.int .i64 (dsTe k w d)])|_=>none
noncomputable def TH:aF:=fun a=>match a with|[.agg [.int .i64 n,.int .i64 b]]=>some (true,.tup [.str (tcT n b),.int .i64 (tcW n b)])|_=>none
noncomputable def TI:aF:=fun a=>match a with|[.agg [.int .i64 n,.int .i64 b]]=>some (true,.bool (iP n b))|_=>none
noncomputable def TJ:aF:=fun a=>match a with|[.int .i64 n]=>some (ak (ai (-9223372036854775808) n) (ai n 9223372036854775807),.tup [.str (amT n),.int .i64 (amE n)])|_=>none
noncomputable def zLtS:aF:=fun a=>match a with|[.str s]=>some (ai (aj s) 900,.tup [.str (ltT s),.int .i64 (Ti s)])|_=>none
noncomputable def TK:aF:=fun a=>match a with|[.int .i64 n]=>some (ak (ai (-9223372036854775808) n) (ai n 9223372036854775807),.str (moT n))|_=>none
noncomputable def zS:List (Nat×aF):=(16,JE)::(39,Av)::(155,XT)::(156,zToS)::(157,Rs)::(159,Rt)::(161,Ru)::(148,Rv)::(70,zLetS)::(37,zFxS)::(36,zTxS)::(58,TG)::(59,TH)::(40,TI)::(60,TJ)::(38,zLtS)::(61,TK)::zS0
def odP (s:List UInt8) (m:Int):Int×Int×Int×Int:=if sQ s=0 then(if rQ (sK s) (jo s) (sM s) m=true then(sK s,jo s,sM s,0) else(0,0,0,1)) else(sK s,jo s,sM s,sQ s)
def odK (s:List UInt8) (m:Int):Int:=(odP s m).1
def odW (s:List UInt8) (m:Int):Int:=(odP s m).2.1
def odD (s:List UInt8) (m:Int):Int:=(odP s m).2.2.1
def odE (s:List UInt8) (m:Int):Int:=(odP s m).2.2.2
def svP (s:List UInt8):Int×Int:=if lK s=0 then(if eU s< -10800∨10800<eU s then(0,1) else(eU s,0)) else(eU s,lK s)
def svI (s:List UInt8):Int:=(svP s).1
def svW (s:List UInt8):Int:=(svP s).2
def yrB (f t:Int):Bool:=ai (-32767) f&&(ai f t&&ai t 32767)
def V7 (n:List UInt8) (f t m k w d c b v:Int) (l:List UInt8):Bool:=ieq (fF n) 0&&(yrB f t&&(rQ k w d m&&(iP c b&&((ai (-10800) v&&ai v 10800)&&ieq (Ti l) 0))))
noncomputable def oM (F:Nat) (ns:List Nat) (n:Nat) (x0:List UInt8) (x2:Int) (x9:List V) (x10 De:Int) (K:V→Option V):Option V:=
 iA zE zS0 F 2 16 [1,1,0,1,0] ns K n (mH 48 [(0,V.str x0),(2,V.int .i64 x2),(9,V.sl 5 [Kd.int .u8] none x9),(10,V.int .i64 x10),(11,V.int .i64 De)] [])
theorem IG (F:Nat) (s:List UInt8) (K:V→Option V):
 cr zE (bV zE zS0 F 2) F 16 [V.str s] K=
 sel (aT 64 (aj s)) (K (V.int .i64 9)) (sel (GN s) (oM F [] F s 0 (aJ s) (av (aJ s)) 0 K) none):=by kernel_rfl
theorem wD (F n:Nat) (x0:List UInt8) (x2:Int) (x9:List V) (x10 De:Int) (K:V→Option V):
 oM F [] (n+1) x0 x2 x9 x10 De K=
 let B:=oM F [] n x0 x2 x9 x10 (fB .i64 De 1) K;let C:=asInt (ax (aP x9 De) 0);let E:=K (V.int .i64 10);let D:=sel (ai 0 (sZ [45,43,47,46] C)) B E;let G:=jT .or .u8 C 32;let A:=sel (ieq C 95) B (sel (aT 0 De) (sel (ai 48 C) (sel (ai C 57) B D) D) E);sel (aT De x10) (sel (ak (ai 0 De) (aT De (av x9))) (sel (ai 97 G) (sel (ai G 122) B A) A) none) (sel (seq x0 []) E (K (V.int .i64 0))):=by kernel_rfl
theorem UT (F:Nat) (k w d m:Int) (K:V→Option V):
 cr zE (bV zE zS0 F 3) F 39 [V.agg [V.int .i64 k,V.int .i64 w,V.int .i64 d],V.int .i64 m] K=
 let A:=K (V.bool false);sel (Ot k w d) (sel (ai 1 m) (sel (ai m 12) (K (V.bool (ai d (vI 1 m)))) A) A) A:=by kernel_rfl
theorem II (F:Nat) (xs:List V) (K:V→Option V):
 cr zE (bV zE zS F 10) F 110 [V.sl 9 [Kd.str] none xs] K=
 let B:=aR (ax (aP xs 5) 0);let C:=aR (ax (aP xs 1) 0);let D:=aR (ax (aP xs 7) 0);let E:=V.int .i64 0;let G:=aR (ax (aP xs 4) 0);let H:=aR (ax (aP xs 6) 0);let I:=aR (ax (aP xs 0) 0);let J:=aR (ax (aP xs 2) 0);let L:=aR (ax (aP xs 8) 0);let N:=ak (ai 0 0) (aT 0 (av xs));let A:=V.agg [V.str [],E,E,E,E,E,E,E,E,E,V.str []];let M:=K (V.tup [A,V.int .i64 1]);sel (aG (ai 9 (av xs))) (K (V.tup [A,V.int .i64 5])) (sel (aG (ai (av xs) 9)) (K (V.tup [A,V.int .i64 6])) (sel N (sel N (sel (ai (aj I) 1000) (sel (aG (ieq (fF I) 0)) (K (V.tup [A,V.int .i64 (fF I)])) (sel (ak (ai 0 1) (aT 1 (av xs))) (sel (ai (aj C) 900) (sel (aG (ieq (K3 C) 0)) (K (V.tup [A,V.int .i64 (K3 C)])) (sel (ak (ai 0 2) (aT 2 (av xs))) (sel (ai (aj J) 900) (sel (aG (ieq (Ou J (zX C)) 0)) (K (V.tup [A,V.int .i64 (Ou J (zX C))])) (sel (ak (ai 0 3) (aT 3 (av xs))) (sel (aG (seq (aR (ax (aP xs 3) 0)) [45])) (K (V.tup [A,V.int .i64 3])) (sel (ak (ai 0 4) (aT 4 (av xs))) (sel (ai (aj G) 900) (sel (aG (ieq (pX G) 0)) (K (V.tup [A,V.int .i64 (pX G)])) (sel (ak (ai 0 5) (aT 5 (av xs))) (sel (ai (aj B) 900) (sel (aG (ieq (sQ B) 0)) (K (V.tup [A,V.int .i64 (sQ B)])) (sel (aG (rQ (sK B) (jo B) (sM B) (vD G))) M (sel (ak (ai 0 6) (aT 6 (av xs))) (sel (ai (aj H) 900) (sel (aG (ieq (Bq H) 0)) (K (V.tup [A,V.int .i64 (Bq H)])) (sel (ak (ai 0 7) (aT 7 (av xs))) (sel (ai (aj D) 900) (sel (aG (ieq (lK D) 0)) (K (V.tup [A,V.int .i64 (lK D)])) (sel (ai (-10800) (eU D)) (sel (aG (ai (eU D) 10800)) M (sel (ak (ai 0 8) (aT 8 (av xs))) (sel (ai (aj L) 900) (sel (aG (ieq (Dc L) 0)) (K (V.tup [A,V.int .i64 (Dc L)])) (K (V.tup [V.agg [V.str I,V.int .i64 (zX C),V.int .i64 (ytI J (zX C)),V.int .i64 (vD G),V.int .i64 (sK B),V.int .i64 (jo B),V.int .i64 (sM B),V.int .i64 (V5 H),V.int .i64 (V6 H),V.int .i64 (eU D),V.str (Db L)],E]))) none) none)) M)) none) none)) none) none))) none) none)) none) none)) none)) none) none)) none) none)) none) none) none)):=by kernel_rfl
theorem QA (F:Nat) (a0 a1 a2 a3 a4 a5 a6 a7 a8:List UInt8) (K:V→Option V):
 cr zE (bV zE zS F 10) F 110 [V.sl 9 [Kd.str] none [V.str a0,V.str a1,V.str a2,V.str a3,V.str a4,V.str a5,V.str a6,V.str a7,V.str a8]] K=
 let B:=av [V.str a0,V.str a1,V.str a2,V.str a3,V.str a4,V.str a5,V.str a6,V.str a7,V.str a8];let C:=V.int .i64 0;let G:=Ou a2 (zX a1);let A:=V.agg [V.str [],C,C,C,C,C,C,C,C,C,V.str []];let E:=ak (ai 0 0) (aT 0 B);let D:=K (V.tup [A,V.int .i64 1]);sel (aG (ai 9 B)) (K (V.tup [A,V.int .i64 5])) (sel (aG (ai B 9)) (K (V.tup [A,V.int .i64 6])) (sel E (sel E (sel (ai (aj a0) 1000) (sel (aG (ieq (fF a0) 0)) (K (V.tup [A,V.int .i64 (fF a0)])) (sel (ak (ai 0 1) (aT 1 B)) (sel (ai (aj a1) 900) (sel (aG (ieq (K3 a1) 0)) (K (V.tup [A,V.int .i64 (K3 a1)])) (sel (ak (ai 0 2) (aT 2 B)) (sel (ai (aj a2) 900) (sel (aG (ieq G 0)) (K (V.tup [A,V.int .i64 G])) (sel (ak (ai 0 3) (aT 3 B)) (sel (aG (seq a3 [45])) (K (V.tup [A,V.int .i64 3])) (sel (ak (ai 0 4) (aT 4 B)) (sel (ai (aj a4) 900) (sel (aG (ieq (pX a4) 0)) (K (V.tup [A,V.int .i64 (pX a4)])) (sel (ak (ai 0 5) (aT 5 B)) (sel (ai (aj a5) 900) (sel (aG (ieq (sQ a5) 0)) (K (V.tup [A,V.int .i64 (sQ a5)])) (sel (aG (rQ (sK a5) (jo a5) (sM a5) (vD a4))) D (sel (ak (ai 0 6) (aT 6 B)) (sel (ai (aj a6) 900) (sel (aG (ieq (Bq a6) 0)) (K (V.tup [A,V.int .i64 (Bq a6)])) (sel (ak (ai 0 7) (aT 7 B)) (sel (ai (aj a7) 900) (sel (aG (ieq (lK a7) 0)) (K (V.tup [A,V.int .i64 (lK a7)])) (sel (ai (-10800) (eU a7)) (sel (aG (ai (eU a7) 10800)) D (sel (ak (ai 0 8) (aT 8 B)) (sel (ai (aj a8) 900) (sel (aG (ieq (Dc a8) 0)) (K (V.tup [A,V.int .i64 (Dc a8)])) (K (V.tup [V.agg [V.str a0,V.int .i64 (zX a1),V.int .i64 (ytI a2 (zX a1)),V.int .i64 (vD a4),V.int .i64 (sK a5),V.int .i64 (jo a5),V.int .i64 (sM a5),V.int .i64 (V5 a6),V.int .i64 (V6 a6),V.int .i64 (eU a7),V.str (Db a8)],C]))) none) none)) D)) none) none)) none) none))) none) none)) none) none)) none)) none) none)) none) none)) none) none) none)):=by kernel_rfl
theorem Rw:sO zE:=⟨by kernel_rfl,by kernel_rfl⟩
theorem toZ {f:Nat} {args:List V} {r:V} (h:af nE f args r):af zE f args r:=af.env (E:=nE) rfl (fun n v h=>by cases h) h
theorem toZy {f:Nat} {args:List V} {r:V} (h:af yE f args r):af zE f args r:=af.env (E:=yE) rfl (fun n v h=>by cases h) h
theorem toZv {f:Nat} {args:List V} {r:V} (h:af vE f args r):af zE f args r:=af.env (E:=vE) rfl (fun n v h=>by cases h) h
theorem toZw {f:Nat} {args:List V} {r:V} (h:af wE f args r):af zE f args r:=af.env (E:=wE) rfl (fun n v h=>by
 unfold wE at h;simp only at h
 cases e:n==2 with
 |true=>
  obtain rfl:n=2:=by simpa using e
  exact h
 |false=>rw[e] at h;cases h) h
theorem toZm {f:Nat} {args:List V} {r:V} (h:af mE f args r):af zE f args r:=af.env (E:=mE) rfl (fun n v h=>by
 unfold mE at h;simp only at h
 cases e:n==1 with
 |true=>
  obtain rfl:n=1:=by simpa using e
  exact h
 |false=>rw[e] at h;cases h) h
theorem WA {f:Nat} {args:List V} {r:V} (h:af fE f args r):af zE f args r:=af.env (E:=fE) rfl (fun n v h=>by
 unfold fE at h;simp only at h
 cases e:n==3 with
 |true=>
  obtain rfl:n=3:=by simpa using e
  exact h
 |false=>rw[e] at h;cases h) h
theorem WB {f:Nat} {args:List V} {r:V} (h:af aE f args r):af zE f args r:=af.env (E:=aE) rfl (fun n v h=>by
 unfold aE at h;simp only at h
 cases e:n==4 with
 |true=>
   obtain rfl:n=4:=by simpa using e
   exact h
 |false=>
  rw[e] at h;simp only[cond_false] at h
  cases e:n==3 with
  |true=>
    obtain rfl:n=3:=by simpa using e
    exact h
  |false=>rw[e] at h;cases h) h
theorem len_z {s:List UInt8} (h:ai (aj s) 1000=true):s.length≤1000:=by rw[aA,aB] at h;omega
theorem qZ {s:List UInt8} (h:ai (aj s) 900=true):s.length≤900:=by rw[aA,aB] at h;omega
theorem Em {m:Int} (h:ak (ai (-9223372036854775808) m) (ai m 9223372036854775807)=true):Fits m:=by rw[aH,aA,aA] at h;exact h
theorem UU (s:List UInt8) (c:Int) (hc:true=true):af zE 43 [.str s,.int .u8 c] (.int .i64 (sZ s c)):=toZ (Xe s c)
theorem Ze (y m:Int) (hc:ak (ai (-9223372036854775808) y) (ai y 9223372036854775807)=true):af zE 73 [.int .i64 y,.int .i64 m] (.int .i64 (vI y m)):=toZv (vLen_ev y m (Em hc))
theorem zOnS_ok (k w d:Int) (hc:true=true):af zE 71 [.agg [.int .i64 k,.int .i64 w,.int .i64 d]] (.bool (Ot k w d)):=toZw (ID k w d)
theorem JF:bq zE zS0:=by
 unfold zS0;refine bq.cons (fun args r h=>?_) (bq.cons (fun args r h=>?_) (bq.cons (fun args r h=>?_) bq.nil));all_goals (revert h;intro h;first|unfold XR at h|unfold zLenS at h|unfold zOnS at h)
 all_goals (split at h;rotate_left; · cases h)
 all_goals (simp only[Option.some.injEq,Prod.mk.injEq] at h;obtain⟨hc,rfl⟩:=h)
 ·exact UU _ _ rfl
 ·exact Ze _ _ hc
 ·exact zOnS_ok _ _ _ rfl
theorem rM (c:UInt8):(ai 97 (jT .or .u8 ((c.toNat:Nat):Int) 32)&&ai (jT .or .u8 ((c.toNat:Nat):Int) 32) 122)=((decide (65≤c.toNat)&&decide (c.toNat≤90))||(decide (97≤c.toNat)&&decide (c.toNat≤122))):=by
 have h: ∀n:Fin 256,(ai 97 (jT .or .u8 ((n.val:Nat):Int) 32)&&ai (jT .or .u8 ((n.val:Nat):Int) 32) 122)=((decide (65≤n.val)&&decide (n.val≤90))||(decide (97≤n.val)&&decide (n.val≤122))):=by decide+kernel
 exact h ⟨c.toNat,c.toNat_lt⟩
theorem Kb (c:UInt8):ai 0 (sZ [45,43,47,46] ((c.toNat:Nat):Int))=(c==45||c==43||c==47||c==46):=by
 have h: ∀n:Fin 256,ai 0 (sZ [45,43,47,46] ((n.val:Nat):Int))=(UInt8.ofNat n==45||UInt8.ofNat n==43||UInt8.ofNat n==47||UInt8.ofNat n==46):=by decide+kernel
 have:=h ⟨c.toNat,c.toNat_lt⟩;simpa using this
theorem Py (c d:UInt8):ieq ((c.toNat:Nat):Int) ((d.toNat:Nat):Int)=(c==d):=by
 rw[Bool.eq_iff_iff,aK,beq_iff_eq,←UInt8.toNat_inj];omega
theorem En (c:UInt8) (a:Nat):ai (a:Int) ((c.toNat:Nat):Int)=decide (a≤c.toNat):=by
 rw[Bool.eq_iff_iff,aA,decide_eq_true_eq];omega
theorem yO (c:UInt8) (a:Nat):ai ((c.toNat:Nat):Int) (a:Int)=decide (c.toNat≤a):=by
 rw[Bool.eq_iff_iff,aA,decide_eq_true_eq];omega
theorem QB (s:List UInt8) (x2:Int) (F n k:Nat) (hk:k<s.length) (hs:s.length≤64):oM F [] (n+1) s x2 (aJ s) (av (aJ s)) (k:Int) some=
  if Tg k (s[k])=true then oM F [] n s x2 (aJ s) (av (aJ s)) ((k+1:Nat):Int) some else some (.int .i64 10):=by
 have hl:(aJ s).length=s.length:=by unfold aJ;rw[List.length_map]
 have e:asInt (ax (aP (aJ s) (k:Int)) 0)=((s[k].toNat:Nat):Int):=by
  rw[ku];unfold aJ;rw[List.getD_eq_getElem?_getD,List.getElem?_map,List.getElem?_eq_getElem hk];rfl
 have e95:ieq ((s[k].toNat:Nat):Int) 95=(s[k]==95):=Py s[k] 95;have e48:ai 48 ((s[k].toNat:Nat):Int)=decide (48≤s[k].toNat):=En s[k] 48;have e57:ai ((s[k].toNat:Nat):Int) 57=decide (s[k].toNat≤57):=yO s[k] 57;have e0:aT 0 (k:Int)=decide (0<k):=by rw[Bool.eq_iff_iff,bf,decide_eq_true_eq];omega
 have hL:=rM s[k]
 (rw[wD];(conv=>zeta);rw[ay (bD (by rw[aD,hl];omega)),ay (by rw[aH,aA,bf,aD,hl];omega),e,e95,e48,e57,e0,Kb,iO (by omega),show(k:Int)+1=((k+1:Nat):Int) by omega])
 unfold Tg Wy Wz;rw[←hL];generalize oM F [] n s x2 (aJ s) (av (aJ s)) ((k+1:Nat):Int) some=N;generalize ai 97 (jT .or .u8 ((s[k].toNat:Nat):Int) 32)=b1;generalize ai (jT .or .u8 ((s[k].toNat:Nat):Int) 32) 122=b2;generalize (s[k]==95)=b3;generalize decide (0<k)=b4;generalize decide (48≤s[k].toNat)=b5;generalize decide (s[k].toNat≤57)=b6;generalize (s[k]==45)=b7;generalize (s[k]==43)=b8;generalize (s[k]==47)=b9;generalize (s[k]==46)=b10
 cases b1<;>cases b2<;>cases b3<;>cases b4<;>cases b5<;>cases b6<;>cases b7<;>cases b8<;>cases b9<;>cases b10<;>rfl
theorem QC (s:List UInt8) (x2:Int) (F:Nat) (hs:s.length≤64): ∀(n k:Nat),k≤s.length→s.length-k<n→
  oM F [] n s x2 (aJ s) (av (aJ s)) (k:Int) some=some (.int .i64 (if F7 k (s.drop k)=true then(if s=[] then 10 else 0) else 10)):=by
 intro n;induction n with
 |zero=>intro k _ h;omega
 |succ n ih=>
  intro k hk hn;by_cases h:k<s.length
  ·rw[QB s x2 F n k h hs,List.drop_eq_getElem_cons h]
   show _=some (V.int .i64 (if(Tg k s[k]&&F7 (k+1) (s.drop (k+1)))=true then _ else _))
   cases hc:Tg k s[k] with
   |true=>rw[if_pos rfl,ih (k+1) (by omega) (by omega),Bool.true_and]
   |false=>rw[if_neg (by decide),Bool.false_and,if_neg (by decide)]
  ·have hl:(aJ s).length=s.length:=by unfold aJ;rw[List.length_map]
   (rw[wD];(conv=>zeta);rw[aU (bB (by rw[aD,hl];omega)),List.drop_of_length_le (by omega),if_pos (show F7 k []=true from rfl),bJ])
   by_cases h0:s=[]
   ·rw[if_pos (by rw[dI];exact h0),if_pos h0]
   ·rw[if_neg (by rw[dI];exact h0),if_neg h0]
theorem Pz (s:List UInt8):(if F7 0 s=true then(if s=[] then(10:Int) else 0) else 10)=if F7 0 s=true∧s≠[] then 0 else 10:=by
 by_cases h:F7 0 s=true
 ·rw[if_pos h]
  by_cases h0:s=[]
  ·rw[if_pos h0,if_neg (fun e=>e.2 h0)]
  ·rw[if_neg h0,if_pos ⟨h,h0⟩]
 ·rw[if_neg h,if_neg (fun e=>h e.1)]
theorem Zf (s:List UInt8) (hs:s.length≤1000):af zE 16 [.str s] (.int .i64 (fF s)):=by
 refine ah Rw JF 100 2 ?_;rw[IG];unfold fF;by_cases h:64<s.length
 ·rw[ay (bD (by rw[aB];omega)),if_pos h]
 ·rw[aU (bB (by rw[aB];omega)),if_neg h,ay (by rw[Ba];omega)]
  have:=QC s 0 100 (by omega) 100 0 (by omega) (by omega);rw[List.drop_zero,Pz] at this;exact this
theorem Be (s:List UInt8) (hc:ai (aj s) 1000=true):af zE 16 [.str s] (.int .i64 (fF s)):=Zf s (len_z hc)
theorem ft_tree (k w d m y:Int) (hy:tH y=false):sel (Ot k w d) (sel (ai 1 m) (sel (ai m 12) (some (V.bool (ai d (vI y m)))) (some (V.bool false))) (some (V.bool false))) (some (V.bool false))=some (.bool (rQ k w d m)):=by
 have e:vI y m=vI 1 m:=by unfold vI;rw[hy];rfl
 rw[e];unfold rQ;have e2:decide (1≤m∧m≤12∧d≤vI 1 m)=(ai 1 m&&(ai m 12&&ai d (vI 1 m))):=by
  rw[Bool.eq_iff_iff,Bool.and_eq_true,Bool.and_eq_true,aA,aA,aA,decide_eq_true_eq]
 rw[e2];generalize ai d (vI 1 m)=x
 cases Ot k w d<;>cases ai 1 m<;>cases ai m 12<;>rfl
theorem Bf (k w d m:Int) (hc:true=true):af zE 39 [.agg [.int .i64 k,.int .i64 w,.int .i64 d],.int .i64 m] (.bool (rQ k w d m)):=by
 refine ah Rw JF 5 3 ?_
 (rw[UT];(conv=>zeta))
 exact ft_tree k w d m 1 (by decide)
theorem UW (s:List UInt8) (hc:ai (aj s) 900=true):af zE 155 [.str s] (.tup [.int .i64 (zX s),.int .i64 (K3 s)]):=toZy (Zg s (by have:=qZ hc;omega))
theorem zToS_ok (s:List UInt8) (n:Int) (hc:ai (aj s) 900=true):af zE 156 [.str s,.int .i64 n] (.tup [.int .i64 (ytI s n),.int .i64 (Ou s n)]):=toZy (yTo_ev s n (by have:=qZ hc;omega))
theorem MF (s:List UInt8) (hc:ai (aj s) 900=true):af zE 157 [.str s] (.tup [.int .i64 (vD s),.int .i64 (pX s)]):=toZm (UR s (by have:=qZ hc;omega))
theorem MG (s:List UInt8) (hc:ai (aj s) 900=true):af zE 159 [.str s] (.tup [.agg [.int .i64 (sK s),.int .i64 (jo s),.int .i64 (sM s)],.int .i64 (sQ s)]):=toZw (Zc s (qZ hc))
theorem MH (s:List UInt8) (hc:ai (aj s) 900=true):af zE 161 [.str s] (.tup [.agg [.int .i64 (V5 s),.int .i64 (V6 s)],.int .i64 (Bq s)]):=WB (Zh s (by have:=qZ hc;omega))
theorem MI (s:List UInt8) (hc:ai (aj s) 900=true):af zE 148 [.str s] (.tup [.int .i64 (eU s),.int .i64 (lK s)]):=WB (MJ s (by have:=qZ hc;omega))
theorem MK (s:List UInt8) (hc:ai (aj s) 900=true):af zE 70 [.str s] (.tup [.str (Db s),.int .i64 (Dc s)]):=WA (FI s (bF (by have:=qZ hc;rw[aB];omega)))
theorem Sk (n:Int) (hc:true=true):af zE 37 [.int .i64 n] (.tup [.str (fxT n),.int .i64 (fxW n)]):=toZy (KV n)
theorem Sl (m n:Int) (hc:true=true):af zE 36 [.int .i64 m,.int .i64 n] (.tup [.str (txTy m n),.int .i64 (TF m n)]):=toZy (QD m n)
theorem Kc (k w d:Int) (hc:true=true):af zE 58 [.agg [.int .i64 k,.int .i64 w,.int .i64 d]] (.tup [.str (O7 k w d),.int .i64 (dsTe k w d)]):=toZw (Y9 k w d)
theorem Ke (n b:Int) (hc:true=true):af zE 59 [.agg [.int .i64 n,.int .i64 b]] (.tup [.str (tcT n b),.int .i64 (tcW n b)]):=WB (QE n b)
theorem Kg (n b:Int) (hc:true=true):af zE 40 [.agg [.int .i64 n,.int .i64 b]] (.bool (iP n b)):=WB (UX n b)
theorem Kh (n:Int) (hc:ak (ai (-9223372036854775808) n) (ai n 9223372036854775807)=true):af zE 60 [.int .i64 n] (.tup [.str (amT n),.int .i64 (amE n)]):=WB (MN n (Em hc).1 (Em hc).2)
theorem zLtS_ok (s:List UInt8) (hc:ai (aj s) 900=true):af zE 38 [.str s] (.tup [.str (ltT s),.int .i64 (Ti s)]):=WA (UY s (by have:=qZ hc;omega))
theorem Ki (n:Int) (hc:ak (ai (-9223372036854775808) n) (ai n 9223372036854775807)=true):af zE 61 [.int .i64 n] (.str (moT n)):=toZm (US n (Em hc))
theorem zS_ok:bq zE zS:=by
 unfold zS;refine bq.cons (fun args r h=>?_) (bq.cons (fun args r h=>?_) (bq.cons (fun args r h=>?_) (bq.cons (fun args r h=>?_) (bq.cons (fun args r h=>?_) (bq.cons (fun args r h=>?_) (bq.cons (fun args r h=>?_) (bq.cons (fun args r h=>?_) (bq.cons (fun args r h=>?_) (bq.cons (fun args r h=>?_) (bq.cons (fun args r h=>?_) (bq.cons (fun args r h=>?_) (bq.cons (fun args r h=>?_) (bq.cons (fun args r h=>?_) (bq.cons (fun args r h=>?_) (bq.cons (fun args r h=>?_) (bq.cons (fun args r h=>?_) JF))))))))))))))));all_goals (revert h;intro h;first|unfold JE at h|unfold Av at h|unfold XT at h|unfold zToS at h|unfold Rs at h|unfold Rt at h|unfold Ru at h|unfold Rv at h|unfold zLetS at h|unfold zFxS at h|unfold zTxS at h|unfold TG at h|unfold TH at h|unfold TI at h|unfold TJ at h|unfold zLtS at h|unfold TK at h)
 all_goals (split at h;rotate_left; · cases h)
 all_goals (simp only[Option.some.injEq,Prod.mk.injEq] at h;obtain⟨hc,rfl⟩:=h)
 ·exact Be _ hc
 ·exact Bf _ _ _ _ rfl
 ·exact UW _ hc
 ·exact zToS_ok _ _ hc
 ·exact MF _ hc
 ·exact MG _ hc
 ·exact MH _ hc
 ·exact MI _ hc
 ·exact MK _ hc
 ·exact Sk _ rfl
 ·exact Sl _ _ rfl
 ·exact Kc _ _ _ rfl
 ·exact Ke _ _ rfl
 ·exact Kg _ _ rfl
 ·exact Kh _ hc
 ·exact zLtS_ok _ hc
 ·exact Ki _ hc
def rg (xs:List V) (i:Int):List UInt8:=aR (ax (aP xs i) 0)
def sV (v:V):Bool:=match v with| .str s=>ai (aj s) 900|_=>false
def iN (xs:List V):Bool:=xs.all sV
def F4 (xs:List V):Bool:=
 ieq (av xs) 9&&(ieq (fF (rg xs 0)) 0&&(ieq (K3 (rg xs 1)) 0&&(ieq (Ou (rg xs 2) (zX (rg xs 1))) 0&&(seq (rg xs 3) [45]&&(ieq (pX (rg xs 4)) 0&&(ieq (sQ (rg xs 5)) 0&&(rQ (sK (rg xs 5)) (jo (rg xs 5)) (sM (rg xs 5)) (vD (rg xs 4))&&(ieq (Bq (rg xs 6)) 0&&(ieq (lK (rg xs 7)) 0&&(ai (-10800) (eU (rg xs 7))&&(ai (eU (rg xs 7)) 10800&&ieq (Dc (rg xs 8)) 0)))))))))))
def rdE (xs:List V):Int:=
 sel (aT (av xs) 9) 5 (sel (aT 9 (av xs)) 6 (sel (ieq (fF (rg xs 0)) 0) (sel (ieq (K3 (rg xs 1)) 0) (sel (ieq (Ou (rg xs 2) (zX (rg xs 1))) 0) (sel (seq (rg xs 3) [45]) (sel (ieq (pX (rg xs 4)) 0) (sel (ieq (sQ (rg xs 5)) 0) (sel (rQ (sK (rg xs 5)) (jo (rg xs 5)) (sM (rg xs 5)) (vD (rg xs 4))) (sel (ieq (Bq (rg xs 6)) 0) (sel (ieq (lK (rg xs 7)) 0) (sel (ai (-10800) (eU (rg xs 7))) (sel (ai (eU (rg xs 7)) 10800) (Dc (rg xs 8)) 1) 1) (lK (rg xs 7))) (Bq (rg xs 6))) 1) (sQ (rg xs 5))) (pX (rg xs 4))) 3) (Ou (rg xs 2) (zX (rg xs 1)))) (K3 (rg xs 1))) (fF (rg xs 0))))
def OC (xs:List V):List UInt8:=sel (F4 xs) (rg xs 0) []
def OD (xs:List V):Int:=sel (F4 xs) (zX (rg xs 1)) 0
def OE (xs:List V):Int:=sel (F4 xs) (ytI (rg xs 2) (zX (rg xs 1))) 0
def OH (xs:List V):Int:=sel (F4 xs) (vD (rg xs 4)) 0
def OI (xs:List V):Int:=sel (F4 xs) (sK (rg xs 5)) 0
def OJ (xs:List V):Int:=sel (F4 xs) (jo (rg xs 5)) 0
def OL (xs:List V):Int:=sel (F4 xs) (sM (rg xs 5)) 0
def OM (xs:List V):Int:=sel (F4 xs) (V5 (rg xs 6)) 0
def OO (xs:List V):Int:=sel (F4 xs) (V6 (rg xs 6)) 0
def OP (xs:List V):Int:=sel (F4 xs) (eU (rg xs 7)) 0
def wT (xs:List V):List UInt8:=sel (F4 xs) (Db (rg xs 8)) []
def OQ (xs:List V):Int:=sel (F4 xs) 0 (rdE xs)
def rdV (xs:List V):V:=.tup [.agg [.str (OC xs),.int .i64 (OD xs),.int .i64 (OE xs),.int .i64 (OH xs),.int .i64 (OI xs),.int .i64 (OJ xs),.int .i64 (OL xs),.int .i64 (OM xs),.int .i64 (OO xs),.int .i64 (OP xs),.str (wT xs)],.int .i64 (OQ xs)]
theorem rd_no (xs:List V) (h:F4 xs=false):rdV xs=.tup [.agg [.str [],.int .i64 0,.int .i64 0,.int .i64 0,.int .i64 0,.int .i64 0,.int .i64 0,.int .i64 0,.int .i64 0,.int .i64 0,.str []],.int .i64 (rdE xs)]:=by
 unfold rdV OC OD OE OH OI OJ OL OM OO OP wT OQ;rw[h];rfl
theorem rd_yes (xs:List V) (h:F4 xs=true):rdV xs=.tup [.agg [.str (rg xs 0),.int .i64 (zX (rg xs 1)),.int .i64 (ytI (rg xs 2) (zX (rg xs 1))),.int .i64 (vD (rg xs 4)),.int .i64 (sK (rg xs 5)),.int .i64 (jo (rg xs 5)),.int .i64 (sM (rg xs 5)),.int .i64 (V5 (rg xs 6)),.int .i64 (V6 (rg xs 6)),.int .i64 (eU (rg xs 7)),.str (Db (rg xs 8))],.int .i64 0]:=by
 unfold rdV OC OD OE OH OI OJ OL OM OO OP wT OQ;rw[h];rfl
theorem vz: ∀(xs:List V),iN xs=true→ ∃l:List (List UInt8),xs=l.map V.str∧ ∀a∈l,ai (aj a) 900=true
 |[],_=>⟨[],rfl,fun a h=>by cases h⟩
 |v::xs,h=>by
  unfold iN at h;rw[List.all_cons,Bool.and_eq_true] at h;obtain⟨l,e,hl⟩:=vz xs h.2
  cases v with
  |str s=>exact⟨s::l,by rw[e];rfl,fun a ha=>by
   rw[List.mem_cons] at ha;rcases ha with rfl|ha
   ·exact h.1
   ·exact hl a ha⟩
  |_=>exact absurd (show false=true from h.1) (by decide)
theorem nine (xs:List V) (h:iN xs=true) (hl:xs.length=9): ∃a0 a1 a2 a3 a4 a5 a6 a7 a8:List UInt8,xs=[.str a0,.str a1,.str a2,.str a3,.str a4,.str a5,.str a6,.str a7,.str a8]∧ai (aj a0) 900=true∧ai (aj a1) 900=true∧ai (aj a2) 900=true∧ai (aj a4) 900=true∧ai (aj a5) 900=true∧ai (aj a6) 900=true∧ai (aj a7) 900=true∧ai (aj a8) 900=true:=by
 obtain⟨l,rfl,ha⟩:=vz xs h;rw[List.length_map] at hl;match l,hl,ha with
 |[a0,a1,a2,a3,a4,a5,a6,a7,a8],_,ha=>
  exact⟨a0,a1,a2,a3,a4,a5,a6,a7,a8,rfl,ha _ (by simp),ha _ (by simp),ha _ (by simp),ha _ (by simp),ha _ (by simp),ha _ (by simp),ha _ (by simp),ha _ (by simp)⟩
theorem llen_9 (v0 v1 v2 v3 v4 v5 v6 v7 v8:V):av [v0,v1,v2,v3,v4,v5,v6,v7,v8]=9:=rfl
theorem sT {α:Type} (x y:α):sel true x y=x:=rfl
theorem sF {α:Type} (x y:α):sel false x y=y:=rfl
theorem xu {s:List UInt8} (h:ai (aj s) 900=true):ai (aj s) 1000=true:=by rw[aA] at*;omega
theorem XU (xs:List V) (h:av xs≠9):F4 xs=false:=by
 unfold F4;rw[cO h];rfl
theorem Zi (xs:List V) (h:iN xs=true):af zE 110 [.sl 9 [.str] none xs] (rdV xs):=by
 refine ah Rw zS_ok 5 10 ?_;by_cases h1:av xs<9
 ·(rw[II];(conv=>zeta);rw[ay (by rw[bP,aA];omega),rd_no xs (XU xs (by omega))])
  unfold rdE;rw[bD h1];rfl
 ·by_cases h2:9<av xs
  ·(rw[II];(conv=>zeta);rw[aU (by rw[bF (by omega)];rfl),ay (by rw[bP,aA];omega),rd_no xs (XU xs (by omega))])
   unfold rdE;rw[bB (by omega),bD h2];rfl
  ·obtain⟨a0,a1,a2,a3,a4,a5,a6,a7,a8,rfl,c0,c1,c2,c4,c5,c6,c7,c8⟩:=nine xs h (by unfold av at h1 h2;omega)
   (rw[QA];(conv=>zeta))
   have g0:F4 [.str a0,.str a1,.str a2,.str a3,.str a4,.str a5,.str a6,.str a7,.str a8]=(ieq (fF a0) 0&&(ieq (K3 a1) 0&&(ieq (Ou a2 (zX a1)) 0&&(seq a3 [45]&&(ieq (pX a4) 0&&(ieq (sQ a5) 0&&(rQ (sK a5) (jo a5) (sM a5) (vD a4)&&(ieq (Bq a6) 0&&(ieq (lK a7) 0&&(ai (-10800) (eU a7)&&(ai (eU a7) 10800&&ieq (Dc a8) 0))))))))))):=rfl;have g1:rdE [.str a0,.str a1,.str a2,.str a3,.str a4,.str a5,.str a6,.str a7,.str a8]=sel (ieq (fF a0) 0) (sel (ieq (K3 a1) 0) (sel (ieq (Ou a2 (zX a1)) 0) (sel (seq a3 [45]) (sel (ieq (pX a4) 0) (sel (ieq (sQ a5) 0) (sel (rQ (sK a5) (jo a5) (sM a5) (vD a4)) (sel (ieq (Bq a6) 0) (sel (ieq (lK a7) 0) (sel (ai (-10800) (eU a7)) (sel (ai (eU a7) 10800) (Dc a8) 1) 1) (lK a7)) (Bq a6)) 1) (sQ a5)) (pX a4)) 3) (Ou a2 (zX a1))) (K3 a1)) (fF a0):=rfl;have k0:rg [.str a0,.str a1,.str a2,.str a3,.str a4,.str a5,.str a6,.str a7,.str a8] 0=a0:=rfl;have k1:rg [.str a0,.str a1,.str a2,.str a3,.str a4,.str a5,.str a6,.str a7,.str a8] 1=a1:=rfl;have k2:rg [.str a0,.str a1,.str a2,.str a3,.str a4,.str a5,.str a6,.str a7,.str a8] 2=a2:=rfl;have k4:rg [.str a0,.str a1,.str a2,.str a3,.str a4,.str a5,.str a6,.str a7,.str a8] 4=a4:=rfl;have k5:rg [.str a0,.str a1,.str a2,.str a3,.str a4,.str a5,.str a6,.str a7,.str a8] 5=a5:=rfl;have k6:rg [.str a0,.str a1,.str a2,.str a3,.str a4,.str a5,.str a6,.str a7,.str a8] 6=a6:=rfl;have k7:rg [.str a0,.str a1,.str a2,.str a3,.str a4,.str a5,.str a6,.str a7,.str a8] 7=a7:=rfl
   have k8:rg [.str a0,.str a1,.str a2,.str a3,.str a4,.str a5,.str a6,.str a7,.str a8] 8=a8:=rfl;unfold rdV OC OD OE OH OI OJ OL OM OO OP wT OQ;rw[g0,g1,k0,k1,k2,k4,k5,k6,k7,k8];simp only[llen_9,xu c0,c1,c2,c4,c5,c6,c7,c8,sT];show sel (aG (ieq (fF a0) 0)) _ (sel (aG (ieq (K3 a1) 0)) _ _)=_
   cases ieq (fF a0) 0 with
   |false=>rfl
   |true=>
   cases ieq (K3 a1) 0 with
   |false=>rfl
   |true=>
   cases ieq (Ou a2 (zX a1)) 0 with
   |false=>rfl
   |true=>
   cases seq a3 [45] with
   |false=>rfl
   |true=>
   cases ieq (pX a4) 0 with
   |false=>rfl
   |true=>
   cases ieq (sQ a5) 0 with
   |false=>rfl
   |true=>
   cases rQ (sK a5) (jo a5) (sM a5) (vD a4) with
   |false=>rfl
   |true=>
   cases ieq (Bq a6) 0 with
   |false=>rfl
   |true=>
   cases ieq (lK a7) 0 with
   |false=>rfl
   |true=>
   cases ai (-10800) (eU a7) with
   |false=>rfl
   |true=>
   cases ai (eU a7) 10800 with
   |false=>rfl
   |true=>
   cases ieq (Dc a8) 0 with
   |false=>rfl
   |true=>rfl
theorem jw (s:List UInt8) (m:Int):odE s m=sel (ieq (sQ s) 0) (sel (rQ (sK s) (jo s) (sM s) m) 0 1) (sQ s):=by
 unfold odE odP;rw[bJ,bJ];by_cases h:sQ s=0
 ·rw[if_pos h,if_pos (bn h)]
  by_cases h2:rQ (sK s) (jo s) (sM s) m=true
  ·rw[if_pos h2,if_pos h2]
  ·rw[if_neg h2,if_neg h2]
 ·rw[if_neg h,if_neg (by rw[aK];exact h)]
theorem gN (s:List UInt8):svW s=sel (ieq (lK s) 0) (sel (ai (-10800) (eU s)) (sel (ai (eU s) 10800) 0 1) 1) (lK s):=by
 unfold svW svP;simp only[bJ,aK,aA];by_cases h:lK s=0
 ·rw[if_pos h,if_pos h]
  by_cases h1: -10800≤eU s
  ·rw[if_pos h1]
   by_cases h2:eU s≤10800
   ·rw[if_pos h2,if_neg (by omega)]
   ·rw[if_neg h2,if_pos (by omega)]
  ·rw[if_neg h1,if_pos (by omega)]
 ·rw[if_neg h,if_neg h]
theorem yr_eq (f t:Int):(ieq (TF f t) 0&&ieq (fxW f) 0)=yrB f t:=by
 rw[Bool.eq_iff_iff,Bool.and_eq_true,aK,aK];unfold yrB;rw[Bool.and_eq_true,Bool.and_eq_true,aA,aA,aA];unfold TF fxW uq o6;constructor
 ·rintro⟨h1,h2⟩
  by_cases a: -32767≤f∧f≤32767
  ·by_cases b: -32767≤t∧t≤32767
   ·rw[if_pos b] at h1
    by_cases c:t<f
    ·rw[if_pos c] at h1;cases h1
    ·omega
   ·rw[if_neg b] at h1;cases h1
  ·rw[if_neg a] at h2;cases h2
 ·rintro⟨h1,h2,h3⟩
  rw[if_pos (show -32767≤t∧t≤32767 by omega),if_pos (show -32767≤f∧f≤32767 by omega),if_neg (show¬t<f by omega)];constructor
  ·(repeat' split)<;>rfl
  ·(repeat' split)<;>rfl
theorem cls_rng (x:Int):0≤pZ x∧pZ x≤3:=by
 unfold pZ
 (repeat' split)<;>decide
theorem bsB_rng (s:List UInt8):0≤I9 s∧I9 s≤2:=by
 unfold I9 bsP;split
 ·show(0:Int)≤0∧(0:Int)≤2
  decide
 ·rename_i c _
  have:=cls_rng (c.toNat:Int);split
  ·show(0:Int)≤0∧(0:Int)≤2
   decide
  ·show 0≤pZ _∧pZ _≤2
   omega
theorem MO (s:List UInt8) (h:Bq s=0):iP (V5 s) (V6 s)=true:=by
 have hb:=bsB_rng s;unfold Bq D4 at h;unfold V5 V6 D4 iP;by_cases h1:Lt (F5 s)=0
 ·rw[if_pos h1] at h⊢
  by_cases h2:0≤rdI (F5 s)∧rdI (F5 s)≤172800
  ·rw[if_pos h2] at h⊢
   exact decide_eq_true ⟨h2.1,h2.2,hb.1,hb.2⟩
  ·rw[if_neg h2] at h;cases h
 ·rw[if_neg h1] at h;exact absurd h h1
theorem IJ (s:List UInt8) (h:(yC s).2=0): -32767≤(yC s).1∧(yC s).1≤32767:=by
 unfold yC at h⊢;by_cases h1:nrW s=0
 ·rw[if_pos h1] at h⊢
  by_cases h2: -32767≤gW s∧gW s≤32767
  ·rw[if_pos h2];exact h2
  ·rw[if_neg h2] at h;cases h
 ·rw[if_neg h1] at h;exact absurd h h1
theorem yf_rng (s:List UInt8) (h:K3 s=0): -32767≤zX s∧zX s≤32767:=by
 unfold K3 xq at h;unfold zX xq;by_cases h1:numeral s=true
 ·rw[if_pos h1] at h⊢;exact IJ s h
 ·rw[if_neg h1] at h⊢
  by_cases h2:qo s Ja=0∧nY s Ja=0
  ·rw[if_pos h2];decide
  ·rw[if_neg h2] at h;cases h
theorem yl_rng (s:List UInt8) (n:Int) (hn:n≤32767) (h:(lU s n).2=0):(lU s n).1≤32767:=by
 unfold lU at h⊢;by_cases h1:numeral s=true
 ·rw[if_pos h1] at h⊢;exact(IJ s h).2
 ·rw[if_neg h1] at h⊢
  by_cases h2:qo s Ja=0
  ·rw[if_pos h2] at h⊢
   by_cases h3:nY s Ja=1
   ·rw[if_pos h3];decide
   ·rw[if_neg h3] at h⊢
    by_cases h4:nY s Ja=2
    ·rw[if_pos h4];exact hn
    ·rw[if_neg h4] at h;cases h
  ·rw[if_neg h2] at h;cases h
theorem yt_rng (s:List UInt8) (n:Int) (hn:n≤32767) (h:Ou s n=0):n≤ytI s n∧ytI s n≤32767:=by
 refine⟨(yto_err s n).2 h,?_⟩;unfold Ou Gf at h;unfold ytI Gf;by_cases h1:(lU s n).2=0∧(lU s n).1<n
 ·rw[if_pos h1] at h;cases h
 ·rw[if_neg h1] at h⊢
  exact yl_rng s n hn h
theorem Sm (s:List UInt8) (h:Dc s=0):Ti (Db s)=0∧(Db s).length≤6:=by
 have h':=h;unfold Dc leP at h;by_cases h1:s=[45]
 ·subst h1;decide
 ·rw[if_neg h1] at h
  by_cases h2:6<s.length
  ·rw[if_pos h2] at h;cases h
  ·rw[if_neg h2] at h
   by_cases h3:s=[]∨Tj.dw s=false
   ·rw[if_pos h3] at h;cases h
   ·have e:Db s=s:=by unfold Db leP;rw[if_neg h1,if_neg h2,if_neg h3]
    have hs: ¬s=[]:=fun e=>h3 (.inl e)
    rw[e];refine⟨?_,by omega⟩;unfold Ti ltP;rw[if_neg hs,if_neg (by rw[e,h'];simp)]
theorem XV (n:List UInt8) (h:fF n=0):n.length≤64:=by
 unfold fF at h;by_cases h1:64<n.length
 ·rw[if_pos h1] at h;cases h
 ·omega
def rfL (n:List UInt8) (f t m k w d c b v:Int) (l:List UInt8):List V:=[.str n,.str (fxT f),.str (txTy f t),.str [45],.str (moT m),.str (O7 k w d),.str (tcT c b),.str (amT v),.str (ltT l)]
theorem ruR_iff (n:List UInt8) (f t m k w d c b v:Int) (l:List UInt8):(V7 n f t m k w d c b v l=true)=(fF n=0∧(yrB f t=true∧(rQ k w d m=true∧(iP c b=true∧((-10800≤v∧v≤10800)∧Ti l=0))))):=by
 unfold V7;rw[Bool.and_eq_true,Bool.and_eq_true,Bool.and_eq_true,Bool.and_eq_true,Bool.and_eq_true,Bool.and_eq_true,aK,aA,aA,aK]
theorem Zj (xs:List V) (h:F4 xs=true):V7 (rg xs 0) (zX (rg xs 1)) (ytI (rg xs 2) (zX (rg xs 1))) (vD (rg xs 4)) (sK (rg xs 5)) (jo (rg xs 5)) (sM (rg xs 5)) (V5 (rg xs 6)) (V6 (rg xs 6)) (eU (rg xs 7)) (Db (rg xs 8))=true∧(rg xs 0).length≤64∧(Db (rg xs 8)).length≤6:=by
 unfold F4 at h;simp only[Bool.and_eq_true,aK,aA] at h;obtain⟨h0,h1,h2,h3,h4,h5,h6,h7,h8,h9,h10,h11,h12⟩:=h;have y:=yf_rng _ h2;have z:=yt_rng _ _ y.2 h3;refine⟨?_,XV _ h1,(Sm _ h12).2⟩;rw[ruR_iff];refine⟨h1,?_,h7,MO _ h8,⟨h10,h11⟩,(Sm _ h12).1⟩;unfold yrB;rw[bF y.1,bF z.1,bF z.2];rfl
theorem zRdS_ok (xs:List V) (hc:iN xs=true):af zE 110 [.sl 9 [.str] none xs] (.tup [.agg [.str (OC xs),.int .i64 (OD xs),.int .i64 (OE xs),.int .i64 (OH xs),.int .i64 (OI xs),.int .i64 (OJ xs),.int .i64 (OL xs),.int .i64 (OM xs),.int .i64 (OO xs),.int .i64 (OP xs),.str (wT xs)],.int .i64 (OQ xs)]):=Zi xs hc
theorem rd_inj (xs:List V) {a0 a10:List UInt8} {a1 a2 a3 a4 a5 a6 a7 a8 a9 e:Int} (h:rdV xs=.tup [.agg [.str a0,.int .i64 a1,.int .i64 a2,.int .i64 a3,.int .i64 a4,.int .i64 a5,.int .i64 a6,.int .i64 a7,.int .i64 a8,.int .i64 a9,.str a10],.int .i64 e]):
  OC xs=a0∧OD xs=a1∧OE xs=a2∧OH xs=a3∧OI xs=a4∧OJ xs=a5∧OL xs=a6∧OM xs=a7∧OO xs=a8∧OP xs=a9∧wT xs=a10∧OQ xs=e:=by
 unfold rdV at h;simp only[V.tup.injEq,List.cons.injEq,V.agg.injEq,V.str.injEq,V.int.injEq,true_and,and_true] at h;obtain⟨⟨h0,h1,h2,h3,h4,h5,h6,h7,h8,h9,h10⟩,he⟩:=h;exact⟨h0,h1,h2,h3,h4,h5,h6,h7,h8,h9,h10,he⟩
theorem rdE_ne (xs:List V) (h:F4 xs=false):rdE xs≠0:=by
 by_cases h1:av xs<9
 ·unfold rdE;rw[bD h1];show(5:Int)≠0;decide
 by_cases h2:9<av xs
 ·unfold rdE;rw[bB (by omega),bD h2];show(6:Int)≠0;decide
 unfold F4 at h;unfold rdE;rw[bn (by omega),Bool.true_and] at h;rw[bB (by omega),bB (by omega),sF,sF]
 cases e0:ieq (fF (rg xs 0)) 0 with
 |false=>intro he;rw[show fF (rg xs 0)=0 from he] at e0;cases e0
 |true=>
 rw[e0,Bool.true_and] at h;rw[sT]
 cases e1:ieq (K3 (rg xs 1)) 0 with
 |false=>intro he;rw[show K3 (rg xs 1)=0 from he] at e1;cases e1
 |true=>
 rw[e1,Bool.true_and] at h;rw[sT]
 cases e2:ieq (Ou (rg xs 2) (zX (rg xs 1))) 0 with
 |false=>intro he;rw[show Ou (rg xs 2) (zX (rg xs 1))=0 from he] at e2;cases e2
 |true=>
 rw[e2,Bool.true_and] at h;rw[sT]
 cases e3:seq (rg xs 3) [45] with
 |false=>show(3:Int)≠0;decide
 |true=>
 rw[e3,Bool.true_and] at h;rw[sT]
 cases e4:ieq (pX (rg xs 4)) 0 with
 |false=>intro he;rw[show pX (rg xs 4)=0 from he] at e4;cases e4
 |true=>
 rw[e4,Bool.true_and] at h;rw[sT]
 cases e5:ieq (sQ (rg xs 5)) 0 with
 |false=>intro he;rw[show sQ (rg xs 5)=0 from he] at e5;cases e5
 |true=>
 rw[e5,Bool.true_and] at h;rw[sT]
 cases e6:rQ (sK (rg xs 5)) (jo (rg xs 5)) (sM (rg xs 5)) (vD (rg xs 4)) with
 |false=>show(1:Int)≠0;decide
 |true=>
 rw[e6,Bool.true_and] at h;rw[sT]
 cases e7:ieq (Bq (rg xs 6)) 0 with
 |false=>intro he;rw[show Bq (rg xs 6)=0 from he] at e7;cases e7
 |true=>
 rw[e7,Bool.true_and] at h;rw[sT]
 cases e8:ieq (lK (rg xs 7)) 0 with
 |false=>intro he;rw[show lK (rg xs 7)=0 from he] at e8;cases e8
 |true=>
 rw[e8,Bool.true_and] at h;rw[sT]
 cases e9:ai (-10800) (eU (rg xs 7)) with
 |false=>show(1:Int)≠0;decide
 |true=>
 rw[e9,Bool.true_and] at h;rw[sT]
 cases e10:ai (eU (rg xs 7)) 10800 with
 |false=>show(1:Int)≠0;decide
 |true=>
 rw[e10,Bool.true_and] at h;rw[sT];intro he;rw[he] at h
 cases h
end Nt.Ev.YtplklcejbmfgdaaGreatDoor
