/-
  Months: equations of functions, as the evaluator prints them. Words: months, for the evaluator, both sides. Rule: equations of functions, as the evaluator prints them. Rules: what the program's functions and the document's answer. Rules: what is read, and what may be. Rules: there and back, in plain terms. RuleLaw: equations of functions, as the evaluator prints them. Rules: the two statements.
-/
import Derived.Test.YtplklcejbmfgdaaGreatDoorML
import Derived.Test.YtplklcejbmfgdaaGreatDoorMG
import Derived.Test.YtplklcejbmfgdaaGreatDoorMH
import Derived.Test.YtplklcejbmfgdaaGreatDoorMJ
import Derived.Test.YtplklcejbmfgdaaGreatDoorMI
import Derived.Test.YtplklcejbmfgdaaGreatDoorMF
set_option linter.unusedVariables false
set_option linter.unusedSimpArgs false
set_option linter.unusedSectionVars false
namespace Nt.Ev.YtplklcejbmfgdaaGreatDoor
set_option maxRecDepth 100000
open Go Nt.Num Go.Proofs.YtplklcejbmfgdaaGreatDoor
noncomputable def Nb:V:=.rptr [.str,.str,.str,.str,.str,.str,.str,.str,.str,.str,.str,.str] (.agg [.str [74,97,110,117,97,114,121],.str [70,101,98,114,117,97,114,121],.str [77,97,114,99,104],.str [65,112,114,105,108],.str [77,97,121],.str [74,117,110,101],.str [74,117,108,121],.str [65,117,103,117,115,116],.str [83,101,112,116,101,109,98,101,114],.str [79,99,116,111,98,101,114],.str [78,111,118,101,109,98,101,114],.str [68,101,99,101,109,98,101,114]]) 0
noncomputable def mE:Env:=⟨Go.Proofs.Tryz.prog,fun g=>bif g==1 then some Nb else none⟩
noncomputable def VZ:aG:=fun a=>match a with|[.str s,.sl e [.str] o ws]=>some (ai (ak (au s) 1000) (ug ws),.tup [.int .i64 (mh s ws),.int .i64 (oM s ws)])|_=>none
noncomputable def mS:List (Nat×aG):=(89,VZ)::[]
theorem Un (F:Nat) (s:List UInt8) (K:V→Option V):
 bW mE (bT mE mS F 2) F 157 [V.str s] K=
 let A:=[V.str [74,97,110,117,97,114,121],V.str [70,101,98,114,117,97,114,121],V.str [77,97,114,99,104],V.str [65,112,114,105,108],V.str [77,97,121],V.str [74,117,110,101],V.str [74,117,108,121],V.str [65,117,103,117,115,116],V.str [83,101,112,116,101,109,98,101,114],V.str [79,99,116,111,98,101,114],V.str [78,111,118,101,109,98,101,114],V.str [68,101,99,101,109,98,101,114]];sel (ai (ak (au s) 1000) (ug A)) (sel (aK (ieq (oM s A) 0)) (K (V.tup [V.int .i64 0,V.int .i64 (oM s A)])) (K (V.tup [V.int .i64 (eu .i64 (mh s A) 1),V.int .i64 0]))) none:=by kernel_rfl
theorem Uo (F:Nat) (n:Int) (K:V→Option V):
 bW mE (bT mE mS F 2) F 61 [V.int .i64 n] K=
 let A:=[V.str [74,97,110,117,97,114,121],V.str [70,101,98,114,117,97,114,121],V.str [77,97,114,99,104],V.str [65,112,114,105,108],V.str [77,97,121],V.str [74,117,110,101],V.str [74,117,108,121],V.str [65,117,103,117,115,116],V.str [83,101,112,116,101,109,98,101,114],V.str [79,99,116,111,98,101,114],V.str [78,111,118,101,109,98,101,114],V.str [68,101,99,101,109,98,101,114]];let B:=jN .i64 n 1;let D:=K (V.str []);let C:=aH (ah (aX A B) 0);sel (aU n 1) D (sel (aU B 0) D (sel (ak (av A) B) D (sel (ai (ak 0 B) (aU B (av A))) (sel (ai (ak 0 3) (ak 3 (au C))) (K (V.str (dG C 0 3))) none) none))):=by kernel_rfl
open Go.RowKit Nt
theorem mE_ok:tY mE:=⟨by kernel_rfl,by kernel_rfl⟩
theorem toM {f:Nat} {args:List V} {r:V} (h:af nE f args r):af mE f args r:=af.env (E:=nE) rfl (fun n v h=>by cases h) h
theorem IB (s:List UInt8) (e:Nat) (o:Option Nat) (ws:List V) (hc:ai (ak (au s) 1000) (ug ws)=true):af mE 89 [.str s,.sl e [.str] o ws] (.tup [.int .i64 (mh s ws),.int .i64 (oM s ws)]):=by
 obtain⟨h1,h2⟩:=aR hc;exact toM (G9 s e o ws (Dq h1) h2)
theorem mS_ok:bn mE mS:=by
 unfold mS;refine bn.cons (fun args r h=>?_) bn.nil;all_goals (revert h;intro h;first|unfold VZ at h)
 all_goals (split at h;rotate_left; · cases h)
 all_goals (simp only[Option.some.injEq,Prod.mk.injEq] at h;obtain⟨hc,rfl⟩:=h)
 ·exact IB _ _ _ _ hc
def RZ:List V:=[.str [74,97,110,117,97,114,121],.str [70,101,98,114,117,97,114,121],.str [77,97,114,99,104],.str [65,112,114,105,108],.str [77,97,121],.str [74,117,110,101],.str [74,117,108,121],.str [65,117,103,117,115,116],.str [83,101,112,116,101,109,98,101,114],.str [79,99,116,111,98,101,114],.str [78,111,118,101,109,98,101,114],.str [68,101,99,101,109,98,101,114]]
def uz (s:List UInt8):Int:=if oM s RZ=0 then mh s RZ+1 else 0
def qc (s:List UInt8):Int:=oM s RZ
theorem moV_ok:ug RZ=true:=by decide
theorem Bo (s:List UInt8) (ws:List V) (h:ws.length≤1000) (h0:oM s ws=0):0≤mh s ws∧mh s ws<ws.length:=by
 unfold oM at h0;have:=mt_lt ⟨s.toArray⟩ (RY ws) (by omega);unfold mh;rw[show(RY ws).length=ws.length from List.length_map ..] at this;omega
theorem Yy (s:List UInt8) (hs:s.length≤1000):af mE 157 [.str s] (.tup [.int .i64 (uz s),.int .i64 (qc s)]):=by
 refine aj mE_ok mS_ok 5 2 ?_;have hc:ai (ak (au s) 1000) (ug RZ)=true:=by rw[aJ];exact⟨bB (by rw[aC];omega),moV_ok⟩
 (rw[Un];(conv=>zeta))
 refine(aB hc).trans ?_;unfold uz qc;by_cases h:oM s RZ=0
 ·have:=Bo s RZ (by decide) h
  have e:(RZ.length:Int)=12:=rfl;refine(aW (show aK (ieq (oM s RZ) 0)=false by rw[bq h];rfl)).trans ?_;rw[if_pos h];show some (V.tup [V.int .i64 (eu .i64 (mh s RZ) 1),V.int .i64 _])=_;rw[fU (by omega)];first|rfl|(rw[h];rfl)|(rw[h])
 ·refine(aB (show aK (ieq (oM s RZ) 0)=true by rw[bQ h];rfl)).trans ?_
  rw[if_neg h];rfl
def qd (n:Int):List UInt8:=if 1≤n∧n≤12 then(aH (RZ.getD (n-1).toNat .any)).take 3 else[]
theorem Yz (n:Int) (hn:Fits n):af mE 61 [.int .i64 n] (.str (qd n)):=by
 refine aj mE_ok mS_ok 5 2 ?_
 (rw[Uo];(conv=>zeta))
 by_cases h:1≤n∧n≤12
 ·obtain rfl|rfl|rfl|rfl|rfl|rfl|rfl|rfl|rfl|rfl|rfl|rfl:n=1∨n=2∨n=3∨n=4∨n=5∨n=6∨n=7∨n=8∨n=9∨n=10∨n=11∨n=12:=by omega
  all_goals rfl
 ·have e:qd n=[]:=by unfold qd;rw[if_neg h]
  rw[e];by_cases h1:n<1
  ·rw[aB (bE h1)]
  ·unfold Fits at hn
   have e1:jN .i64 n 1=n-1:=vg (by omega);rw[aW (bD (by omega)),e1,aW (bD (by omega)),aB (bB (by rw[aA];show(12:Int)≤n-1;omega))]
variable [nP]
open Nt.Civil
noncomputable def zE:Env:=⟨Go.Proofs.Tryz.prog,fun g=>bif g==2 then some CY else bif g==1 then some Nb else bif g==4 then some Ti else bif g==3 then some (.rptr [.int .i64] (.int .i64 nP.val) 0) else none⟩
noncomputable def zByteS:aG:=fun a=>match a with|[.str s,.int .u8 c]=>some (true,.int .i64 (uF s c))|_=>none
noncomputable def zLenS:aG:=fun a=>match a with|[.int .i64 y,.int .i64 m]=>some (ai (ak (-9223372036854775808) y) (ak y 9223372036854775807),.int .i64 (xu y m))|_=>none
noncomputable def zOnS:aG:=fun a=>match a with|[.agg [.int .i64 k,.int .i64 w,.int .i64 d]]=>some (true,.bool (LG k w d))|_=>none
noncomputable def zS0:List (Nat×aG):=(43,zByteS)::(73,zLenS)::(71,zOnS)::[]
def Sy (c:UInt8):Bool:=(decide (65≤c.toNat)&&decide (c.toNat≤90))||(decide (97≤c.toNat)&&decide (c.toNat≤122))||c==95
def Sz (c:UInt8):Bool:=(decide (48≤c.toNat)&&decide (c.toNat≤57))||c==45||c==43||c==47||c==46
def LH (k:Nat) (c:UInt8):Bool:=Sy c||(decide (0<k)&&Sz c)
def B6:Nat→List UInt8→Bool|_,[]=>true|k,c::t=>LH k c&&B6 (k+1) t
def dZ (s:List UInt8):Int:=if 64<s.length then 9 else if B6 0 s=true∧s≠[] then 0 else 10
def qf (k w d m:Int):Bool:=LG k w d&&decide (1≤m∧m≤12∧d≤xu 1 m)
def yQ (s:List UInt8):Int:=(pz s).1
def JW (s:List UInt8):Int:=(pz s).2
def Z5 (s:List UInt8) (n:Int):Int:=(Cg s n).1
def Oi (s:List UInt8) (n:Int):Int:=(Cg s n).2
def Ov (s:List UInt8):Int:=(tT s).1
def Ow (s:List UInt8):Int:=(tT s).2.1
def yR (s:List UInt8):Int:=(tT s).2.2
def zX (n b:Int):List UInt8:=(F6 n b).1
def tcW (n b:Int):Int:=(F6 n b).2
def eX (s:List UInt8):Int:=(aF.read s).1
def lH (s:List UInt8):Int:=(aF.read s).2
def zY (n:Int):List UInt8:=(aF.text n).1
def amE (n:Int):Int:=(aF.text n).2
def Ox (n:Int):List UInt8:=(gu n).1
def fxW (n:Int):Int:=(gu n).2
def y9 (m n:Int):List UInt8:=(jE m n).1
def Xo (m n:Int):Int:=(jE m n).2
noncomputable def Ms:aG:=fun a=>match a with|[.str s]=>some (ak (au s) 1000,.int .i64 (dZ s))|_=>none
noncomputable def Cq:aG:=fun a=>match a with|[.agg [.int .i64 k,.int .i64 w,.int .i64 d],.int .i64 m]=>some (true,.bool (qf k w d m))|_=>none
noncomputable def zFromS:aG:=fun a=>match a with|[.str s]=>some (ak (au s) 900,.tup [.int .i64 (yQ s),.int .i64 (JW s)])|_=>none
noncomputable def zToS:aG:=fun a=>match a with|[.str s,.int .i64 n]=>some (ak (au s) 900,.tup [.int .i64 (Z5 s n),.int .i64 (Oi s n)])|_=>none
noncomputable def Vj:aG:=fun a=>match a with|[.str s]=>some (ak (au s) 900,.tup [.int .i64 (uz s),.int .i64 (qc s)])|_=>none
noncomputable def Vk:aG:=fun a=>match a with|[.str s]=>some (ak (au s) 900,.tup [.agg [.int .i64 (qX s),.int .i64 (iD s),.int .i64 (qY s)],.int .i64 (sw s)])|_=>none
noncomputable def Vl:aG:=fun a=>match a with|[.str s]=>some (ak (au s) 900,.tup [.agg [.int .i64 (Ov s),.int .i64 (Ow s)],.int .i64 (yR s)])|_=>none
noncomputable def Vm:aG:=fun a=>match a with|[.str s]=>some (ak (au s) 900,.tup [.int .i64 (eX s),.int .i64 (lH s)])|_=>none
noncomputable def zLetS:aG:=fun a=>match a with|[.str s]=>some (ak (au s) 900,.tup [.str (Ag s),.int .i64 (zZ s)])|_=>none
noncomputable def zFxS:aG:=fun a=>match a with|[.int .i64 n]=>some (true,.tup [.str (Ox n),.int .i64 (fxW n)])|_=>none
noncomputable def zTxS:aG:=fun a=>match a with|[.int .i64 m,.int .i64 n]=>some (true,.tup [.str (y9 m n),.int .i64 (Xo m n)])|_=>none
noncomputable def Xp:aG:=fun a=>match a with|[.agg [.int .i64 k,.int .i64 w,.int .i64 d]]=>some (true,.tup [.str (fe k w d),.int .i64 (dsTe k w d)])|_=>none
noncomputable def Xq:aG:=fun a=>match a with|[.agg [.int .i64 n,.int .i64 b]]=>some (true,.tup [.str (zX n b),.int .i64 (tcW n b)])|_=>none
noncomputable def Xr:aG:=fun a=>match a with|[.agg [.int .i64 n,.int .i64 b]]=>some (true,.bool (iq n b))|_=>none
noncomputable def Xt:aG:=fun a=>match a with|[.int .i64 n]=>some (ai (ak (-9223372036854775808) n) (ak n 9223372036854775807),.tup [.str (zY n),.int .i64 (amE n)])|_=>none
noncomputable def zLtS:aG:=fun a=>match a with|[.str s]=>some (ak (au s) 900,.tup [.str (I7 s),.int .i64 (RF s)])|_=>none
noncomputable def Xu:aG:=fun a=>match a with|[.int .i64 n]=>some (ai (ak (-9223372036854775808) n) (ak n 9223372036854775807),.str (qd n))|_=>none
noncomputable def zS:List (Nat×aG):=(16,Ms)::(39,Cq)::(155,zFromS)::(156,zToS)::(157,Vj)::(159,Vk)::(161,Vl)::(148,Vm)::(70,zLetS)::(37,zFxS)::(36,zTxS)::(58,Xp)::(59,Xq)::(40,Xr)::(60,Xt)::(38,zLtS)::(61,Xu)::zS0
def odP (s:List UInt8) (m:Int):Int×Int×Int×Int:=if sw s=0 then(if qf (qX s) (iD s) (qY s) m=true then(qX s,iD s,qY s,0) else(0,0,0,1)) else(qX s,iD s,qY s,sw s)
def odK (s:List UInt8) (m:Int):Int:=(odP s m).1
def odW (s:List UInt8) (m:Int):Int:=(odP s m).2.1
def odD (s:List UInt8) (m:Int):Int:=(odP s m).2.2.1
def odE (s:List UInt8) (m:Int):Int:=(odP s m).2.2.2
def svP (s:List UInt8):Int×Int:=if lH s=0 then(if eX s< -10800∨10800<eX s then(0,1) else(eX s,0)) else(eX s,lH s)
def svI (s:List UInt8):Int:=(svP s).1
def svW (s:List UInt8):Int:=(svP s).2
def yrB (f t:Int):Bool:=ak (-32767) f&&(ak f t&&ak t 32767)
def RG (n:List UInt8) (f t m k w d c b v:Int) (l:List UInt8):Bool:=ieq (dZ n) 0&&(yrB f t&&(qf k w d m&&(iq c b&&((ak (-10800) v&&ak v 10800)&&ieq (RF l) 0))))
noncomputable def pK (F:Nat) (ns:List Nat) (n:Nat) (x0:List UInt8) (x2:Int) (x9:List V) (x10 E6:Int) (K:V→Option V):Option V:=
 iG zE zS0 F 2 16 [1,1,0,1,0] ns K n (mY 48 [(0,V.str x0),(2,V.int .i64 x2),(9,V.sl 5 [Kd.int .u8] none x9),(10,V.int .i64 x10),(11,V.int .i64 E6)] [])
theorem Lb (F:Nat) (s:List UInt8) (K:V→Option V):
 bW zE (bT zE zS0 F 2) F 16 [V.str s] K=
 sel (aU 64 (au s)) (K (V.int .i64 9)) (sel (JZ s) (pK F [] F s 0 (aI s) (av (aI s)) 0 K) none):=by kernel_rfl
theorem yC (F n:Nat) (x0:List UInt8) (x2:Int) (x9:List V) (x10 E6:Int) (K:V→Option V):
 pK F [] (n+1) x0 x2 x9 x10 E6 K=
 let B:=pK F [] n x0 x2 x9 x10 (eu .i64 E6 1) K;let C:=asInt (ah (aX x9 E6) 0);let E:=K (V.int .i64 10);let D:=sel (ak 0 (uF [45,43,47,46] C)) B E;let G:=jY .or .u8 C 32;let A:=sel (ieq C 95) B (sel (aU 0 E6) (sel (ak 48 C) (sel (ak C 57) B D) D) E);sel (aU E6 x10) (sel (ai (ak 0 E6) (aU E6 (av x9))) (sel (ak 97 G) (sel (ak G 122) B A) A) none) (sel (seq x0 []) E (K (V.int .i64 0))):=by kernel_rfl
theorem YA (F:Nat) (k w d m:Int) (K:V→Option V):
 bW zE (bT zE zS0 F 3) F 39 [V.agg [V.int .i64 k,V.int .i64 w,V.int .i64 d],V.int .i64 m] K=
 let A:=K (V.bool false);sel (LG k w d) (sel (ak 1 m) (sel (ak m 12) (K (V.bool (ak d (xu 1 m)))) A) A) A:=by kernel_rfl
theorem Lc (F:Nat) (xs:List V) (K:V→Option V):
 bW zE (bT zE zS F 10) F 110 [V.sl 9 [Kd.str] none xs] K=
 let B:=aH (ah (aX xs 5) 0);let C:=aH (ah (aX xs 1) 0);let D:=aH (ah (aX xs 7) 0);let E:=V.int .i64 0;let G:=aH (ah (aX xs 4) 0);let H:=aH (ah (aX xs 6) 0);let I:=aH (ah (aX xs 0) 0);let J:=aH (ah (aX xs 2) 0);let L:=aH (ah (aX xs 8) 0);let N:=ai (ak 0 0) (aU 0 (av xs));let A:=V.agg [V.str [],E,E,E,E,E,E,E,E,E,V.str []];let M:=K (V.tup [A,V.int .i64 1]);sel (aK (ak 9 (av xs))) (K (V.tup [A,V.int .i64 5])) (sel (aK (ak (av xs) 9)) (K (V.tup [A,V.int .i64 6])) (sel N (sel N (sel (ak (au I) 1000) (sel (aK (ieq (dZ I) 0)) (K (V.tup [A,V.int .i64 (dZ I)])) (sel (ai (ak 0 1) (aU 1 (av xs))) (sel (ak (au C) 900) (sel (aK (ieq (JW C) 0)) (K (V.tup [A,V.int .i64 (JW C)])) (sel (ai (ak 0 2) (aU 2 (av xs))) (sel (ak (au J) 900) (sel (aK (ieq (Oi J (yQ C)) 0)) (K (V.tup [A,V.int .i64 (Oi J (yQ C))])) (sel (ai (ak 0 3) (aU 3 (av xs))) (sel (aK (seq (aH (ah (aX xs 3) 0)) [45])) (K (V.tup [A,V.int .i64 3])) (sel (ai (ak 0 4) (aU 4 (av xs))) (sel (ak (au G) 900) (sel (aK (ieq (qc G) 0)) (K (V.tup [A,V.int .i64 (qc G)])) (sel (ai (ak 0 5) (aU 5 (av xs))) (sel (ak (au B) 900) (sel (aK (ieq (sw B) 0)) (K (V.tup [A,V.int .i64 (sw B)])) (sel (aK (qf (qX B) (iD B) (qY B) (uz G))) M (sel (ai (ak 0 6) (aU 6 (av xs))) (sel (ak (au H) 900) (sel (aK (ieq (yR H) 0)) (K (V.tup [A,V.int .i64 (yR H)])) (sel (ai (ak 0 7) (aU 7 (av xs))) (sel (ak (au D) 900) (sel (aK (ieq (lH D) 0)) (K (V.tup [A,V.int .i64 (lH D)])) (sel (ak (-10800) (eX D)) (sel (aK (ak (eX D) 10800)) M (sel (ai (ak 0 8) (aU 8 (av xs))) (sel (ak (au L) 900) (sel (aK (ieq (zZ L) 0)) (K (V.tup [A,V.int .i64 (zZ L)])) (K (V.tup [V.agg [V.str I,V.int .i64 (yQ C),V.int .i64 (Z5 J (yQ C)),V.int .i64 (uz G),V.int .i64 (qX B),V.int .i64 (iD B),V.int .i64 (qY B),V.int .i64 (Ov H),V.int .i64 (Ow H),V.int .i64 (eX D),V.str (Ag L)],E]))) none) none)) M)) none) none)) none) none))) none) none)) none) none)) none)) none) none)) none) none)) none) none) none)):=by kernel_rfl
theorem Up (F:Nat) (a0 a1 a2 a3 a4 a5 a6 a7 a8:List UInt8) (K:V→Option V):
 bW zE (bT zE zS F 10) F 110 [V.sl 9 [Kd.str] none [V.str a0,V.str a1,V.str a2,V.str a3,V.str a4,V.str a5,V.str a6,V.str a7,V.str a8]] K=
 let B:=av [V.str a0,V.str a1,V.str a2,V.str a3,V.str a4,V.str a5,V.str a6,V.str a7,V.str a8];let C:=V.int .i64 0;let G:=Oi a2 (yQ a1);let A:=V.agg [V.str [],C,C,C,C,C,C,C,C,C,V.str []];let E:=ai (ak 0 0) (aU 0 B);let D:=K (V.tup [A,V.int .i64 1]);sel (aK (ak 9 B)) (K (V.tup [A,V.int .i64 5])) (sel (aK (ak B 9)) (K (V.tup [A,V.int .i64 6])) (sel E (sel E (sel (ak (au a0) 1000) (sel (aK (ieq (dZ a0) 0)) (K (V.tup [A,V.int .i64 (dZ a0)])) (sel (ai (ak 0 1) (aU 1 B)) (sel (ak (au a1) 900) (sel (aK (ieq (JW a1) 0)) (K (V.tup [A,V.int .i64 (JW a1)])) (sel (ai (ak 0 2) (aU 2 B)) (sel (ak (au a2) 900) (sel (aK (ieq G 0)) (K (V.tup [A,V.int .i64 G])) (sel (ai (ak 0 3) (aU 3 B)) (sel (aK (seq a3 [45])) (K (V.tup [A,V.int .i64 3])) (sel (ai (ak 0 4) (aU 4 B)) (sel (ak (au a4) 900) (sel (aK (ieq (qc a4) 0)) (K (V.tup [A,V.int .i64 (qc a4)])) (sel (ai (ak 0 5) (aU 5 B)) (sel (ak (au a5) 900) (sel (aK (ieq (sw a5) 0)) (K (V.tup [A,V.int .i64 (sw a5)])) (sel (aK (qf (qX a5) (iD a5) (qY a5) (uz a4))) D (sel (ai (ak 0 6) (aU 6 B)) (sel (ak (au a6) 900) (sel (aK (ieq (yR a6) 0)) (K (V.tup [A,V.int .i64 (yR a6)])) (sel (ai (ak 0 7) (aU 7 B)) (sel (ak (au a7) 900) (sel (aK (ieq (lH a7) 0)) (K (V.tup [A,V.int .i64 (lH a7)])) (sel (ak (-10800) (eX a7)) (sel (aK (ak (eX a7) 10800)) D (sel (ai (ak 0 8) (aU 8 B)) (sel (ak (au a8) 900) (sel (aK (ieq (zZ a8) 0)) (K (V.tup [A,V.int .i64 (zZ a8)])) (K (V.tup [V.agg [V.str a0,V.int .i64 (yQ a1),V.int .i64 (Z5 a2 (yQ a1)),V.int .i64 (uz a4),V.int .i64 (qX a5),V.int .i64 (iD a5),V.int .i64 (qY a5),V.int .i64 (Ov a6),V.int .i64 (Ow a6),V.int .i64 (eX a7),V.str (Ag a8)],C]))) none) none)) D)) none) none)) none) none))) none) none)) none) none)) none)) none) none)) none) none)) none) none) none)):=by kernel_rfl
theorem Vn:tY zE:=⟨by kernel_rfl,by kernel_rfl⟩
theorem toZ {f:Nat} {args:List V} {r:V} (h:af nE f args r):af zE f args r:=af.env (E:=nE) rfl (fun n v h=>by cases h) h
theorem toZy {f:Nat} {args:List V} {r:V} (h:af yE f args r):af zE f args r:=af.env (E:=yE) rfl (fun n v h=>by cases h) h
theorem toZv {f:Nat} {args:List V} {r:V} (h:af vE f args r):af zE f args r:=af.env (E:=vE) rfl (fun n v h=>by cases h) h
theorem toZw {f:Nat} {args:List V} {r:V} (h:af wE f args r):af zE f args r:=af.env (E:=wE) rfl (fun n v h=>by
 unfold wE at h;simp only at h
 cases e:n==2 with
 |true=>
  obtain rfl:n=2:=by simpa using e
  exact h
 |false=>rw[e] at h;cases h) h
theorem toZm {f:Nat} {args:List V} {r:V} (h:af mE f args r):af zE f args r:=af.env (E:=mE) rfl (fun n v h=>by
 unfold mE at h;simp only at h
 cases e:n==1 with
 |true=>
  obtain rfl:n=1:=by simpa using e
  exact h
 |false=>rw[e] at h;cases h) h
theorem toZf {f:Nat} {args:List V} {r:V} (h:af fE f args r):af zE f args r:=af.env (E:=fE) rfl (fun n v h=>by
 unfold fE at h;simp only at h
 cases e:n==3 with
 |true=>
  obtain rfl:n=3:=by simpa using e
  exact h
 |false=>rw[e] at h;cases h) h
theorem toZa {f:Nat} {args:List V} {r:V} (h:af aE f args r):af zE f args r:=af.env (E:=aE) rfl (fun n v h=>by
 unfold aE at h;simp only at h
 cases e:n==4 with
 |true=>
   obtain rfl:n=4:=by simpa using e
   exact h
 |false=>
  rw[e] at h;simp only[cond_false] at h
  cases e:n==3 with
  |true=>
    obtain rfl:n=3:=by simpa using e
    exact h
  |false=>rw[e] at h;cases h) h
theorem len_z {s:List UInt8} (h:ak (au s) 1000=true):s.length≤1000:=by rw[ay,aC] at h;omega
theorem sO {s:List UInt8} (h:ak (au s) 900=true):s.length≤900:=by rw[ay,aC] at h;omega
theorem Gt {m:Int} (h:ai (ak (-9223372036854775808) m) (ak m 9223372036854775807)=true):Fits m:=by rw[aJ,ay,ay] at h;exact h
theorem YB (s:List UInt8) (c:Int) (hc:true=true):af zE 43 [.str s,.int .u8 c] (.int .i64 (uF s c)):=toZ (idx_c s c)
theorem zLenS_ok (y m:Int) (hc:ai (ak (-9223372036854775808) y) (ak y 9223372036854775807)=true):af zE 73 [.int .i64 y,.int .i64 m] (.int .i64 (xu y m)):=toZv (vLen_ev y m (Gt hc))
theorem zOnS_ok (k w d:Int) (hc:true=true):af zE 71 [.agg [.int .i64 k,.int .i64 w,.int .i64 d]] (.bool (LG k w d)):=toZw (K9 k w d)
theorem Mt:bn zE zS0:=by
 unfold zS0;refine bn.cons (fun args r h=>?_) (bn.cons (fun args r h=>?_) (bn.cons (fun args r h=>?_) bn.nil));all_goals (revert h;intro h;first|unfold zByteS at h|unfold zLenS at h|unfold zOnS at h)
 all_goals (split at h;rotate_left; · cases h)
 all_goals (simp only[Option.some.injEq,Prod.mk.injEq] at h;obtain⟨hc,rfl⟩:=h)
 ·exact YB _ _ rfl
 ·exact zLenS_ok _ _ hc
 ·exact zOnS_ok _ _ _ rfl
theorem tK (c:UInt8):(ak 97 (jY .or .u8 ((c.toNat:Nat):Int) 32)&&ak (jY .or .u8 ((c.toNat:Nat):Int) 32) 122)=((decide (65≤c.toNat)&&decide (c.toNat≤90))||(decide (97≤c.toNat)&&decide (c.toNat≤122))):=by
 have h: ∀n:Fin 256,(ak 97 (jY .or .u8 ((n.val:Nat):Int) 32)&&ak (jY .or .u8 ((n.val:Nat):Int) 32) 122)=((decide (65≤n.val)&&decide (n.val≤90))||(decide (97≤n.val)&&decide (n.val≤122))):=by decide+kernel
 exact h ⟨c.toNat,c.toNat_lt⟩
theorem Nc (c:UInt8):ak 0 (uF [45,43,47,46] ((c.toNat:Nat):Int))=(c==45||c==43||c==47||c==46):=by
 have h: ∀n:Fin 256,ak 0 (uF [45,43,47,46] ((n.val:Nat):Int))=(UInt8.ofNat n==45||UInt8.ofNat n==43||UInt8.ofNat n==47||UInt8.ofNat n==46):=by decide+kernel
 have:=h ⟨c.toNat,c.toNat_lt⟩;simpa using this
theorem Tj (c d:UInt8):ieq ((c.toNat:Nat):Int) ((d.toNat:Nat):Int)=(c==d):=by
 rw[Bool.eq_iff_iff,aL,beq_iff_eq,←UInt8.toNat_inj];omega
theorem Gu (c:UInt8) (a:Nat):ak (a:Int) ((c.toNat:Nat):Int)=decide (a≤c.toNat):=by
 rw[Bool.eq_iff_iff,ay,decide_eq_true_eq];omega
theorem AY (c:UInt8) (a:Nat):ak ((c.toNat:Nat):Int) (a:Int)=decide (c.toNat≤a):=by
 rw[Bool.eq_iff_iff,ay,decide_eq_true_eq];omega
theorem Uq (s:List UInt8) (x2:Int) (F n k:Nat) (hk:k<s.length) (hs:s.length≤64):pK F [] (n+1) s x2 (aI s) (av (aI s)) (k:Int) some=
  if LH k (s[k])=true then pK F [] n s x2 (aI s) (av (aI s)) ((k+1:Nat):Int) some else some (.int .i64 10):=by
 have hl:(aI s).length=s.length:=by unfold aI;rw[List.length_map]
 have e:asInt (ah (aX (aI s) (k:Int)) 0)=((s[k].toNat:Nat):Int):=by
  rw[ja];unfold aI;rw[List.getD_eq_getElem?_getD,List.getElem?_map,List.getElem?_eq_getElem hk];rfl
 have e95:ieq ((s[k].toNat:Nat):Int) 95=(s[k]==95):=Tj s[k] 95;have e48:ak 48 ((s[k].toNat:Nat):Int)=decide (48≤s[k].toNat):=Gu s[k] 48;have e57:ak ((s[k].toNat:Nat):Int) 57=decide (s[k].toNat≤57):=AY s[k] 57;have e0:aU 0 (k:Int)=decide (0<k):=by rw[Bool.eq_iff_iff,bf,decide_eq_true_eq];omega
 have hL:=tK s[k]
 (rw[yC];(conv=>zeta);rw[aB (bE (by rw[aA,hl];omega)),aB (by rw[aJ,ay,bf,aA,hl];omega),e,e95,e48,e57,e0,Nc,fU (by omega),show(k:Int)+1=((k+1:Nat):Int) by omega])
 unfold LH Sy Sz;rw[←hL];generalize pK F [] n s x2 (aI s) (av (aI s)) ((k+1:Nat):Int) some=N;generalize ak 97 (jY .or .u8 ((s[k].toNat:Nat):Int) 32)=b1;generalize ak (jY .or .u8 ((s[k].toNat:Nat):Int) 32) 122=b2;generalize (s[k]==95)=b3;generalize decide (0<k)=b4;generalize decide (48≤s[k].toNat)=b5;generalize decide (s[k].toNat≤57)=b6;generalize (s[k]==45)=b7;generalize (s[k]==43)=b8;generalize (s[k]==47)=b9;generalize (s[k]==46)=b10
 cases b1<;>cases b2<;>cases b3<;>cases b4<;>cases b5<;>cases b6<;>cases b7<;>cases b8<;>cases b9<;>cases b10<;>rfl
theorem Ur (s:List UInt8) (x2:Int) (F:Nat) (hs:s.length≤64): ∀(n k:Nat),k≤s.length→s.length-k<n→
  pK F [] n s x2 (aI s) (av (aI s)) (k:Int) some=some (.int .i64 (if B6 k (s.drop k)=true then(if s=[] then 10 else 0) else 10)):=by
 intro n;induction n with
 |zero=>intro k _ h;omega
 |succ n ih=>
  intro k hk hn;by_cases h:k<s.length
  ·rw[Uq s x2 F n k h hs,List.drop_eq_getElem_cons h]
   show _=some (V.int .i64 (if(LH k s[k]&&B6 (k+1) (s.drop (k+1)))=true then _ else _))
   cases hc:LH k s[k] with
   |true=>rw[if_pos rfl,ih (k+1) (by omega) (by omega),Bool.true_and]
   |false=>rw[if_neg (by decide),Bool.false_and,if_neg (by decide)]
  ·have hl:(aI s).length=s.length:=by unfold aI;rw[List.length_map]
   (rw[yC];(conv=>zeta);rw[aW (bD (by rw[aA,hl];omega)),List.drop_of_length_le (by omega),if_pos (show B6 k []=true from rfl),bV])
   by_cases h0:s=[]
   ·rw[if_pos (by rw[dh];exact h0),if_pos h0]
   ·rw[if_neg (by rw[dh];exact h0),if_neg h0]
theorem Tk (s:List UInt8):(if B6 0 s=true then(if s=[] then(10:Int) else 0) else 10)=if B6 0 s=true∧s≠[] then 0 else 10:=by
 by_cases h:B6 0 s=true
 ·rw[if_pos h]
  by_cases h0:s=[]
  ·rw[if_pos h0,if_neg (fun e=>e.2 h0)]
  ·rw[if_neg h0,if_pos ⟨h,h0⟩]
 ·rw[if_neg h,if_neg (fun e=>h e.1)]
theorem zName_ev (s:List UInt8) (hs:s.length≤1000):af zE 16 [.str s] (.int .i64 (dZ s)):=by
 refine aj Vn Mt 100 2 ?_;rw[Lb];unfold dZ;by_cases h:64<s.length
 ·rw[aB (bE (by rw[aC];omega)),if_pos h]
 ·rw[aW (bD (by rw[aC];omega)),if_neg h,aB (by rw[CV];omega)]
  have:=Ur s 0 100 (by omega) 100 0 (by omega) (by omega);rw[List.drop_zero,Tk] at this;exact this
theorem CZ (s:List UInt8) (hc:ak (au s) 1000=true):af zE 16 [.str s] (.int .i64 (dZ s)):=zName_ev s (len_z hc)
theorem ft_tree (k w d m y:Int) (hy:uJ y=false):sel (LG k w d) (sel (ak 1 m) (sel (ak m 12) (some (V.bool (ak d (xu y m)))) (some (V.bool false))) (some (V.bool false))) (some (V.bool false))=some (.bool (qf k w d m)):=by
 have e:xu y m=xu 1 m:=by unfold xu;rw[hy];rfl
 rw[e];unfold qf;have e2:decide (1≤m∧m≤12∧d≤xu 1 m)=(ak 1 m&&(ak m 12&&ak d (xu 1 m))):=by
  rw[Bool.eq_iff_iff,Bool.and_eq_true,Bool.and_eq_true,ay,ay,ay,decide_eq_true_eq]
 rw[e2];generalize ak d (xu 1 m)=x
 cases LG k w d<;>cases ak 1 m<;>cases ak m 12<;>rfl
theorem C4 (k w d m:Int) (hc:true=true):af zE 39 [.agg [.int .i64 k,.int .i64 w,.int .i64 d],.int .i64 m] (.bool (qf k w d m)):=by
 refine aj Vn Mt 5 3 ?_
 (rw[YA];(conv=>zeta))
 exact ft_tree k w d m 1 (by decide)
theorem YC (s:List UInt8) (hc:ak (au s) 900=true):af zE 155 [.str s] (.tup [.int .i64 (yQ s),.int .i64 (JW s)]):=toZy (yFrom_ev s (by have:=sO hc;omega))
theorem zToS_ok (s:List UInt8) (n:Int) (hc:ak (au s) 900=true):af zE 156 [.str s,.int .i64 n] (.tup [.int .i64 (Z5 s n),.int .i64 (Oi s n)]):=toZy (yTo_ev s n (by have:=sO hc;omega))
theorem PV (s:List UInt8) (hc:ak (au s) 900=true):af zE 157 [.str s] (.tup [.int .i64 (uz s),.int .i64 (qc s)]):=toZm (Yy s (by have:=sO hc;omega))
theorem PX (s:List UInt8) (hc:ak (au s) 900=true):af zE 159 [.str s] (.tup [.agg [.int .i64 (qX s),.int .i64 (iD s),.int .i64 (qY s)],.int .i64 (sw s)]):=toZw (dRead_ev s (sO hc))
theorem PY (s:List UInt8) (hc:ak (au s) 900=true):af zE 161 [.str s] (.tup [.agg [.int .i64 (Ov s),.int .i64 (Ow s)],.int .i64 (yR s)]):=toZa (cRead_ev s (by have:=sO hc;omega))
theorem PZ (s:List UInt8) (hc:ak (au s) 900=true):af zE 148 [.str s] (.tup [.int .i64 (eX s),.int .i64 (lH s)]):=toZa (P4 s (by have:=sO hc;omega))
theorem P5 (s:List UInt8) (hc:ak (au s) 900=true):af zE 70 [.str s] (.tup [.str (Ag s),.int .i64 (zZ s)]):=toZf (IC s (bB (by have:=sO hc;rw[aC];omega)))
theorem V2 (n:Int) (hc:true=true):af zE 37 [.int .i64 n] (.tup [.str (Ox n),.int .i64 (fxW n)]):=toZy (Oa n)
theorem V3 (m n:Int) (hc:true=true):af zE 36 [.int .i64 m,.int .i64 n] (.tup [.str (y9 m n),.int .i64 (Xo m n)]):=toZy (Us m n)
theorem Nf (k w d:Int) (hc:true=true):af zE 58 [.agg [.int .i64 k,.int .i64 w,.int .i64 d]] (.tup [.str (fe k w d),.int .i64 (dsTe k w d)]):=toZw (dText_ev k w d)
theorem Ng (n b:Int) (hc:true=true):af zE 59 [.agg [.int .i64 n,.int .i64 b]] (.tup [.str (zX n b),.int .i64 (tcW n b)]):=toZa (Ut n b)
theorem Nh (n b:Int) (hc:true=true):af zE 40 [.agg [.int .i64 n,.int .i64 b]] (.bool (iq n b)):=toZa (YD n b)
theorem Ni (n:Int) (hc:ai (ak (-9223372036854775808) n) (ak n 9223372036854775807)=true):af zE 60 [.int .i64 n] (.tup [.str (zY n),.int .i64 (amE n)]):=toZa (P6 n (Gt hc).1 (Gt hc).2)
theorem zLtS_ok (s:List UInt8) (hc:ak (au s) 900=true):af zE 38 [.str s] (.tup [.str (I7 s),.int .i64 (RF s)]):=toZf (YE s (by have:=sO hc;omega))
theorem Nj (n:Int) (hc:ai (ak (-9223372036854775808) n) (ak n 9223372036854775807)=true):af zE 61 [.int .i64 n] (.str (qd n)):=toZm (Yz n (Gt hc))
theorem zS_ok:bn zE zS:=by
 unfold zS;refine bn.cons (fun args r h=>?_) (bn.cons (fun args r h=>?_) (bn.cons (fun args r h=>?_) (bn.cons (fun args r h=>?_) (bn.cons (fun args r h=>?_) (bn.cons (fun args r h=>?_) (bn.cons (fun args r h=>?_) (bn.cons (fun args r h=>?_) (bn.cons (fun args r h=>?_) (bn.cons (fun args r h=>?_) (bn.cons (fun args r h=>?_) (bn.cons (fun args r h=>?_) (bn.cons (fun args r h=>?_) (bn.cons (fun args r h=>?_) (bn.cons (fun args r h=>?_) (bn.cons (fun args r h=>?_) (bn.cons (fun args r h=>?_) Mt))))))))))))))));all_goals (revert h;intro h;first|unfold Ms at h|unfold Cq at h|unfold zFromS at h|unfold zToS at h|unfold Vj at h|unfold Vk at h|unfold Vl at h|unfold Vm at h|unfold zLetS at h|unfold zFxS at h|unfold zTxS at h|unfold Xp at h|unfold Xq at h|unfold Xr at h|unfold Xt at h|unfold zLtS at h|unfold Xu at h)
 all_goals (split at h;rotate_left; · cases h)
 all_goals (simp only[Option.some.injEq,Prod.mk.injEq] at h;obtain⟨hc,rfl⟩:=h)
 ·exact CZ _ hc
 ·exact C4 _ _ _ _ rfl
 ·exact YC _ hc
 ·exact zToS_ok _ _ hc
 ·exact PV _ hc
 ·exact PX _ hc
 ·exact PY _ hc
 ·exact PZ _ hc
 ·exact P5 _ hc
 ·exact V2 _ rfl
 ·exact V3 _ _ rfl
 ·exact Nf _ _ _ rfl
 ·exact Ng _ _ rfl
 ·exact Nh _ _ rfl
 ·exact Ni _ hc
 ·exact zLtS_ok _ hc
 ·exact Nj _ hc
def rg (xs:List V) (i:Int):List UInt8:=aH (ah (aX xs i) 0)
def sV (v:V):Bool:=match v with| .str s=>ak (au s) 900|_=>false
def gB (xs:List V):Bool:=xs.all sV
def Fy (xs:List V):Bool:=
 ieq (av xs) 9&&(ieq (dZ (rg xs 0)) 0&&(ieq (JW (rg xs 1)) 0&&(ieq (Oi (rg xs 2) (yQ (rg xs 1))) 0&&(seq (rg xs 3) [45]&&(ieq (qc (rg xs 4)) 0&&(ieq (sw (rg xs 5)) 0&&(qf (qX (rg xs 5)) (iD (rg xs 5)) (qY (rg xs 5)) (uz (rg xs 4))&&(ieq (yR (rg xs 6)) 0&&(ieq (lH (rg xs 7)) 0&&(ak (-10800) (eX (rg xs 7))&&(ak (eX (rg xs 7)) 10800&&ieq (zZ (rg xs 8)) 0)))))))))))
def rdE (xs:List V):Int:=
 sel (aU (av xs) 9) 5 (sel (aU 9 (av xs)) 6 (sel (ieq (dZ (rg xs 0)) 0) (sel (ieq (JW (rg xs 1)) 0) (sel (ieq (Oi (rg xs 2) (yQ (rg xs 1))) 0) (sel (seq (rg xs 3) [45]) (sel (ieq (qc (rg xs 4)) 0) (sel (ieq (sw (rg xs 5)) 0) (sel (qf (qX (rg xs 5)) (iD (rg xs 5)) (qY (rg xs 5)) (uz (rg xs 4))) (sel (ieq (yR (rg xs 6)) 0) (sel (ieq (lH (rg xs 7)) 0) (sel (ak (-10800) (eX (rg xs 7))) (sel (ak (eX (rg xs 7)) 10800) (zZ (rg xs 8)) 1) 1) (lH (rg xs 7))) (yR (rg xs 6))) 1) (sw (rg xs 5))) (qc (rg xs 4))) 3) (Oi (rg xs 2) (yQ (rg xs 1)))) (JW (rg xs 1))) (dZ (rg xs 0))))
def R3 (xs:List V):List UInt8:=sel (Fy xs) (rg xs 0) []
def R4 (xs:List V):Int:=sel (Fy xs) (yQ (rg xs 1)) 0
def R5 (xs:List V):Int:=sel (Fy xs) (Z5 (rg xs 2) (yQ (rg xs 1))) 0
def R6 (xs:List V):Int:=sel (Fy xs) (uz (rg xs 4)) 0
def R7 (xs:List V):Int:=sel (Fy xs) (qX (rg xs 5)) 0
def R8 (xs:List V):Int:=sel (Fy xs) (iD (rg xs 5)) 0
def R9 (xs:List V):Int:=sel (Fy xs) (qY (rg xs 5)) 0
def Sb (xs:List V):Int:=sel (Fy xs) (Ov (rg xs 6)) 0
def Sc (xs:List V):Int:=sel (Fy xs) (Ow (rg xs 6)) 0
def Sd (xs:List V):Int:=sel (Fy xs) (eX (rg xs 7)) 0
def za (xs:List V):List UInt8:=sel (Fy xs) (Ag (rg xs 8)) []
def Oy (xs:List V):Int:=sel (Fy xs) 0 (rdE xs)
def rdV (xs:List V):V:=.tup [.agg [.str (R3 xs),.int .i64 (R4 xs),.int .i64 (R5 xs),.int .i64 (R6 xs),.int .i64 (R7 xs),.int .i64 (R8 xs),.int .i64 (R9 xs),.int .i64 (Sb xs),.int .i64 (Sc xs),.int .i64 (Sd xs),.str (za xs)],.int .i64 (Oy xs)]
theorem rd_no (xs:List V) (h:Fy xs=false):rdV xs=.tup [.agg [.str [],.int .i64 0,.int .i64 0,.int .i64 0,.int .i64 0,.int .i64 0,.int .i64 0,.int .i64 0,.int .i64 0,.int .i64 0,.str []],.int .i64 (rdE xs)]:=by
 unfold rdV R3 R4 R5 R6 R7 R8 R9 Sb Sc Sd za Oy;rw[h];rfl
theorem rd_yes (xs:List V) (h:Fy xs=true):rdV xs=.tup [.agg [.str (rg xs 0),.int .i64 (yQ (rg xs 1)),.int .i64 (Z5 (rg xs 2) (yQ (rg xs 1))),.int .i64 (uz (rg xs 4)),.int .i64 (qX (rg xs 5)),.int .i64 (iD (rg xs 5)),.int .i64 (qY (rg xs 5)),.int .i64 (Ov (rg xs 6)),.int .i64 (Ow (rg xs 6)),.int .i64 (eX (rg xs 7)),.str (Ag (rg xs 8))],.int .i64 0]:=by
 unfold rdV R3 R4 R5 R6 R7 R8 R9 Sb Sc Sd za Oy;rw[h];rfl
theorem wT: ∀(xs:List V),gB xs=true→ ∃l:List (List UInt8),xs=l.map V.str∧ ∀a∈l,ak (au a) 900=true
 |[],_=>⟨[],rfl,fun a h=>by cases h⟩
 |v::xs,h=>by
  unfold gB at h;rw[List.all_cons,Bool.and_eq_true] at h;obtain⟨l,e,hl⟩:=wT xs h.2
  cases v with
  |str s=>exact⟨s::l,by rw[e];rfl,fun a ha=>by
   rw[List.mem_cons] at ha;rcases ha with rfl|ha
   ·exact h.1
   ·exact hl a ha⟩
  |_=>exact absurd (show false=true from h.1) (by decide)
theorem nine (xs:List V) (h:gB xs=true) (hl:xs.length=9): ∃a0 a1 a2 a3 a4 a5 a6 a7 a8:List UInt8,xs=[.str a0,.str a1,.str a2,.str a3,.str a4,.str a5,.str a6,.str a7,.str a8]∧ak (au a0) 900=true∧ak (au a1) 900=true∧ak (au a2) 900=true∧ak (au a4) 900=true∧ak (au a5) 900=true∧ak (au a6) 900=true∧ak (au a7) 900=true∧ak (au a8) 900=true:=by
 obtain⟨l,rfl,ha⟩:=wT xs h;rw[List.length_map] at hl;match l,hl,ha with
 |[a0,a1,a2,a3,a4,a5,a6,a7,a8],_,ha=>
  exact⟨a0,a1,a2,a3,a4,a5,a6,a7,a8,rfl,ha _ (by simp),ha _ (by simp),ha _ (by simp),ha _ (by simp),ha _ (by simp),ha _ (by simp),ha _ (by simp),ha _ (by simp)⟩
theorem llen_9 (v0 v1 v2 v3 v4 v5 v6 v7 v8:V):av [v0,v1,v2,v3,v4,v5,v6,v7,v8]=9:=rfl
theorem sT {α:Type} (x y:α):sel true x y=x:=rfl
theorem sF {α:Type} (x y:α):sel false x y=y:=rfl
theorem zo {s:List UInt8} (h:ak (au s) 900=true):ak (au s) 1000=true:=by rw[ay] at*;omega
theorem rd_len (xs:List V) (h:av xs≠9):Fy xs=false:=by
 unfold Fy;rw[bQ h];rfl
theorem zRead_ev (xs:List V) (h:gB xs=true):af zE 110 [.sl 9 [.str] none xs] (rdV xs):=by
 refine aj Vn zS_ok 5 10 ?_;by_cases h1:av xs<9
 ·(rw[Lc];(conv=>zeta);rw[aB (by rw[bZ,ay];omega),rd_no xs (rd_len xs (by omega))])
  unfold rdE;rw[bE h1];rfl
 ·by_cases h2:9<av xs
  ·(rw[Lc];(conv=>zeta);rw[aW (by rw[bB (by omega)];rfl),aB (by rw[bZ,ay];omega),rd_no xs (rd_len xs (by omega))])
   unfold rdE;rw[bD (by omega),bE h2];rfl
  ·obtain⟨a0,a1,a2,a3,a4,a5,a6,a7,a8,rfl,c0,c1,c2,c4,c5,c6,c7,c8⟩:=nine xs h (by unfold av at h1 h2;omega)
   (rw[Up];(conv=>zeta))
   have g0:Fy [.str a0,.str a1,.str a2,.str a3,.str a4,.str a5,.str a6,.str a7,.str a8]=(ieq (dZ a0) 0&&(ieq (JW a1) 0&&(ieq (Oi a2 (yQ a1)) 0&&(seq a3 [45]&&(ieq (qc a4) 0&&(ieq (sw a5) 0&&(qf (qX a5) (iD a5) (qY a5) (uz a4)&&(ieq (yR a6) 0&&(ieq (lH a7) 0&&(ak (-10800) (eX a7)&&(ak (eX a7) 10800&&ieq (zZ a8) 0))))))))))):=rfl;have g1:rdE [.str a0,.str a1,.str a2,.str a3,.str a4,.str a5,.str a6,.str a7,.str a8]=sel (ieq (dZ a0) 0) (sel (ieq (JW a1) 0) (sel (ieq (Oi a2 (yQ a1)) 0) (sel (seq a3 [45]) (sel (ieq (qc a4) 0) (sel (ieq (sw a5) 0) (sel (qf (qX a5) (iD a5) (qY a5) (uz a4)) (sel (ieq (yR a6) 0) (sel (ieq (lH a7) 0) (sel (ak (-10800) (eX a7)) (sel (ak (eX a7) 10800) (zZ a8) 1) 1) (lH a7)) (yR a6)) 1) (sw a5)) (qc a4)) 3) (Oi a2 (yQ a1))) (JW a1)) (dZ a0):=rfl;have k0:rg [.str a0,.str a1,.str a2,.str a3,.str a4,.str a5,.str a6,.str a7,.str a8] 0=a0:=rfl;have k1:rg [.str a0,.str a1,.str a2,.str a3,.str a4,.str a5,.str a6,.str a7,.str a8] 1=a1:=rfl;have k2:rg [.str a0,.str a1,.str a2,.str a3,.str a4,.str a5,.str a6,.str a7,.str a8] 2=a2:=rfl;have k4:rg [.str a0,.str a1,.str a2,.str a3,.str a4,.str a5,.str a6,.str a7,.str a8] 4=a4:=rfl;have k5:rg [.str a0,.str a1,.str a2,.str a3,.str a4,.str a5,.str a6,.str a7,.str a8] 5=a5:=rfl;have k6:rg [.str a0,.str a1,.str a2,.str a3,.str a4,.str a5,.str a6,.str a7,.str a8] 6=a6:=rfl;have k7:rg [.str a0,.str a1,.str a2,.str a3,.str a4,.str a5,.str a6,.str a7,.str a8] 7=a7:=rfl
   have k8:rg [.str a0,.str a1,.str a2,.str a3,.str a4,.str a5,.str a6,.str a7,.str a8] 8=a8:=rfl;unfold rdV R3 R4 R5 R6 R7 R8 R9 Sb Sc Sd za Oy;rw[g0,g1,k0,k1,k2,k4,k5,k6,k7,k8];simp only[llen_9,zo c0,c1,c2,c4,c5,c6,c7,c8,sT];show sel (aK (ieq (dZ a0) 0)) _ (sel (aK (ieq (JW a1) 0)) _ _)=_
   cases ieq (dZ a0) 0 with
   |false=>rfl
   |true=>
   cases ieq (JW a1) 0 with
   |false=>rfl
   |true=>
   cases ieq (Oi a2 (yQ a1)) 0 with
   |false=>rfl
   |true=>
   cases seq a3 [45] with
   |false=>rfl
   |true=>
   cases ieq (qc a4) 0 with
   |false=>rfl
   |true=>
   cases ieq (sw a5) 0 with
   |false=>rfl
   |true=>
   cases qf (qX a5) (iD a5) (qY a5) (uz a4) with
   |false=>rfl
   |true=>
   cases ieq (yR a6) 0 with
   |false=>rfl
   |true=>
   cases ieq (lH a7) 0 with
   |false=>rfl
   |true=>
   cases ak (-10800) (eX a7) with
   |false=>rfl
   |true=>
   cases ak (eX a7) 10800 with
   |false=>rfl
   |true=>
   cases ieq (zZ a8) 0 with
   |false=>rfl
   |true=>rfl
theorem ji (s:List UInt8) (m:Int):odE s m=sel (ieq (sw s) 0) (sel (qf (qX s) (iD s) (qY s) m) 0 1) (sw s):=by
 unfold odE odP;rw[bV,bV];by_cases h:sw s=0
 ·rw[if_pos h,if_pos (bq h)]
  by_cases h2:qf (qX s) (iD s) (qY s) m=true
  ·rw[if_pos h2,if_pos h2]
  ·rw[if_neg h2,if_neg h2]
 ·rw[if_neg h,if_neg (by rw[aL];exact h)]
theorem gH (s:List UInt8):svW s=sel (ieq (lH s) 0) (sel (ak (-10800) (eX s)) (sel (ak (eX s) 10800) 0 1) 1) (lH s):=by
 unfold svW svP;simp only[bV,aL,ay];by_cases h:lH s=0
 ·rw[if_pos h,if_pos h]
  by_cases h1: -10800≤eX s
  ·rw[if_pos h1]
   by_cases h2:eX s≤10800
   ·rw[if_pos h2,if_neg (by omega)]
   ·rw[if_neg h2,if_pos (by omega)]
  ·rw[if_neg h1,if_pos (by omega)]
 ·rw[if_neg h,if_neg h]
theorem yr_eq (f t:Int):(ieq (Xo f t) 0&&ieq (fxW f) 0)=yrB f t:=by
 rw[Bool.eq_iff_iff,Bool.and_eq_true,aL,aL];unfold yrB;rw[Bool.and_eq_true,Bool.and_eq_true,ay,ay,ay];unfold Xo fxW jE gu;constructor
 ·rintro⟨h1,h2⟩
  by_cases a: -32767≤f∧f≤32767
  ·by_cases b: -32767≤t∧t≤32767
   ·rw[if_pos b] at h1
    by_cases c:t<f
    ·rw[if_pos c] at h1;cases h1
    ·omega
   ·rw[if_neg b] at h1;cases h1
  ·rw[if_neg a] at h2;cases h2
 ·rintro⟨h1,h2,h3⟩
  rw[if_pos (show -32767≤t∧t≤32767 by omega),if_pos (show -32767≤f∧f≤32767 by omega),if_neg (show¬t<f by omega)];constructor
  ·(repeat' split)<;>rfl
  ·(repeat' split)<;>rfl
theorem AZ (m:Int) (h1:1≤m) (h2:m≤12):uz (qd m)=m∧qc (qd m)=0∧(qd m).length≤10:=by
 obtain rfl|rfl|rfl|rfl|rfl|rfl|rfl|rfl|rfl|rfl|rfl|rfl:m=1∨m=2∨m=3∨m=4∨m=5∨m=6∨m=7∨m=8∨m=9∨m=10∨m=11∨m=12:=by omega
 all_goals decide+kernel
theorem cls_rng (x:Int):0≤ng x∧ng x≤3:=by
 unfold ng
 (repeat' split)<;>decide
theorem bsB_rng (s:List UInt8):0≤Fz s∧Fz s≤2:=by
 unfold Fz bsP;split
 ·show(0:Int)≤0∧(0:Int)≤2
  decide
 ·rename_i c _
  have:=cls_rng (c.toNat:Int);split
  ·show(0:Int)≤0∧(0:Int)≤2
   decide
  ·show 0≤ng _∧ng _≤2
   omega
theorem P7 (s:List UInt8) (h:yR s=0):iq (Ov s) (Ow s)=true:=by
 have hb:=bsB_rng s;unfold yR tT at h;unfold Ov Ow tT iq;by_cases h1:EK (Dj s)=0
 ·rw[if_pos h1] at h⊢
  by_cases h2:0≤Xc (Dj s)∧Xc (Dj s)≤172800
  ·rw[if_pos h2] at h⊢
   exact decide_eq_true ⟨h2.1,h2.2,hb.1,hb.2⟩
  ·rw[if_neg h2] at h;cases h
 ·rw[if_neg h1] at h;exact absurd h h1
theorem A7 (n b:Int) (hr:iq n b=true):Ov (zX n b)=n∧Ow (zX n b)=b∧yR (zX n b)=0∧(zX n b).length≤20:=by
 have hr':=hr;unfold iq at hr';have hr':=of_decide_eq_true hr';obtain⟨l,c,h1,h2,h3,h4⟩:=YF n (by omega) (by omega);have hn:0≤n∧n≤172800:=by omega
 have hlen:=(V4 n hn).2;have hcl:ng (c.toNat:Int)=3:=by unfold ng;rw[if_neg (by omega),if_neg (by omega),if_neg (by omega)]
 have e2:zX n b=(aF.text n).1++letC b:=by unfold zX F6;rw[if_pos hr];rfl
 have hl:(aF.text n).1.length≤10:=hlen;rw[e2];generalize (aF.text n).1=t at*;have rd: ∀(x:UInt8) (q:Int),ng (x.toNat:Int)=q→q≠3→Ov (t++[x])=n∧Ow (t++[x])=q∧yR (t++[x])=0∧(t++[x]).length≤20:=fun x q hx hq=>by
  have:=Uu t x n q hx hq h4 hn;unfold Ov Ow yR;rw[this];exact⟨rfl,rfl,rfl,by simp;omega⟩
 have hb:b=0∨b=1∨b=2:=by omega
 rcases hb with rfl|rfl|rfl
 ·have e3:t++letC 0=t:=by unfold letC;simp
  have e4:tT t=(n,0,0):=by rw[h1];exact Uv l c n hcl (by rw[←h1];exact h4) hn
  rw[e3];unfold Ov Ow yR;rw[e4];exact⟨rfl,rfl,rfl,by omega⟩
 ·exact rd 115 1 rfl (by decide)
 ·exact rd 117 2 rfl (by decide)
theorem am_neg (k:Nat) (h:k≤604799):aF.read ([45]++qj k)=(-(k:Int),0):=by
 rw[Iz (posL_ne k h),wH,P8 _ k h (wI k h).1 (wI k h).2];rfl
theorem wJ (v:Int) (h1: -604799≤v) (h2:v≤604799):eX (zY v)=v∧lH (zY v)=0∧(zY v).length≤40:=by
 unfold eX lH zY;by_cases h0:v=0
 ·subst h0;decide
 ·by_cases hp:0<v
  ·obtain⟨k,rfl⟩: ∃k:Nat,v=(k:Int):=⟨v.toNat,by omega⟩
   have e:=He k (by omega);rw[A8 k (by omega) (by omega),P9 k (by omega)];exact⟨rfl,rfl,by show(qj k).length≤40;omega⟩
  ·obtain⟨k,rfl⟩: ∃k:Nat,v= -(k:Int):=⟨v.natAbs,by omega⟩
   have e:=He k (by omega);rw[Nk k (by omega) (by omega),am_neg k (by omega)];exact⟨rfl,rfl,by show([45]++qj k).length≤40;simp;omega⟩
theorem Ld (s:List UInt8) (h:(uK s).2=0): -32767≤(uK s).1∧(uK s).1≤32767:=by
 unfold uK at h⊢;by_cases h1:nrW s=0
 ·rw[if_pos h1] at h⊢
  by_cases h2: -32767≤ig s∧ig s≤32767
  ·rw[if_pos h2];exact h2
  ·rw[if_neg h2] at h;cases h
 ·rw[if_neg h1] at h;exact absurd h h1
theorem yf_rng (s:List UInt8) (h:JW s=0): -32767≤yQ s∧yQ s≤32767:=by
 unfold JW pz at h;unfold yQ pz;by_cases h1:numeral s=true
 ·rw[if_pos h1] at h⊢;exact Ld s h
 ·rw[if_neg h1] at h⊢
  by_cases h2:oM s EC=0∧mh s EC=0
  ·rw[if_pos h2];decide
  ·rw[if_neg h2] at h;cases h
theorem yl_rng (s:List UInt8) (n:Int) (hn:n≤32767) (h:(iR s n).2=0):(iR s n).1≤32767:=by
 unfold iR at h⊢;by_cases h1:numeral s=true
 ·rw[if_pos h1] at h⊢;exact(Ld s h).2
 ·rw[if_neg h1] at h⊢
  by_cases h2:oM s EC=0
  ·rw[if_pos h2] at h⊢
   by_cases h3:mh s EC=1
   ·rw[if_pos h3];decide
   ·rw[if_neg h3] at h⊢
    by_cases h4:mh s EC=2
    ·rw[if_pos h4];exact hn
    ·rw[if_neg h4] at h;cases h
  ·rw[if_neg h2] at h;cases h
theorem yt_rng (s:List UInt8) (n:Int) (hn:n≤32767) (h:Oi s n=0):n≤Z5 s n∧Z5 s n≤32767:=by
 refine⟨(yto_err s n).2 h,?_⟩;unfold Oi Cg at h;unfold Z5 Cg;by_cases h1:(iR s n).2=0∧(iR s n).1<n
 ·rw[if_pos h1] at h;cases h
 ·rw[if_neg h1] at h⊢
  exact yl_rng s n hn h
theorem Nl (s:List UInt8) (h:zZ s=0):RF (Ag s)=0∧(Ag s).length≤6:=by
 have h':=h;unfold zZ leP at h;by_cases h1:s=[45]
 ·subst h1;decide
 ·rw[if_neg h1] at h
  by_cases h2:6<s.length
  ·rw[if_pos h2] at h;cases h
  ·rw[if_neg h2] at h
   by_cases h3:s=[]∨JX.cZ s=false
   ·rw[if_pos h3] at h;cases h
   ·have e:Ag s=s:=by unfold Ag leP;rw[if_neg h1,if_neg h2,if_neg h3]
    have hs: ¬s=[]:=fun e=>h3 (.inl e)
    rw[e];refine⟨?_,by omega⟩;unfold RF ltP;rw[if_neg hs,if_neg (by rw[e,h'];simp)]
theorem V5 (t:List UInt8) (h:RF t=0):(I7 t).length≤6∧t.length≤6:=by
 obtain⟨h1,h2⟩:=V6 t h;have h3:=Nl _ h1;rw[h2] at h3;refine⟨?_,h3.2⟩;unfold I7 ltP
 (repeat' split)
 ·decide
 ·decide
 ·exact h3.2
theorem zq (n:List UInt8) (h:dZ n=0):n.length≤64:=by
 unfold dZ at h;by_cases h1:64<n.length
 ·rw[if_pos h1] at h;cases h
 ·omega
def rfL (n:List UInt8) (f t m k w d c b v:Int) (l:List UInt8):List V:=[.str n,.str (Ox f),.str (y9 f t),.str [45],.str (qd m),.str (fe k w d),.str (zX c b),.str (zY v),.str (I7 l)]
theorem Nn (n:List UInt8) (f t m k w d c b v:Int) (l:List UInt8):(RG n f t m k w d c b v l=true)=(dZ n=0∧(yrB f t=true∧(qf k w d m=true∧(iq c b=true∧((-10800≤v∧v≤10800)∧RF l=0))))):=by
 unfold RG;rw[Bool.and_eq_true,Bool.and_eq_true,Bool.and_eq_true,Bool.and_eq_true,Bool.and_eq_true,Bool.and_eq_true,aL,ay,ay,aL]
theorem kC {s:List UInt8} (h:s.length≤900):sV (.str s)=true:=bB (by rw[aC];omega)
theorem ru_back (n:List UInt8) (f t m k w d c b v:Int) (l:List UInt8) (h:RG n f t m k w d c b v l=true):
  gB (rfL n f t m k w d c b v l)=true∧rdV (rfL n f t m k w d c b v l)=.tup [.agg [.str n,.int .i64 f,.int .i64 t,.int .i64 m,.int .i64 k,.int .i64 w,.int .i64 d,.int .i64 c,.int .i64 b,.int .i64 v,.str l],.int .i64 0]:=by
 rw[Nn] at h;obtain⟨h1,h2,h3,h4,h5,h6⟩:=h;have h2':=h2;rw[←yr_eq,Bool.and_eq_true,aL,aL] at h2;obtain⟨x1,x2⟩:=yf_back f h2.2;obtain⟨y1,y2⟩:=yt_back f t h2.1;have h3':=h3;unfold qf at h3;rw[Bool.and_eq_true,decide_eq_true_eq] at h3;obtain⟨m1,m2,m3⟩:=AZ m h3.2.1 h3.2.2.1;have d1:=VY k w d h3.1;obtain⟨c1,c2,c3,c4⟩:=A7 c b h4;obtain⟨a1,a2,a3⟩:=wJ v (by omega) (by omega);obtain⟨l1,l2⟩:=V6 l h6;have l3:=(V5 l h6).1;have e1:yQ (Ox f)=f:=x1;have e2:JW (Ox f)=0:=x2;have e3:Z5 (y9 f t) f=t:=y1;have e4:Oi (y9 f t) f=0:=y2;have d2:qX (fe k w d)=k:=by unfold qX;rw[d1]
 have d3:iD (fe k w d)=w:=by unfold iD;rw[d1]
 have d4:qY (fe k w d)=d:=by unfold qY;rw[d1]
 have d5:sw (fe k w d)=0:=by unfold sw;rw[d1]
 have i0:ieq 0 0=true:=rfl;constructor
 ·have n1:=zq n h1
  have n2:(Ox f).length≤25:=V7 f;have n3:(y9 f t).length≤25:=V8 f t;have n4:=Bn k w d;unfold gB rfL;simp only[List.all_cons,List.all_nil,kC (show n.length≤900 by omega),kC (show(Ox f).length≤900 by omega),kC (show(y9 f t).length≤900 by omega),kC (show(qd m).length≤900 by omega),kC (show(fe k w d).length≤900 by omega),kC (show(zX c b).length≤900 by omega),kC (show(zY v).length≤900 by omega),kC (show(I7 l).length≤900 by omega),kC (show([45]:List UInt8).length≤900 by decide)];rfl
 ·have hB:Fy (rfL n f t m k w d c b v l)=true:=by
   show(ieq 9 9&&(ieq (dZ n) 0&&(ieq (JW (Ox f)) 0&&(ieq (Oi (y9 f t) (yQ (Ox f))) 0&&(seq [45] [45]&&(ieq (qc (qd m)) 0&&(ieq (sw (fe k w d)) 0&&(qf (qX (fe k w d)) (iD (fe k w d)) (qY (fe k w d)) (uz (qd m))&&(ieq (yR (zX c b)) 0&&(ieq (lH (zY v)) 0&&(ak (-10800) (eX (zY v))&&(ak (eX (zY v)) 10800&&ieq (zZ (I7 l)) 0))))))))))))=true;rw[e1,e2,e4,m1,m2,d2,d3,d4,d5,c3,a1,a2,l1,h1,h3',i0,bB h5.1,bB h5.2];rfl
  rw[rd_yes _ hB];show V.tup [.agg [.str n,.int .i64 (yQ (Ox f)),.int .i64 (Z5 (y9 f t) (yQ (Ox f))),.int .i64 (uz (qd m)),.int .i64 (qX (fe k w d)),.int .i64 (iD (fe k w d)),.int .i64 (qY (fe k w d)),.int .i64 (Ov (zX c b)),.int .i64 (Ow (zX c b)),.int .i64 (eX (zY v)),.str (Ag (I7 l))],.int .i64 0]=_;rw[e1,e3,m1,d2,d3,d4,c1,c2,a1,l2]
theorem ru_right (xs:List V) (h:Fy xs=true):RG (rg xs 0) (yQ (rg xs 1)) (Z5 (rg xs 2) (yQ (rg xs 1))) (uz (rg xs 4)) (qX (rg xs 5)) (iD (rg xs 5)) (qY (rg xs 5)) (Ov (rg xs 6)) (Ow (rg xs 6)) (eX (rg xs 7)) (Ag (rg xs 8))=true∧(rg xs 0).length≤64∧(Ag (rg xs 8)).length≤6:=by
 unfold Fy at h;simp only[Bool.and_eq_true,aL,ay] at h;obtain⟨h0,h1,h2,h3,h4,h5,h6,h7,h8,h9,h10,h11,h12⟩:=h;have y:=yf_rng _ h2;have z:=yt_rng _ _ y.2 h3;refine⟨?_,zq _ h1,(Nl _ h12).2⟩;rw[Nn];refine⟨h1,?_,h7,P7 _ h8,⟨h10,h11⟩,(Nl _ h12).1⟩;unfold yrB;rw[bB y.1,bB z.1,bB z.2];rfl
def rfV (n:List UInt8) (f t m k w d c b v:Int) (l:List UInt8):List V:=sel (RG n f t m k w d c b v l) (rfL n f t m k w d c b v l) []
def rfE (n:List UInt8) (f t m k w d c b v:Int) (l:List UInt8):Int:=sel (RG n f t m k w d c b v l) 0 4
theorem zRdS_ok (xs:List V) (hc:gB xs=true):af zE 110 [.sl 9 [.str] none xs] (.tup [.agg [.str (R3 xs),.int .i64 (R4 xs),.int .i64 (R5 xs),.int .i64 (R6 xs),.int .i64 (R7 xs),.int .i64 (R8 xs),.int .i64 (R9 xs),.int .i64 (Sb xs),.int .i64 (Sc xs),.int .i64 (Sd xs),.str (za xs)],.int .i64 (Oy xs)]):=zRead_ev xs hc
theorem rd_inj (xs:List V) {a0 a10:List UInt8} {a1 a2 a3 a4 a5 a6 a7 a8 a9 e:Int} (h:rdV xs=.tup [.agg [.str a0,.int .i64 a1,.int .i64 a2,.int .i64 a3,.int .i64 a4,.int .i64 a5,.int .i64 a6,.int .i64 a7,.int .i64 a8,.int .i64 a9,.str a10],.int .i64 e]):
  R3 xs=a0∧R4 xs=a1∧R5 xs=a2∧R6 xs=a3∧R7 xs=a4∧R8 xs=a5∧R9 xs=a6∧Sb xs=a7∧Sc xs=a8∧Sd xs=a9∧za xs=a10∧Oy xs=e:=by
 unfold rdV at h;simp only[V.tup.injEq,List.cons.injEq,V.agg.injEq,V.str.injEq,V.int.injEq,true_and,and_true] at h;obtain⟨⟨h0,h1,h2,h3,h4,h5,h6,h7,h8,h9,h10⟩,he⟩:=h;exact⟨h0,h1,h2,h3,h4,h5,h6,h7,h8,h9,h10,he⟩
theorem rdE_ne (xs:List V) (h:Fy xs=false):rdE xs≠0:=by
 by_cases h1:av xs<9
 ·unfold rdE;rw[bE h1];show(5:Int)≠0;decide
 by_cases h2:9<av xs
 ·unfold rdE;rw[bD (by omega),bE h2];show(6:Int)≠0;decide
 unfold Fy at h;unfold rdE;rw[bq (by omega),Bool.true_and] at h;rw[bD (by omega),bD (by omega),sF,sF]
 cases e0:ieq (dZ (rg xs 0)) 0 with
 |false=>intro he;rw[show dZ (rg xs 0)=0 from he] at e0;cases e0
 |true=>
 rw[e0,Bool.true_and] at h;rw[sT]
 cases e1:ieq (JW (rg xs 1)) 0 with
 |false=>intro he;rw[show JW (rg xs 1)=0 from he] at e1;cases e1
 |true=>
 rw[e1,Bool.true_and] at h;rw[sT]
 cases e2:ieq (Oi (rg xs 2) (yQ (rg xs 1))) 0 with
 |false=>intro he;rw[show Oi (rg xs 2) (yQ (rg xs 1))=0 from he] at e2;cases e2
 |true=>
 rw[e2,Bool.true_and] at h;rw[sT]
 cases e3:seq (rg xs 3) [45] with
 |false=>show(3:Int)≠0;decide
 |true=>
 rw[e3,Bool.true_and] at h;rw[sT]
 cases e4:ieq (qc (rg xs 4)) 0 with
 |false=>intro he;rw[show qc (rg xs 4)=0 from he] at e4;cases e4
 |true=>
 rw[e4,Bool.true_and] at h;rw[sT]
 cases e5:ieq (sw (rg xs 5)) 0 with
 |false=>intro he;rw[show sw (rg xs 5)=0 from he] at e5;cases e5
 |true=>
 rw[e5,Bool.true_and] at h;rw[sT]
 cases e6:qf (qX (rg xs 5)) (iD (rg xs 5)) (qY (rg xs 5)) (uz (rg xs 4)) with
 |false=>show(1:Int)≠0;decide
 |true=>
 rw[e6,Bool.true_and] at h;rw[sT]
 cases e7:ieq (yR (rg xs 6)) 0 with
 |false=>intro he;rw[show yR (rg xs 6)=0 from he] at e7;cases e7
 |true=>
 rw[e7,Bool.true_and] at h;rw[sT]
 cases e8:ieq (lH (rg xs 7)) 0 with
 |false=>intro he;rw[show lH (rg xs 7)=0 from he] at e8;cases e8
 |true=>
 rw[e8,Bool.true_and] at h;rw[sT]
 cases e9:ak (-10800) (eX (rg xs 7)) with
 |false=>show(1:Int)≠0;decide
 |true=>
 rw[e9,Bool.true_and] at h;rw[sT]
 cases e10:ak (eX (rg xs 7)) 10800 with
 |false=>show(1:Int)≠0;decide
 |true=>
 rw[e10,Bool.true_and] at h;rw[sT];intro he;rw[he] at h
 cases h
end Nt.Ev.YtplklcejbmfgdaaGreatDoor
