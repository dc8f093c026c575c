/-
  Era: equations of functions, as the evaluator prints them. Eras: what the program's functions and the document's answer. Era2: equations of functions, as the evaluator prints them. Eras: how they are written. Eras: there and back, in plain terms. EraLaw: equations of functions, as the evaluator prints them. Eras: the two statements.
-/
import Derived.Test.YtpbgegnlkdfjgaaGreatDoorMM
set_option linter.unusedVariables false
set_option linter.unusedSimpArgs false
set_option linter.unusedSectionVars false
namespace Nt.Ev.YtpbgegnlkdfjgaaGreatDoor
set_option maxRecDepth 100000
open Go Nt.Num Go.Proofs.YtpbgegnlkdfjgaaGreatDoor
variable [uT]
open Nt.Civil
abbrev eZ:V:=(V.agg [V.int .i64 0,V.int .i64 0,V.int .i64 0,V.str [],V.str [],V.bool false,V.int .i64 0,V.int .i64 0,V.int .i64 0,V.int .i64 0,V.int .i64 0,V.int .i64 0,V.int .i64 0])
noncomputable def aac:V:=.rptr [.int .i64,.int .i64,.int .i64] (.agg [.int .i64 0,.int .i64 0,.int .i64 1]) 0
noncomputable def eE:Env:=⟨Go.Proofs.Tryz.prog,fun g=>bif g==2 then some aac else bif g==6 then some Dw else bif g==3 then some MQ else bif g==1 then some RY else bif g==0 then some (.rptr [.int .i64] (.int .i64 uT.val) 0) else none⟩
noncomputable def eNrS:aL:=fun a=>match a with|[.str s]=>some (ak (ah s) 900,.tup [.int .i64 (eU s),.int .i64 (nrW s)])|_=>none
noncomputable def eChS:aL:=fun a=>match a with|[.str s]=>some (ak (ah s) 900,.int .i64 (gD s))|_=>none
noncomputable def eS0:List (Nat×aL):=(142,eNrS)::(85,eNrS)::(108,eChS)::(59,eChS)::(64,zOdS)::(66,zSvS)::(54,CU)::(40,CU)::(118,CV)::(93,CV)::(115,J3)::(63,J3)::(117,J4)::(92,J4)::(120,J5)::(65,J5)::(104,J6)::(56,J6)::(156,zCrS)::[]
def NL:List UInt8→Bool|[]=>false|[c]=>decide (48≤c.toNat)&&decide (c.toNat≤57)|c::d::_=>(decide (48≤c.toNat)&&decide (c.toNat≤57))||(c==45&&(decide (48≤d.toNat)&&decide (d.toNat≤57)))
def rlP (s:List UInt8):Int×Int×List UInt8×Int:=if s=[45] then(0,0,[],0) else if NL s=true then(1,Rc s,[],Re s) else(2,0,s,gW s)
def JK (s:List UInt8):Int:=(rlP s).1
def JL (s:List UInt8):Int:=(rlP s).2.1
def JM (s:List UInt8):List UInt8:=(rlP s).2.2.1
def rF (s:List UInt8):Int:=(rlP s).2.2.2
noncomputable def eNumS:aL:=fun a=>match a with|[.str s]=>some (ak (ah s) 900,.bool (NL s))|_=>none
noncomputable def eRulS:aL:=fun a=>match a with|[.str s]=>some (ak (ah s) 900,.tup [.int .i64 (JK s),.int .i64 (JL s),.str (JM s),.int .i64 (rF s)])|_=>none
noncomputable def Vu:List (Nat×aL):=(140,eNumS)::(57,eRulS)::eS0
def en0 (ys:List V):Int:=sel (ieq (nrW (rg ys 0)) 0) (sel (ak (eU (rg ys 0)) (-32767)) 1 (sel (ak 32767 (eU (rg ys 0))) 1 0)) (nrW (rg ys 0))
def FT (ys:List V):Int:=sel (ieq (en0 ys) 0) (sel (aK 1 (ax ys)) (ku (rg ys 1)) 0) (en0 ys)
def qz (ys:List V):Int:=sel (ieq (en0 ys) 0) (sel (aK 1 (ax ys)) (kG (rg ys 1)) 1) 1
def FU (ys:List V):Int:=sel (ieq (FT ys) 0) (sel (aK 2 (ax ys)) (NK (rg ys 2) (qz ys)) 0) (FT ys)
def uV (ys:List V) (f:List UInt8→Int→Int) (z:Int):Int:=sel (ieq (FT ys) 0) (sel (aK 2 (ax ys)) (f (rg ys 2) (qz ys)) z) z
def I8 (ys:List V):Int:=sel (ieq (FU ys) 0) (sel (aK 3 (ax ys)) (xZ (rg ys 3)) 0) (FU ys)
def vO (ys:List V) (f:List UInt8→Int):Int:=sel (ieq (FU ys) 0) (sel (aK 3 (ax ys)) (f (rg ys 3)) 0) 0
def qp (ys:List V):Bool:=aB (ieq (ax ys) 0)
def vV (ys:List V):Int:=sel (qp ys) (eU (rg ys 0)) 0
def vW (ys:List V):Int:=sel (qp ys) (qz ys) 0
def vX (ys:List V):Int:=sel (qp ys) (uV ys QX 0) 0
def vY (ys:List V):Int:=sel (qp ys) (uV ys QY 0) 0
def vZ (ys:List V):Int:=sel (qp ys) (uV ys QZ 1) 0
def wh (ys:List V):Int:=sel (qp ys) (vO ys Vr) 0
def wm (ys:List V):Int:=sel (qp ys) (vO ys Vs) 0
def mD (ys:List V):Int:=sel (qp ys) (I8 ys) 0
noncomputable def eEndS:aL:=fun a=>match a with|[.sl 9 [.str] none ys]=>some (av (dZ ys) (ak (ax ys) 4),.tup [.agg [.bool (qp ys),.int .i64 (vV ys),.int .i64 (vW ys),.int .i64 (vX ys),.int .i64 (vY ys),.int .i64 (vZ ys),.int .i64 (wh ys),.int .i64 (wm ys)],.int .i64 (mD ys)])|_=>none
noncomputable def eS2:List (Nat×aL):=(58,eEndS)::Vu
noncomputable def eNoS:aL:=fun a=>match a with|[.str s]=>some (false,.int .i64 0)|_=>none
noncomputable def eSn:List (Nat×aL):=(104,eNoS)::(56,eNoS)::[]
theorem abP (F:Nat) (s:List UInt8) (K:V→Option V):
 bD eE (bB eE eS0 F 4) F 140 [V.str s] K=
 let C:=ah [45];let D:=K (V.bool false);let H:=av (ak 0 0) (aK 0 (ah s));let A:=sel (aB (seq s [])) (sel H (sel (ak 48 (sat s 0)) (sel H (K (V.bool (ak (sat s 0) 57))) none) D) none) D;let B:=bU s C (ah s);let E:=av (ak 0 C) (ak C (ah s));let G:=av (ak 0 0) (aK 0 (ah B));sel (ak C (ah s)) (sel E (sel (seq (bU s 0 C) [45]) (sel E (sel (aB (seq B [])) (sel G (sel (ak 48 (sat B 0)) (sel G (K (V.bool (ak (sat B 0) 57))) none) D) none) D) none) A) none) A:=by kernel_rfl
theorem abQ (F:Nat) (s:List UInt8) (K:V→Option V):
 bD eE (bB eE eS0 F 3) F 57 [V.str s] K=
 let C:=sel (ak (ah s) 900) (K (V.tup [V.int .i64 1,V.int .i64 (Rc s),V.str [],V.int .i64 (Re s)])) (none);let D:=av (ak 0 0) (aK 0 (ah s));let E:=V.int .i64 0;let G:=av (ak 0 1) (aK 1 (ah s));let B:=sel (ak (ah s) 1000) (K (V.tup [V.int .i64 2,E,V.str s,V.int .i64 (gW s)])) (none);let A:=sel (aB (seq s [])) (sel D (sel (ieq (sat s 0) 45) (sel (aK 1 (ah s)) (sel G (sel (ak 48 (sat s 1)) (sel G (sel (ak (sat s 1) 57) C B) none) B) none) B) B) none) B;sel (seq s [45]) (K (V.tup [E,E,V.str [],E])) (sel (aK 0 (ah s)) (sel D (sel (ak 48 (sat s 0)) (sel D (sel (ak (sat s 0) 57) C A) none) A) none) A):=by kernel_rfl
theorem NA (u:Int) (K:V→Option V):
 bD eE (bB eE Vu 5 3) 5 58 [V.sl 9 [Kd.str] none []] K=
 let A:=V.int .i64 0;K (V.tup [V.agg [V.bool false,A,A,A,A,A,A,A],A]):=by kernel_rfl
theorem NB (a0:List UInt8) (K:V→Option V):
 bD eE (bB eE Vu 5 3) 5 58 [V.sl 9 [Kd.str] none [V.str a0]] K=
 let D:=ieq (nrW a0) 0;let E:=V.int .i64 1;let F:=V.int .i64 0;let B:=V.agg [V.bool true,V.int .i64 (eU a0),E,F,F,E,F,F];let A:=K (V.tup [B,V.int .i64 (nrW a0)]);let G:=K (V.tup [B,E]);let C:=sel D (sel D A A) (sel D A A);sel (ak (ah a0) 900) (sel D (sel (ak (eU a0) (-32767)) G (sel (ak 32767 (eU a0)) G (sel D C C))) (sel D C C)) none:=by kernel_rfl
theorem NC (a0 a1:List UInt8) (K:V→Option V):
 bD eE (bB eE Vu 5 3) 5 58 [V.sl 9 [Kd.str] none [V.str a0,V.str a1]] K=
 let E:=V.int .i64 0;let F:=ieq (nrW a0) 0;let G:=V.int .i64 1;let H:=ieq (ku a1) 0;let I:=V.int .i64 (eU a0);let B:=V.agg [V.bool true,I,G,E,E,G,E,E];let C:=K (V.tup [V.agg [V.bool true,I,V.int .i64 (kG a1),E,E,G,E,E],V.int .i64 (ku a1)]);let D:=K (V.tup [B,V.int .i64 (nrW a0)]);let J:=K (V.tup [B,G]);let A:=sel F (sel (ak (ah a1) 900) (sel H (sel H C C) (sel H C C)) none) (sel F (sel F D D) (sel F D D));sel (ak (ah a0) 900) (sel F (sel (ak (eU a0) (-32767)) J (sel (ak 32767 (eU a0)) J A)) A) none:=by kernel_rfl
theorem ND (a0 a1 a2:List UInt8) (K:V→Option V):
 bD eE (bB eE Vu 5 3) 5 58 [V.sl 9 [Kd.str] none [V.str a0,V.str a1,V.str a2]] K=
 let C:=V.int .i64 0;let G:=V.int .i64 1;let H:=V.int .i64 (eU a0);let I:=ieq (nrW a0) 0;let L:=V.bool true;let M:=V.int .i64 (kG a1);let N:=ak (ah a2) 900;let P:=NK a2 (kG a1);let B:=V.agg [L,H,G,C,C,G,C,C];let D:=K (V.tup [V.agg [L,H,M,V.int .i64 (QX a2 (kG a1)),V.int .i64 (QY a2 (kG a1)),V.int .i64 (QZ a2 (kG a1)),C,C],V.int .i64 P]);let E:=K (V.tup [V.agg [L,H,G,V.int .i64 (QX a2 1),V.int .i64 (QY a2 1),V.int .i64 (QZ a2 1),C,C],V.int .i64 (NK a2 1)]);let F:=K (V.tup [V.agg [L,H,M,C,C,G,C,C],V.int .i64 (ku a1)]);let J:=K (V.tup [B,V.int .i64 (nrW a0)]);let O:=K (V.tup [B,G]);let A:=sel I (sel (ak (ah a1) 900) (sel (ieq (ku a1) 0) (sel N (sel (ieq P 0) D D) none) (sel (ieq (ku a1) 0) F F)) none) (sel I (sel N (sel (ieq (NK a2 1) 0) E E) none) (sel I J J));sel (ak (ah a0) 900) (sel I (sel (ak (eU a0) (-32767)) O (sel (ak 32767 (eU a0)) O A)) A) none:=by kernel_rfl
theorem NE (a0 a1 a2 a3:List UInt8) (K:V→Option V):
 bD eE (bB eE Vu 5 3) 5 58 [V.sl 9 [Kd.str] none [V.str a0,V.str a1,V.str a2,V.str a3]] K=
 let B:=V.int .i64 0;let C:=V.int .i64 (eU a0);let D:=V.int .i64 1;let E:=V.bool true;let G:=V.int .i64 (kG a1);let H:=V.int .i64 (Vr a3);let I:=V.int .i64 (Vs a3);let J:=V.int .i64 (xZ a3);let L:=ak (ah a3) 900;let M:=ieq (nrW a0) 0;let N:=V.int .i64 (QX a2 (kG a1));let O:=V.int .i64 (QY a2 (kG a1));let P:=V.int .i64 (QZ a2 (kG a1));let Q:=V.int .i64 (QX a2 1);let R:=V.int .i64 (QY a2 1);let S:=V.int .i64 (QZ a2 1);let T:=ak (ah a2) 900;let W:=NK a2 (kG a1);let F:=V.agg [E,C,D,B,B,D,B,B];let A:=sel M (sel (ak (ah a1) 900) (sel (ieq (ku a1) 0) (sel T (sel (ieq W 0) (sel L (K (V.tup [V.agg [E,C,G,N,O,P,H,I],J])) none) (K (V.tup [V.agg [E,C,G,N,O,P,B,B],V.int .i64 W]))) none) (sel (ieq (ku a1) 0) (sel L (K (V.tup [V.agg [E,C,G,B,B,D,H,I],J])) none) (K (V.tup [V.agg [E,C,G,B,B,D,B,B],V.int .i64 (ku a1)])))) none) (sel M (sel T (sel (ieq (NK a2 1) 0) (sel L (K (V.tup [V.agg [E,C,D,Q,R,S,H,I],J])) none) (K (V.tup [V.agg [E,C,D,Q,R,S,B,B],V.int .i64 (NK a2 1)]))) none) (sel M (sel L (K (V.tup [V.agg [E,C,D,B,B,D,H,I],J])) none) (K (V.tup [F,V.int .i64 (nrW a0)]))));let U:=K (V.tup [F,D]);sel (ak (ah a0) 900) (sel M (sel (ak (eU a0) (-32767)) U (sel (ak 32767 (eU a0)) U A)) A) none:=by kernel_rfl
theorem Lb (F:Nat) (xs:List V) (K:V→Option V):
 bD eE (bB eE eSn F 10) F 49 [V.sl 9 [Kd.str] none xs] K=
 sel (aB (ak 3 (ax xs))) (K (V.tup [eZ,V.int .i64 5])) (sel (aB (ak (ax xs) 7)) (K (V.tup [eZ,V.int .i64 6])) (sel (av (ak 0 0) (aK 0 (ax xs))) none none)):=by kernel_rfl
theorem JB (a0 a1 a2:List UInt8) (K:V→Option V):
 bD eE (bB eE Vu 9 10) 9 49 [V.sl 9 [Kd.str] none [V.str a0,V.str a1,V.str a2]] K=
 let A:=V.int .i64 0;let B:=K (V.tup [eZ,V.int .i64 1]);let C:=K (V.tup [eZ,V.int .i64 (gD a2)]);let D:=aB (ieq (gD a2) 0);let E:=V.int .i64 (dK a0);let F:=ak (ah a2) 900;let G:=V.bool false;let H:=V.str a2;let I:=ak (ah a1) 900;sel (ak (ah a0) 900) (sel (aB (ieq (ig a0) 0)) (K (V.tup [eZ,V.int .i64 (ig a0)])) (sel (ak (-54000) (dK a0)) (sel (aB (ak (dK a0) 54000)) B (sel (seq a1 [45]) (sel F (sel D C (K (V.tup [V.agg [E,A,A,V.str [],H,G,A,A,A,A,A,A,A],A]))) none) (sel I (sel (NL a1) (sel I (sel (aB (ieq (ig a1) 0)) (K (V.tup [eZ,V.int .i64 (ig a1)])) (sel (ak (-10800) (dK a1)) (sel (aB (ak (dK a1) 10800)) B (sel F (sel D C (K (V.tup [V.agg [E,V.int .i64 1,V.int .i64 (dK a1),V.str [],H,G,A,A,A,A,A,A,A],A]))) none)) B)) none) (sel (ak (ah a1) 1000) (sel (aB (ieq (gW a1) 0)) (K (V.tup [eZ,V.int .i64 (gW a1)])) (sel F (sel D C (K (V.tup [V.agg [E,V.int .i64 2,A,V.str a1,H,G,A,A,A,A,A,A,A],A]))) none)) none)) none))) B)) none:=by kernel_rfl
theorem JC (a0 a1 a2 a3:List UInt8) (K:V→Option V):
 bD eE (bB eE Vu 9 10) 9 49 [V.sl 9 [Kd.str] none [V.str a0,V.str a1,V.str a2,V.str a3]] K=
 let B:=V.int .i64 0;let C:=V.int .i64 1;let D:=K (V.tup [eZ,V.int .i64 (gD a2)]);let E:=K (V.tup [eZ,V.int .i64 (nrW a3)]);let F:=aB (aK (eU a3) 32767);let G:=aB (ieq (gD a2) 0);let H:=aB (ieq (nrW a3) 0);let I:=aK (-32767) (eU a3);let J:=V.int .i64 (dK a0);let L:=V.int .i64 (eU a3);let M:=ak (ah a2) 900;let N:=ak (ah a3) 900;let O:=V.bool true;let P:=V.str a2;let Q:=ak (ah a1) 900;let A:=K (V.tup [eZ,C]);sel (ak (ah a0) 900) (sel (aB (ieq (ig a0) 0)) (K (V.tup [eZ,V.int .i64 (ig a0)])) (sel (ak (-54000) (dK a0)) (sel (aB (ak (dK a0) 54000)) A (sel (seq a1 [45]) (sel M (sel G D (sel N (sel H E (sel I (sel F A (K (V.tup [V.agg [J,B,B,V.str [],P,O,L,C,B,B,C,B,B],B]))) A)) none)) none) (sel Q (sel (NL a1) (sel Q (sel (aB (ieq (ig a1) 0)) (K (V.tup [eZ,V.int .i64 (ig a1)])) (sel (ak (-10800) (dK a1)) (sel (aB (ak (dK a1) 10800)) A (sel M (sel G D (sel N (sel H E (sel I (sel F A (K (V.tup [V.agg [J,C,V.int .i64 (dK a1),V.str [],P,O,L,C,B,B,C,B,B],B]))) A)) none)) none)) A)) none) (sel (ak (ah a1) 1000) (sel (aB (ieq (gW a1) 0)) (K (V.tup [eZ,V.int .i64 (gW a1)])) (sel M (sel G D (sel N (sel H E (sel I (sel F A (K (V.tup [V.agg [J,V.int .i64 2,B,V.str a1,P,O,L,C,B,B,C,B,B],B]))) A)) none)) none)) none)) none))) A)) none:=by kernel_rfl
theorem JD (a0 a1 a2 a3 a4:List UInt8) (K:V→Option V):
 bD eE (bB eE Vu 9 10) 9 49 [V.sl 9 [Kd.str] none [V.str a0,V.str a1,V.str a2,V.str a3,V.str a4]] K=
 let B:=V.int .i64 0;let C:=K (V.tup [eZ,V.int .i64 (gD a2)]);let D:=K (V.tup [eZ,V.int .i64 (nrW a3)]);let E:=K (V.tup [eZ,V.int .i64 (ku a4)]);let F:=aB (aK (eU a3) 32767);let G:=V.int .i64 1;let H:=aB (ieq (gD a2) 0);let I:=aB (ieq (nrW a3) 0);let J:=aK (-32767) (eU a3);let L:=aB (ieq (ku a4) 0);let M:=V.int .i64 (dK a0);let N:=V.int .i64 (eU a3);let O:=V.int .i64 (kG a4);let P:=ak (ah a2) 900;let Q:=ak (ah a3) 900;let R:=ak (ah a4) 900;let S:=V.bool true;let T:=V.str a2;let U:=ak (ah a1) 900;let A:=K (V.tup [eZ,G]);sel (ak (ah a0) 900) (sel (aB (ieq (ig a0) 0)) (K (V.tup [eZ,V.int .i64 (ig a0)])) (sel (ak (-54000) (dK a0)) (sel (aB (ak (dK a0) 54000)) A (sel (seq a1 [45]) (sel P (sel H C (sel Q (sel I D (sel J (sel F A (sel R (sel L E (K (V.tup [V.agg [M,B,B,V.str [],T,S,N,O,B,B,G,B,B],B]))) none)) A)) none)) none) (sel U (sel (NL a1) (sel U (sel (aB (ieq (ig a1) 0)) (K (V.tup [eZ,V.int .i64 (ig a1)])) (sel (ak (-10800) (dK a1)) (sel (aB (ak (dK a1) 10800)) A (sel P (sel H C (sel Q (sel I D (sel J (sel F A (sel R (sel L E (K (V.tup [V.agg [M,G,V.int .i64 (dK a1),V.str [],T,S,N,O,B,B,G,B,B],B]))) none)) A)) none)) none)) A)) none) (sel (ak (ah a1) 1000) (sel (aB (ieq (gW a1) 0)) (K (V.tup [eZ,V.int .i64 (gW a1)])) (sel P (sel H C (sel Q (sel I D (sel J (sel F A (sel R (sel L E (K (V.tup [V.agg [M,V.int .i64 2,B,V.str a1,T,S,N,O,B,B,G,B,B],B]))) none)) A)) none)) none)) none)) none))) A)) none:=by kernel_rfl
theorem JE (a0 a1 a2 a3 a4 a5:List UInt8) (K:V→Option V):
 bD eE (bB eE Vu 9 10) 9 49 [V.sl 9 [Kd.str] none [V.str a0,V.str a1,V.str a2,V.str a3,V.str a4,V.str a5]] K=
 let A:=K (V.tup [eZ,V.int .i64 1]);let B:=V.int .i64 0;let C:=aB (zf (tX a5) (iB a5) (tY a5) (kG a4));let D:=K (V.tup [eZ,V.int .i64 (gD a2)]);let E:=K (V.tup [eZ,V.int .i64 (nrW a3)]);let F:=K (V.tup [eZ,V.int .i64 (ku a4)]);let G:=K (V.tup [eZ,V.int .i64 (uQ a5)]);let H:=aB (aK (eU a3) 32767);let I:=aB (ieq (gD a2) 0);let J:=aB (ieq (nrW a3) 0);let L:=aK (-32767) (eU a3);let M:=aB (ieq (ku a4) 0);let N:=aB (ieq (uQ a5) 0);let O:=V.int .i64 (iB a5);let P:=V.int .i64 (dK a0);let Q:=V.int .i64 (eU a3);let R:=V.int .i64 (kG a4);let S:=V.int .i64 (tX a5);let T:=V.int .i64 (tY a5);let U:=ak (ah a2) 900;let W:=ak (ah a3) 900;let X:=ak (ah a4) 900;let Y:=ak (ah a5) 900;let Z:=V.bool true;sel (ak (ah a0) 900) (sel (aB (ieq (ig a0) 0)) (K (V.tup [eZ,V.int .i64 (ig a0)])) (sel (ak (-54000) (dK a0)) (sel (aB (ak (dK a0) 54000)) A (sel (seq a1 [45]) (sel U (sel I D (sel W (sel J E (sel L (sel H A (sel X (sel M F (sel Y (sel N G (sel C A (K (V.tup [V.agg [P,B,B,V.str [],V.str a2,Z,Q,R,S,O,T,B,B],B])))) none)) none)) A)) none)) none) (sel (ak (ah a1) 900) (sel (NL a1) (sel (ak (ah a1) 900) (sel (aB (ieq (ig a1) 0)) (K (V.tup [eZ,V.int .i64 (ig a1)])) (sel (ak (-10800) (dK a1)) (sel (aB (ak (dK a1) 10800)) A (sel U (sel I D (sel W (sel J E (sel L (sel H A (sel X (sel M F (sel Y (sel N G (sel C A (K (V.tup [V.agg [P,V.int .i64 1,V.int .i64 (dK a1),V.str [],V.str a2,Z,Q,R,S,O,T,B,B],B])))) none)) none)) A)) none)) none)) A)) none) (sel (ak (ah a1) 1000) (sel (aB (ieq (gW a1) 0)) (K (V.tup [eZ,V.int .i64 (gW a1)])) (sel U (sel I D (sel W (sel J E (sel L (sel H A (sel X (sel M F (sel Y (sel N G (sel C A (K (V.tup [V.agg [P,V.int .i64 2,B,V.str a1,V.str a2,Z,Q,R,S,O,T,B,B],B])))) none)) none)) A)) none)) none)) none)) none))) A)) none:=by kernel_rfl
theorem JF (a0 a1 a2 a3 a4 a5 a6:List UInt8) (K:V→Option V):
 bD eE (bB eE Vu 9 10) 9 49 [V.sl 9 [Kd.str] none [V.str a0,V.str a1,V.str a2,V.str a3,V.str a4,V.str a5,V.str a6]] K=
 let A:=K (V.tup [eZ,V.int .i64 1]);let B:=aB (zf (tX a5) (iB a5) (tY a5) (kG a4));let C:=K (V.tup [eZ,V.int .i64 (gD a2)]);let D:=K (V.tup [eZ,V.int .i64 (nrW a3)]);let E:=K (V.tup [eZ,V.int .i64 (ku a4)]);let F:=K (V.tup [eZ,V.int .i64 (uQ a5)]);let G:=K (V.tup [eZ,V.int .i64 (xZ a6)]);let H:=V.int .i64 0;let I:=aB (aK (eU a3) 32767);let J:=aB (ieq (gD a2) 0);let L:=aB (ieq (nrW a3) 0);let M:=aK (-32767) (eU a3);let N:=aB (ieq (ku a4) 0);let O:=aB (ieq (uQ a5) 0);let P:=aB (ieq (xZ a6) 0);let Q:=V.int .i64 (iB a5);let R:=V.int .i64 (dK a0);let S:=V.int .i64 (eU a3);let T:=V.int .i64 (kG a4);let U:=V.int .i64 (tX a5);let W:=V.int .i64 (tY a5);let X:=V.int .i64 (Vr a6);let Y:=V.int .i64 (Vs a6);let Z:=ak (ah a2) 900;let Aa:=ak (ah a3) 900;let Ab:=ak (ah a4) 900;let Ac:=ak (ah a5) 900;let Ad:=ak (ah a6) 900;let Ae:=V.bool true;sel (ak (ah a0) 900) (sel (aB (ieq (ig a0) 0)) (K (V.tup [eZ,V.int .i64 (ig a0)])) (sel (ak (-54000) (dK a0)) (sel (aB (ak (dK a0) 54000)) A (sel (seq a1 [45]) (sel Z (sel J C (sel Aa (sel L D (sel M (sel I A (sel Ab (sel N E (sel Ac (sel O F (sel B A (sel Ad (sel P G (K (V.tup [V.agg [R,H,H,V.str [],V.str a2,Ae,S,T,U,Q,W,X,Y],H]))) none))) none)) none)) A)) none)) none) (sel (ak (ah a1) 900) (sel (NL a1) (sel (ak (ah a1) 900) (sel (aB (ieq (ig a1) 0)) (K (V.tup [eZ,V.int .i64 (ig a1)])) (sel (ak (-10800) (dK a1)) (sel (aB (ak (dK a1) 10800)) A (sel Z (sel J C (sel Aa (sel L D (sel M (sel I A (sel Ab (sel N E (sel Ac (sel O F (sel B A (sel Ad (sel P G (K (V.tup [V.agg [R,V.int .i64 1,V.int .i64 (dK a1),V.str [],V.str a2,Ae,S,T,U,Q,W,X,Y],H]))) none))) none)) none)) A)) none)) none)) A)) none) (sel (ak (ah a1) 1000) (sel (aB (ieq (gW a1) 0)) (K (V.tup [eZ,V.int .i64 (gW a1)])) (sel Z (sel J C (sel Aa (sel L D (sel M (sel I A (sel Ab (sel N E (sel Ac (sel O F (sel B A (sel Ad (sel P G (K (V.tup [V.agg [R,V.int .i64 2,H,V.str a1,V.str a2,Ae,S,T,U,Q,W,X,Y],H]))) none))) none)) none)) A)) none)) none)) none)) none))) A)) none:=by kernel_rfl
theorem EJ (F:Nat) (xs:List V) (K:V→Option V):
 bD eE (bB eE eSn F 3) F 36 [V.sl 9 [Kd.str] none xs] K=
 sel (aK (ax xs) 3) (K (V.tup [eZ,V.int .i64 5])) (sel (aK 7 (ax xs)) (K (V.tup [eZ,V.int .i64 6])) (sel (av (ak 0 0) (aK 0 (ax xs))) none none)):=by kernel_rfl
theorem DL (a0 a1 a2:List UInt8) (K:V→Option V):
 bD eE (bB eE eS2 9 3) 9 36 [V.sl 9 [Kd.str] none [V.str a0,V.str a1,V.str a2]] K=
 let C:=av (dZ []) (ak 0 4);let D:=ak (ah a1) 900;let E:=ak (ah a2) 900;let A:=sel D (sel C (sel E (sel (aB (ieq (ig a0) 0)) (K (V.tup [eZ,V.int .i64 (ig a0)])) (sel (aB (ieq (rF a1) 0)) (K (V.tup [eZ,V.int .i64 (rF a1)])) (sel (aB (ieq (gD a2) 0)) (K (V.tup [eZ,V.int .i64 (gD a2)])) (sel (aB (ieq (mD []) 0)) (K (V.tup [eZ,V.int .i64 (mD [])])) (K (V.tup [V.agg [V.int .i64 (dK a0),V.int .i64 (JK a1),V.int .i64 (JL a1),V.str (JM a1),V.str a2,V.bool (qp []),V.int .i64 (vV []),V.int .i64 (vW []),V.int .i64 (vX []),V.int .i64 (vY []),V.int .i64 (vZ []),V.int .i64 (wh []),V.int .i64 (wm [])],V.int .i64 0])))))) none) none) (none);let B:=sel D (sel C (sel E (K (V.tup [eZ,V.int .i64 1])) none) none) (none);sel (ak (ah a0) 900) (sel (ieq (ig a0) 0) (sel (aK (dK a0) (-54000)) B (sel (aK 54000 (dK a0)) B A)) A) none:=by kernel_rfl
theorem DN (a0 a1 a2 a3:List UInt8) (K:V→Option V):
 bD eE (bB eE eS2 9 3) 9 36 [V.sl 9 [Kd.str] none [V.str a0,V.str a1,V.str a2,V.str a3]] K=
 let C:=[V.str a3];let E:=ak (ah a1) 900;let F:=ak (ah a2) 900;let D:=av (dZ C) (ak 1 4);let A:=sel E (sel D (sel F (sel (aB (ieq (ig a0) 0)) (K (V.tup [eZ,V.int .i64 (ig a0)])) (sel (aB (ieq (rF a1) 0)) (K (V.tup [eZ,V.int .i64 (rF a1)])) (sel (aB (ieq (gD a2) 0)) (K (V.tup [eZ,V.int .i64 (gD a2)])) (sel (aB (ieq (mD C) 0)) (K (V.tup [eZ,V.int .i64 (mD C)])) (K (V.tup [V.agg [V.int .i64 (dK a0),V.int .i64 (JK a1),V.int .i64 (JL a1),V.str (JM a1),V.str a2,V.bool (qp C),V.int .i64 (vV C),V.int .i64 (vW C),V.int .i64 (vX C),V.int .i64 (vY C),V.int .i64 (vZ C),V.int .i64 (wh C),V.int .i64 (wm C)],V.int .i64 0])))))) none) none) (none);let B:=sel E (sel D (sel F (K (V.tup [eZ,V.int .i64 1])) none) none) (none);sel (ak (ah a0) 900) (sel (ieq (ig a0) 0) (sel (aK (dK a0) (-54000)) B (sel (aK 54000 (dK a0)) B A)) A) none:=by kernel_rfl
theorem DR (a0 a1 a2 a3 a4:List UInt8) (K:V→Option V):
 bD eE (bB eE eS2 9 3) 9 36 [V.sl 9 [Kd.str] none [V.str a0,V.str a1,V.str a2,V.str a3,V.str a4]] K=
 let B:=[V.str a3,V.str a4];let E:=ak (ah a1) 900;let F:=ak (ah a2) 900;let D:=av (dZ B) (ak 2 4);let A:=sel E (sel D (sel F (sel (aB (ieq (ig a0) 0)) (K (V.tup [eZ,V.int .i64 (ig a0)])) (sel (aB (ieq (rF a1) 0)) (K (V.tup [eZ,V.int .i64 (rF a1)])) (sel (aB (ieq (gD a2) 0)) (K (V.tup [eZ,V.int .i64 (gD a2)])) (sel (aB (ieq (mD B) 0)) (K (V.tup [eZ,V.int .i64 (mD B)])) (K (V.tup [V.agg [V.int .i64 (dK a0),V.int .i64 (JK a1),V.int .i64 (JL a1),V.str (JM a1),V.str a2,V.bool (qp B),V.int .i64 (vV B),V.int .i64 (vW B),V.int .i64 (vX B),V.int .i64 (vY B),V.int .i64 (vZ B),V.int .i64 (wh B),V.int .i64 (wm B)],V.int .i64 0])))))) none) none) (none);let C:=sel E (sel D (sel F (K (V.tup [eZ,V.int .i64 1])) none) none) (none);sel (ak (ah a0) 900) (sel (ieq (ig a0) 0) (sel (aK (dK a0) (-54000)) C (sel (aK 54000 (dK a0)) C A)) A) none:=by kernel_rfl
theorem DT (a0 a1 a2 a3 a4 a5:List UInt8) (K:V→Option V):
 bD eE (bB eE eS2 9 3) 9 36 [V.sl 9 [Kd.str] none [V.str a0,V.str a1,V.str a2,V.str a3,V.str a4,V.str a5]] K=
 let B:=[V.str a3,V.str a4,V.str a5];let E:=ak (ah a1) 900;let F:=ak (ah a2) 900;let D:=av (dZ B) (ak 3 4);let A:=sel E (sel D (sel F (sel (aB (ieq (ig a0) 0)) (K (V.tup [eZ,V.int .i64 (ig a0)])) (sel (aB (ieq (rF a1) 0)) (K (V.tup [eZ,V.int .i64 (rF a1)])) (sel (aB (ieq (gD a2) 0)) (K (V.tup [eZ,V.int .i64 (gD a2)])) (sel (aB (ieq (mD B) 0)) (K (V.tup [eZ,V.int .i64 (mD B)])) (K (V.tup [V.agg [V.int .i64 (dK a0),V.int .i64 (JK a1),V.int .i64 (JL a1),V.str (JM a1),V.str a2,V.bool (qp B),V.int .i64 (vV B),V.int .i64 (vW B),V.int .i64 (vX B),V.int .i64 (vY B),V.int .i64 (vZ B),V.int .i64 (wh B),V.int .i64 (wm B)],V.int .i64 0])))))) none) none) (none);let C:=sel E (sel D (sel F (K (V.tup [eZ,V.int .i64 1])) none) none) (none);sel (ak (ah a0) 900) (sel (ieq (ig a0) 0) (sel (aK (dK a0) (-54000)) C (sel (aK 54000 (dK a0)) C A)) A) none:=by kernel_rfl
theorem DV (a0 a1 a2 a3 a4 a5 a6:List UInt8) (K:V→Option V):
 bD eE (bB eE eS2 9 3) 9 36 [V.sl 9 [Kd.str] none [V.str a0,V.str a1,V.str a2,V.str a3,V.str a4,V.str a5,V.str a6]] K=
 let B:=[V.str a3,V.str a4,V.str a5,V.str a6];let E:=ak (ah a1) 900;let F:=ak (ah a2) 900;let D:=av (dZ B) (ak 4 4);let A:=sel E (sel D (sel F (sel (aB (ieq (ig a0) 0)) (K (V.tup [eZ,V.int .i64 (ig a0)])) (sel (aB (ieq (rF a1) 0)) (K (V.tup [eZ,V.int .i64 (rF a1)])) (sel (aB (ieq (gD a2) 0)) (K (V.tup [eZ,V.int .i64 (gD a2)])) (sel (aB (ieq (mD B) 0)) (K (V.tup [eZ,V.int .i64 (mD B)])) (K (V.tup [V.agg [V.int .i64 (dK a0),V.int .i64 (JK a1),V.int .i64 (JL a1),V.str (JM a1),V.str a2,V.bool (qp B),V.int .i64 (vV B),V.int .i64 (vW B),V.int .i64 (vX B),V.int .i64 (vY B),V.int .i64 (vZ B),V.int .i64 (wh B),V.int .i64 (wm B)],V.int .i64 0])))))) none) none) (none);let C:=sel E (sel D (sel F (K (V.tup [eZ,V.int .i64 1])) none) none) (none);sel (ak (ah a0) 900) (sel (ieq (ig a0) 0) (sel (aK (dK a0) (-54000)) C (sel (aK 54000 (dK a0)) C A)) A) none:=by kernel_rfl
open Go.RowKit Nt
theorem d9:vT eE:=⟨by kernel_rfl,by kernel_rfl⟩
theorem FV {f:Nat} {args:List V} {r:V} (h:af zE f args r):af eE f args r:=af.env (E:=zE) rfl (fun n v h=>by
 show(bif n==2 then some aac else zE.glob n)=some v
 cases e:n==2 with
 |true=>
  obtain rfl:n=2:=by simpa using e
  have:zE.glob 2=none:=by kernel_rfl
  rw[this] at h;cases h
 |false=>exact h) h
theorem eNrS_ok (s:List UInt8) (hc:ak (ah s) 900=true):af eE 142 [.str s] (.tup [.int .i64 (eU s),.int .i64 (nrW s)]):=FV (toZ (MH s (by have:=kF hc;omega)))
theorem rq (s:List UInt8) (hc:ak (ah s) 900=true):af eE 85 [.str s] (.tup [.int .i64 (eU s),.int .i64 (nrW s)]):=FV (toZ (MI s (by have:=kF hc;omega)))
theorem eChS_ok (s:List UInt8) (hc:ak (ah s) 900=true):af eE 108 [.str s] (.int .i64 (gD s)):=FV (toZf (Xw s (sU hc)))
theorem qb (s:List UInt8) (hc:ak (ah s) 900=true):af eE 59 [.str s] (.int .i64 (gD s)):=FV (toZf (oL s (sU hc)))
theorem Sc:bF eE eS0:=by
 unfold eS0;refine bF.cons (fun args r h=>?_) (bF.cons (fun args r h=>?_) (bF.cons (fun args r h=>?_) (bF.cons (fun args r h=>?_) (bF.cons (fun args r h=>?_) (bF.cons (fun args r h=>?_) (bF.cons (fun args r h=>?_) (bF.cons (fun args r h=>?_) (bF.cons (fun args r h=>?_) (bF.cons (fun args r h=>?_) (bF.cons (fun args r h=>?_) (bF.cons (fun args r h=>?_) (bF.cons (fun args r h=>?_) (bF.cons (fun args r h=>?_) (bF.cons (fun args r h=>?_) (bF.cons (fun args r h=>?_) (bF.cons (fun args r h=>?_) (bF.cons (fun args r h=>?_) (bF.cons (fun args r h=>?_) bF.nil))))))))))))))))));all_goals (revert h;intro h;first|unfold eNrS at h|unfold eChS at h|unfold zOdS at h|unfold zSvS at h|unfold CU at h|unfold CV at h|unfold J3 at h|unfold J4 at h|unfold J5 at h|unfold J6 at h|unfold zCrS at h)
 all_goals (split at h;rotate_left; · cases h)
 all_goals (simp only[Option.some.injEq,Prod.mk.injEq] at h;obtain⟨hc,rfl⟩:=h)
 ·exact eNrS_ok _ hc
 ·exact rq _ hc
 ·exact eChS_ok _ hc
 ·exact qb _ hc
 ·exact FV (U2 _ _ hc)
 ·exact FV (U3 _ hc)
 ·exact FV (K4 _ hc)
 ·exact FV (je _ hc)
 ·exact FV (K5 _ _ _ _ rfl)
 ·exact FV (jf _ _ _ _ rfl)
 ·exact FV (Pb _ hc)
 ·exact FV (jg _ hc)
 ·exact FV (Pf _ hc)
 ·exact FV (jv _ hc)
 ·exact FV (Pg _ hc)
 ·exact FV (jw _ hc)
 ·exact FV (Ph _ hc)
 ·exact FV (jy _ hc)
 ·exact FV (U1 _ _ rfl)
theorem eNoS_ok (s:List UInt8) (hc:false=true):af eE 104 [.str s] (.int .i64 0):=by cases hc
theorem ru (s:List UInt8) (hc:false=true):af eE 56 [.str s] (.int .i64 0):=by cases hc
theorem Mg:bF eE eSn:=by
 unfold eSn;refine bF.cons (fun args r h=>?_) (bF.cons (fun args r h=>?_) bF.nil);all_goals (revert h;intro h;first|unfold eNoS at h)
 all_goals (split at h;rotate_left; · cases h)
 all_goals (simp only[Option.some.injEq,Prod.mk.injEq] at h;obtain⟨hc,rfl⟩:=h)
 ·exact eNoS_ok _ hc
 ·exact ru _ hc
theorem Oy (c:UInt8) (t:List UInt8):sat (c::t) 0=((c.toNat:Nat):Int):=rfl
theorem sat_1 (c d:UInt8) (t:List UInt8):sat (c::d::t) 1=((d.toNat:Nat):Int):=rfl
theorem abR (s:List UInt8) (hc:ak (ah s) 900=true):af eE 140 [.str s] (.bool (NL s)):=by
 refine ai d9 Sc 5 4 ?_
 (rw[abP];(conv=>zeta))
 have one:ah [45]=1:=rfl;rw[one];rcases s with _|⟨c,_|⟨d,t⟩⟩
 ·rfl
 ·
  have l1:ak 1 (ah [c])=true:=rfl;have l2:av (ak 0 1) true=true:=rfl;have l3:bU [c] 0 1=[c]:=rfl;have l4:bU [c] 1 (ah [c])=[]:=rfl;have l5:av (ak 0 0) (aK 0 (ah [c]))=true:=rfl;have l6:seq [c] []=false:=rfl;have e1:seq [c] [45]=(c==45):=by rw[Bool.eq_iff_iff,dH,beq_iff_eq];simp
  have e2:ak 48 ((c.toNat:Nat):Int)=decide (48≤c.toNat):=Ah c 48;have e3:ak ((c.toNat:Nat):Int) 57=decide (c.toNat≤57):=u6 c 57;rw[l1,l2,l3,l4,l5,l6,Oy,e1,e2,e3];show _=some (V.bool (decide (48≤c.toNat)&&decide (c.toNat≤57)))
  cases h45:c==45 with
  |true=>
   have:c=45:=by simpa using h45
   subst this;rfl
  |false=>cases decide (48≤c.toNat)<;>cases decide (c.toNat≤57)<;>rfl
 ·
  rw[aA,au] at hc;have l1:ak 1 (ah (c::d::t))=true:=bA (by rw[au,List.length_cons,List.length_cons];omega);have l2:av (ak 0 1) true=true:=rfl;have l3:bU (c::d::t) 0 1=[c]:=rfl;have l4:bU (c::d::t) 1 (ah (c::d::t))=d::t:=by
   unfold bU ah;show List.take (((c::d::t).length:Int).toNat-1) (d::t)=d::t;rw[List.take_of_length_le];simp;omega
  have l5:seq (d::t) []=false:=rfl;have l6:seq (c::d::t) []=false:=rfl;have l7:av (ak 0 0) (aK 0 (ah (d::t)))=true:=by rw[bq (by rw[au,List.length_cons];omega)];rfl
  have l8:av (ak 0 0) (aK 0 (ah (c::d::t)))=true:=by rw[bq (by rw[au,List.length_cons];omega)];rfl
  rw[l1,l2,l3,l4,l5,l6,l7,l8,Oy,Oy];have e1:seq [c] [45]=(c==45):=by rw[Bool.eq_iff_iff,dH,beq_iff_eq];simp
  have e2: ∀x:UInt8,ak 48 ((x.toNat:Nat):Int)=decide (48≤x.toNat):=fun x=>Ah x 48
  have e3: ∀x:UInt8,ak ((x.toNat:Nat):Int) 57=decide (x.toNat≤57):=fun x=>u6 x 57
  rw[e1,e2,e2,e3,e3];show _=some (V.bool ((decide (48≤c.toNat)&&decide (c.toNat≤57))||(c==45&&(decide (48≤d.toNat)&&decide (d.toNat≤57)))))
  cases hc45:c==45 with
  |true=>
   have:c=45:=by simpa using hc45
   subst this
   cases decide (48≤d.toNat)<;>cases decide (d.toNat≤57)<;>rfl
  |false=>cases decide (48≤c.toNat)<;>cases decide (c.toNat≤57)<;>cases decide (48≤d.toNat)<;>cases decide (d.toNat≤57)<;>rfl
theorem yJ (s:List UInt8):rF s=sel (seq s [45]) 0 (sel (NL s) (Re s) (gW s)):=by
 unfold rF rlP;simp only[bI,dH]
 (repeat' split)<;>rfl
theorem iw (s:List UInt8):JK s=sel (seq s [45]) 0 (sel (NL s) 1 2):=by
 unfold JK rlP;simp only[bI,dH]
 (repeat' split)<;>rfl
theorem iy (s:List UInt8):JL s=sel (seq s [45]) 0 (sel (NL s) (Rc s) 0):=by
 unfold JL rlP;simp only[bI,dH]
 (repeat' split)<;>rfl
theorem iA (s:List UInt8):JM s=sel (seq s [45]) [] (sel (NL s) [] s):=by
 unfold JM rlP;simp only[bI,dH]
 (repeat' split)<;>rfl
theorem iU (s:List UInt8):Rc s=sel (ieq (ig s) 0) (sel (ak (-10800) (dK s)) (sel (ak (dK s) 10800) (dK s) 0) 0) (dK s):=by
 unfold Rc svP;simp only[bI,aH,aA];by_cases h:ig s=0
 ·rw[if_pos h,if_pos h]
  by_cases h1: -10800≤dK s
  ·rw[if_pos h1]
   by_cases h2:dK s≤10800
   ·rw[if_pos h2,if_neg (by omega)]
   ·rw[if_neg h2,if_pos (by omega)]
  ·rw[if_neg h1,if_pos (by omega)]
 ·rw[if_neg h,if_neg h]
theorem lg (s:List UInt8) (m:Int):QX s m=sel (ieq (uQ s) 0) (sel (zf (tX s) (iB s) (tY s) m) (tX s) 0) (tX s):=by
 unfold QX odP;simp only[bI,aH]
 (repeat' split)<;>rfl
theorem lm (s:List UInt8) (m:Int):QY s m=sel (ieq (uQ s) 0) (sel (zf (tX s) (iB s) (tY s) m) (iB s) 0) (iB s):=by
 unfold QY odP;simp only[bI,aH]
 (repeat' split)<;>rfl
theorem lq (s:List UInt8) (m:Int):QZ s m=sel (ieq (uQ s) 0) (sel (zf (tX s) (iB s) (tY s) m) (tY s) 0) (tY s):=by
 unfold QZ odP;simp only[bI,aH]
 (repeat' split)<;>rfl
theorem sW (a b:Int):aK a b=aB (ak b a):=by
 unfold aK ak aB;rw[Bool.eq_iff_iff,decide_eq_true_eq,Bool.not_eq_true',decide_eq_false_iff_not];omega
theorem pV:av true true=true:=rfl
theorem abS (s:List UInt8) (hc:ak (ah s) 900=true):af eE 57 [.str s] (.tup [.int .i64 (JK s),.int .i64 (JL s),.str (JM s),.int .i64 (rF s)]):=by
 refine ai d9 Sc 5 3 ?_
 (rw[abQ];(conv=>zeta);rw[iw,iy,iA,yJ,hc,sU hc])
 rcases s with _|⟨c,_|⟨d,t⟩⟩
 ·rfl
 ·
  have e1:seq [c] [45]=(c==45):=by rw[Bool.eq_iff_iff,dH,beq_iff_eq];simp
  have l1:aK 0 (ah [c])=true:=rfl;have l2:av (ak 0 0) true=true:=rfl;have l3:seq [c] []=false:=rfl;have l4:aK 1 (ah [c])=false:=rfl;have e2:ak 48 ((c.toNat:Nat):Int)=decide (48≤c.toNat):=Ah c 48;have e3:ak ((c.toNat:Nat):Int) 57=decide (c.toNat≤57):=u6 c 57;have e4:ieq ((c.toNat:Nat):Int) 45=(c==45):=GG c 45;rw[l1,l2,l3,l4,Oy,e1,e2,e3,e4];show _=some (V.tup [.int .i64 (sel (c==45) 0 (sel (decide (48≤c.toNat)&&decide (c.toNat≤57)) 1 2)),.int .i64 (sel (c==45) 0 (sel (decide (48≤c.toNat)&&decide (c.toNat≤57)) (Rc [c]) 0)),.str (sel (c==45) [] (sel (decide (48≤c.toNat)&&decide (c.toNat≤57)) [] [c])),.int .i64 (sel (c==45) 0 (sel (decide (48≤c.toNat)&&decide (c.toNat≤57)) (Re [c]) (gW [c])))])
  cases c==45<;>cases decide (48≤c.toNat)<;>cases decide (c.toNat≤57)<;>rfl
 ·
  have e1:seq (c::d::t) [45]=false:=by
   cases e:seq (c::d::t) [45] with
   |false=>rfl
   |true=>rw[dH] at e;cases e
  have l1:aK 0 (ah (c::d::t))=true:=bq (by rw[au,List.length_cons];omega);have l2:av (ak 0 0) true=true:=rfl;have l3:seq (c::d::t) []=false:=rfl;have l4:aK 1 (ah (c::d::t))=true:=bq (by rw[au,List.length_cons,List.length_cons];omega);have l5:av (ak 0 1) true=true:=rfl;have e2: ∀x:UInt8,ak 48 ((x.toNat:Nat):Int)=decide (48≤x.toNat):=fun x=>Ah x 48
  have e3: ∀x:UInt8,ak ((x.toNat:Nat):Int) 57=decide (x.toNat≤57):=fun x=>u6 x 57
  have e4:ieq ((c.toNat:Nat):Int) 45=(c==45):=GG c 45;rw[l1,l4,l2,l5,l3,Oy,sat_1,e1,e2,e2,e3,e3,e4];have eN:NL (c::d::t)=((decide (48≤c.toNat)&&decide (c.toNat≤57))||(c==45&&(decide (48≤d.toNat)&&decide (d.toNat≤57)))):=rfl;rw[eN]
  cases c==45<;>cases decide (48≤c.toNat)<;>cases decide (c.toNat≤57)<;>cases decide (48≤d.toNat)<;>cases decide (d.toNat≤57)<;>rfl
theorem qJ:bF eE Vu:=by
 unfold Vu;refine bF.cons (fun args r h=>?_) (bF.cons (fun args r h=>?_) Sc);all_goals (revert h;intro h;first|unfold eNumS at h|unfold eRulS at h)
 all_goals (split at h;rotate_left; · cases h)
 all_goals (simp only[Option.some.injEq,Prod.mk.injEq] at h;obtain⟨hc,rfl⟩:=h)
 ·exact abR _ hc
 ·exact abS _ hc
def enV (ys:List V):V:=.tup [.agg [.bool (qp ys),.int .i64 (vV ys),.int .i64 (vW ys),.int .i64 (vX ys),.int .i64 (vY ys),.int .i64 (vZ ys),.int .i64 (wh ys),.int .i64 (wm ys)],.int .i64 (mD ys)]
def lU (s:List UInt8):Int:=sel (ieq (ig s) 0) (sel (ak (-54000) (dK s)) (sel (ak (dK s) 54000) 0 1) 1) (ig s)
def lC (xs:List V):Int:=sel (aK (ax xs) 3) 5 (sel (aK 7 (ax xs)) 6 (sel (ieq (lU (rg xs 0)) 0) (sel (ieq (rF (rg xs 1)) 0) (sel (ieq (gD (rg xs 2)) 0) (mD (dI xs 3 (ax xs))) (gD (rg xs 2))) (rF (rg xs 1))) (lU (rg xs 0))))
def er0 (xs:List V):Int:=sel (ieq (lC xs) 0) (dK (rg xs 0)) 0
def er1 (xs:List V):Int:=sel (ieq (lC xs) 0) (JK (rg xs 1)) 0
def er2 (xs:List V):Int:=sel (ieq (lC xs) 0) (JL (rg xs 1)) 0
def er3 (xs:List V):List UInt8:=sel (ieq (lC xs) 0) (JM (rg xs 1)) []
def er4 (xs:List V):List UInt8:=sel (ieq (lC xs) 0) (rg xs 2) []
def Ri (xs:List V):Bool:=sel (ieq (lC xs) 0) (qp (dI xs 3 (ax xs))) false
def er6 (xs:List V):Int:=sel (ieq (lC xs) 0) (vV (dI xs 3 (ax xs))) 0
def er7 (xs:List V):Int:=sel (ieq (lC xs) 0) (vW (dI xs 3 (ax xs))) 0
def er8 (xs:List V):Int:=sel (ieq (lC xs) 0) (vX (dI xs 3 (ax xs))) 0
def er9 (xs:List V):Int:=sel (ieq (lC xs) 0) (vY (dI xs 3 (ax xs))) 0
def VG (xs:List V):Int:=sel (ieq (lC xs) 0) (vZ (dI xs 3 (ax xs))) 0
def VH (xs:List V):Int:=sel (ieq (lC xs) 0) (wh (dI xs 3 (ax xs))) 0
def VI (xs:List V):Int:=sel (ieq (lC xs) 0) (wm (dI xs 3 (ax xs))) 0
def Fx (xs:List V):V:=.tup [.agg [.int .i64 (er0 xs),.int .i64 (er1 xs),.int .i64 (er2 xs),.str (er3 xs),.str (er4 xs),.bool (Ri xs),.int .i64 (er6 xs),.int .i64 (er7 xs),.int .i64 (er8 xs),.int .i64 (er9 xs),.int .i64 (VG xs),.int .i64 (VH xs),.int .i64 (VI xs)],.int .i64 (lC xs)]
def Yv (xs:List V) (x0 x1 x2:Int) (x3 x4:List UInt8) (x5:Bool) (x6 x7 x8 x9 x10 Fw tT:Int):V:=.tup [.agg [.int .i64 (sel (ieq (lC xs) 0) x0 0),.int .i64 (sel (ieq (lC xs) 0) x1 0),.int .i64 (sel (ieq (lC xs) 0) x2 0),.str (sel (ieq (lC xs) 0) x3 []),.str (sel (ieq (lC xs) 0) x4 []),.bool (sel (ieq (lC xs) 0) x5 false),.int .i64 (sel (ieq (lC xs) 0) x6 0),.int .i64 (sel (ieq (lC xs) 0) x7 0),.int .i64 (sel (ieq (lC xs) 0) x8 0),.int .i64 (sel (ieq (lC xs) 0) x9 0),.int .i64 (sel (ieq (lC xs) 0) x10 0),.int .i64 (sel (ieq (lC xs) 0) Fw 0),.int .i64 (sel (ieq (lC xs) 0) tT 0)],.int .i64 (lC xs)]
theorem iF (xs:List V) (x0 x1 x2:Int) (x3 x4:List UInt8) (x5:Bool) (x6 x7 x8 x9 x10 Fw tT:Int) (h:lC xs=0):Yv xs x0 x1 x2 x3 x4 x5 x6 x7 x8 x9 x10 Fw tT=.tup [.agg [.int .i64 x0,.int .i64 x1,.int .i64 x2,.str x3,.str x4,.bool x5,.int .i64 x6,.int .i64 x7,.int .i64 x8,.int .i64 x9,.int .i64 x10,.int .i64 Fw,.int .i64 tT],.int .i64 0]:=by
 unfold Yv;rw[h];rfl
theorem aN (xs:List V) {e:Int} (h:lC xs=e) (he:ieq e 0=false):Fx xs=.tup [.agg [.int .i64 0,.int .i64 0,.int .i64 0,.str [],.str [],.bool false,.int .i64 0,.int .i64 0,.int .i64 0,.int .i64 0,.int .i64 0,.int .i64 0,.int .i64 0],.int .i64 e]:=by
 unfold Fx er0 er1 er2 er3 er4 Ri er6 er7 er8 er9 VG VH VI;rw[h,he];rfl
theorem end0_ev:af eE 58 [.sl 9 [.str] none []] (enV []):=by
 refine ai d9 qJ 5 3 ?_
 (rw[NA 0];(conv=>zeta))
 rfl
theorem end1_ev (a0:List UInt8) (h0:ak (ah a0) 900=true):af eE 58 [.sl 9 [.str] none [.str a0]] (enV [.str a0]):=by
 refine ai d9 qJ 5 3 ?_
 (rw[NB];(conv=>zeta))
 have r0:rg [.str a0] 0=a0:=rfl;have hl:ax [.str a0]=1:=rfl;unfold enV vV vW vX vY vZ wh wm mD I8 vO uV FU qz FT en0 qp;simp only[hl,r0,h0,show ieq 1 0=false from rfl,show aB false=true from rfl,sT,show aK 1 1=false from rfl,show aK 2 1=false from rfl,show aK 3 1=false from rfl];have z1:ieq 1 0=false:=rfl;have z0:ieq 0 0=true:=rfl
 cases e0:ieq (nrW a0) 0 with
 |false=>simp only[e0,z0,z1,sT,sF]
 |true=>
 cases e1:ak (eU a0) (-32767) with
 |true=>simp only[e0,e1,z0,z1,sT,sF]
 |false=>
 cases e2:ak 32767 (eU a0) with
 |true=>simp only[e0,e1,e2,z0,z1,sT,sF]
 |false=>
 have n0:nrW a0=0:=by rw[aH] at e0;exact e0
 simp only[e0,e1,e2,n0,z0,z1,sT,sF]
theorem end2_ev (a0 a1:List UInt8) (h0:ak (ah a0) 900=true) (h1:ak (ah a1) 900=true):af eE 58 [.sl 9 [.str] none [.str a0,.str a1]] (enV [.str a0,.str a1]):=by
 refine ai d9 qJ 5 3 ?_
 (rw[NC];(conv=>zeta))
 have r0:rg [.str a0,.str a1] 0=a0:=rfl;have r1:rg [.str a0,.str a1] 1=a1:=rfl;have hl:ax [.str a0,.str a1]=2:=rfl;unfold enV vV vW vX vY vZ wh wm mD I8 vO uV FU qz FT en0 qp;simp only[hl,r0,r1,h0,h1,show ieq 2 0=false from rfl,show aB false=true from rfl,sT,show aK 1 2=true from rfl,show aK 2 2=false from rfl,show aK 3 2=false from rfl];have z1:ieq 1 0=false:=rfl;have z0:ieq 0 0=true:=rfl
 cases e0:ieq (nrW a0) 0 with
 |false=>simp only[e0,z0,z1,sT,sF]
 |true=>
 cases e1:ak (eU a0) (-32767) with
 |true=>simp only[e0,e1,z0,z1,sT,sF]
 |false=>
 cases e2:ak 32767 (eU a0) with
 |true=>simp only[e0,e1,e2,z0,z1,sT,sF]
 |false=>
 have n0:nrW a0=0:=by rw[aH] at e0;exact e0
 cases e3:ieq (ku a1) 0 with
 |false=>simp only[e0,e1,e2,e3,n0,z0,z1,sT,sF]
 |true=>
 have m0:ku a1=0:=by rw[aH] at e3;exact e3
 simp only[e0,e1,e2,e3,n0,m0,z0,z1,sT,sF]
theorem end3_ev (a0 a1 a2:List UInt8) (h0:ak (ah a0) 900=true) (h1:ak (ah a1) 900=true) (h2:ak (ah a2) 900=true):af eE 58 [.sl 9 [.str] none [.str a0,.str a1,.str a2]] (enV [.str a0,.str a1,.str a2]):=by
 refine ai d9 qJ 5 3 ?_
 (rw[ND];(conv=>zeta))
 have r0:rg [.str a0,.str a1,.str a2] 0=a0:=rfl;have r1:rg [.str a0,.str a1,.str a2] 1=a1:=rfl;have r2:rg [.str a0,.str a1,.str a2] 2=a2:=rfl;have hl:ax [.str a0,.str a1,.str a2]=3:=rfl;unfold enV vV vW vX vY vZ wh wm mD I8 vO uV FU qz FT en0 qp;simp only[hl,r0,r1,r2,h0,h1,h2,show ieq 3 0=false from rfl,show aB false=true from rfl,sT,show aK 1 3=true from rfl,show aK 2 3=true from rfl,show aK 3 3=false from rfl];have z1:ieq 1 0=false:=rfl;have z0:ieq 0 0=true:=rfl
 cases e0:ieq (nrW a0) 0 with
 |false=>simp only[e0,z0,z1,sT,sF]
 |true=>
 cases e1:ak (eU a0) (-32767) with
 |true=>simp only[e0,e1,z0,z1,sT,sF]
 |false=>
 cases e2:ak 32767 (eU a0) with
 |true=>simp only[e0,e1,e2,z0,z1,sT,sF]
 |false=>
 have n0:nrW a0=0:=by rw[aH] at e0;exact e0
 cases e3:ieq (ku a1) 0 with
 |false=>simp only[e0,e1,e2,e3,n0,z0,z1,sT,sF]
 |true=>
 have m0:ku a1=0:=by rw[aH] at e3;exact e3
 cases e4:ieq (NK a2 (kG a1)) 0 with
 |false=>simp only[e0,e1,e2,e3,e4,n0,m0,z0,z1,sT,sF]
 |true=>
 have d0:NK a2 (kG a1)=0:=by rw[aH] at e4;exact e4
 simp only[e0,e1,e2,e3,e4,n0,m0,d0,z0,z1,sT,sF]
theorem end4_ev (a0 a1 a2 a3:List UInt8) (h0:ak (ah a0) 900=true) (h1:ak (ah a1) 900=true) (h2:ak (ah a2) 900=true) (h3:ak (ah a3) 900=true):af eE 58 [.sl 9 [.str] none [.str a0,.str a1,.str a2,.str a3]] (enV [.str a0,.str a1,.str a2,.str a3]):=by
 refine ai d9 qJ 5 3 ?_
 (rw[NE];(conv=>zeta))
 have r0:rg [.str a0,.str a1,.str a2,.str a3] 0=a0:=rfl;have r1:rg [.str a0,.str a1,.str a2,.str a3] 1=a1:=rfl;have r2:rg [.str a0,.str a1,.str a2,.str a3] 2=a2:=rfl;have r3:rg [.str a0,.str a1,.str a2,.str a3] 3=a3:=rfl;have hl:ax [.str a0,.str a1,.str a2,.str a3]=4:=rfl;unfold enV vV vW vX vY vZ wh wm mD I8 vO uV FU qz FT en0 qp;simp only[hl,r0,r1,r2,r3,h0,h1,h2,h3,show ieq 4 0=false from rfl,show aB false=true from rfl,sT,show aK 1 4=true from rfl,show aK 2 4=true from rfl,show aK 3 4=true from rfl];have z1:ieq 1 0=false:=rfl;have z0:ieq 0 0=true:=rfl
 cases e0:ieq (nrW a0) 0 with
 |false=>simp only[e0,z0,z1,sT,sF]
 |true=>
 cases e1:ak (eU a0) (-32767) with
 |true=>simp only[e0,e1,z0,z1,sT,sF]
 |false=>
 cases e2:ak 32767 (eU a0) with
 |true=>simp only[e0,e1,e2,z0,z1,sT,sF]
 |false=>
 have n0:nrW a0=0:=by rw[aH] at e0;exact e0
 cases e3:ieq (ku a1) 0 with
 |false=>simp only[e0,e1,e2,e3,n0,z0,z1,sT,sF]
 |true=>
 have m0:ku a1=0:=by rw[aH] at e3;exact e3
 cases e4:ieq (NK a2 (kG a1)) 0 with
 |false=>simp only[e0,e1,e2,e3,e4,n0,m0,z0,z1,sT,sF]
 |true=>
 have d0:NK a2 (kG a1)=0:=by rw[aH] at e4;exact e4
 simp only[e0,e1,e2,e3,e4,n0,m0,d0,z0,z1,sT,sF]
theorem abT (ys:List V) (hc:av (dZ ys) (ak (ax ys) 4)=true):af eE 58 [.sl 9 [.str] none ys] (.tup [.agg [.bool (qp ys),.int .i64 (vV ys),.int .i64 (vW ys),.int .i64 (vX ys),.int .i64 (vY ys),.int .i64 (vZ ys),.int .i64 (wh ys),.int .i64 (wm ys)],.int .i64 (mD ys)]):=by
 obtain⟨h1,h2⟩:=aV hc;obtain⟨l,rfl,ha⟩:=uL ys h1;rw[aA,aI,List.length_map] at h2;match l,h2,ha with
 |[],_,_=>exact end0_ev
 |[a0],_,ha=>exact end1_ev a0 (ha _ (by simp))
 |[a0,a1],_,ha=>exact end2_ev a0 a1 (ha _ (by simp)) (ha _ (by simp))
 |[a0,a1,a2],_,ha=>exact end3_ev a0 a1 a2 (ha _ (by simp)) (ha _ (by simp)) (ha _ (by simp))
 |[a0,a1,a2,a3],_,ha=>exact end4_ev a0 a1 a2 a3 (ha _ (by simp)) (ha _ (by simp)) (ha _ (by simp)) (ha _ (by simp))
 |_::_::_::_::_::_,h2,_=>simp at h2;omega
theorem GJ:bF eE eS2:=by
 unfold eS2;refine bF.cons (fun args r h=>?_) qJ;all_goals (revert h;intro h;first|unfold eEndS at h)
 all_goals (split at h;rotate_left; · cases h)
 all_goals (simp only[Option.some.injEq,Prod.mk.injEq] at h;obtain⟨hc,rfl⟩:=h)
 ·exact abT _ hc
set_option maxHeartbeats 2000000 in
theorem Xz (a0 a1 a2:List UInt8) (h0:ak (ah a0) 900=true) (h1:ak (ah a1) 900=true) (h2:ak (ah a2) 900=true):af eE 49 [.sl 9 [.str] none [.str a0,.str a1,.str a2]] (Fx [.str a0,.str a1,.str a2]):=by
 refine ai d9 qJ 9 10 ?_
 (rw[JB];(conv=>zeta))
 have g1:lC [.str a0,.str a1,.str a2]=sel (ieq (lU a0) 0) (sel (ieq (rF a1) 0) (sel (ieq (gD a2) 0) (mD []) (gD a2)) (rF a1)) (lU a0):=rfl;have gY:Fx [.str a0,.str a1,.str a2]=Yv [.str a0,.str a1,.str a2] (dK a0) (JK a1) (JL a1) (JM a1) a2 (qp []) (vV []) (vW []) (vX []) (vY []) (vZ []) (wh []) (wm []):=rfl;have z1:ieq 1 0=false:=rfl;have z0:ieq 0 0=true:=rfl;have b0:aB true=false:=rfl;have b1:aB false=true:=rfl;have gE:mD []=0:=rfl;simp only[h0,h1,h2,sW,sT];have hT:=g1;simp only[lU,yJ,gX,gE,sT,sF,z0,z1,b0,b1] at hT
 cases e0:ieq (ig a0) 0 with
 |false=>simp only[e0,sT,sF,z0,z1,b0,b1] at hT⊢;rw[aN _ hT e0]
 |true=>
 simp only[e0,sT,sF,z0,z1,b0,b1] at hT⊢
 cases e1:ak (-54000) (dK a0) with
 |false=>simp only[e1,sT,sF,z0,z1,b0,b1] at hT⊢;rw[aN _ hT rfl]
 |true=>
 simp only[e1,sT,sF,z0,z1,b0,b1] at hT⊢
 cases e2:ak (dK a0) 54000 with
 |false=>simp only[e2,sT,sF,z0,z1,b0,b1] at hT⊢;rw[aN _ hT rfl]
 |true=>
 simp only[e2,sT,sF,z0,z1,b0,b1] at hT⊢
 cases e3:seq a1 [45] with
 |true=>
  simp only[e3,sT,sF,z0,z1,b0,b1] at hT⊢
  cases ec:ieq (gD a2) 0 with
  |false=>simp only[ec,sT,sF,z0,z1,b0,b1] at hT⊢;rw[aN _ hT ec]
  |true=>
  simp only[ec,sT,sF,z0,z1,b0,b1] at hT⊢;have c0:gD a2=0:=by rw[aH] at ec;exact ec
  rw[gY,iF _ _ _ _ _ _ _ _ _ _ _ _ _ _ (by first|exact hT|(rw[hT];first|rfl|assumption))];simp only[iw,iy,iA,gX,iU,gE,e0,e1,e2,e3,ec,c0,sT,sF,z0,z1,b0,b1];rfl
 |false=>
 cases e4:NL a1 with
 |true=>
  simp only[e3,e4,sT,sF,z0,z1,b0,b1] at hT⊢
  cases e5:ieq (ig a1) 0 with
  |false=>simp only[e5,sT,sF,z0,z1,b0,b1] at hT⊢;rw[aN _ hT e5]
  |true=>
  simp only[e5,sT,sF,z0,z1,b0,b1] at hT⊢
  cases e6:ak (-10800) (dK a1) with
  |false=>simp only[e6,sT,sF,z0,z1,b0,b1] at hT⊢;rw[aN _ hT rfl]
  |true=>
  simp only[e6,sT,sF,z0,z1,b0,b1] at hT⊢
  cases e7:ak (dK a1) 10800 with
  |false=>simp only[e7,sT,sF,z0,z1,b0,b1] at hT⊢;rw[aN _ hT rfl]
  |true=>
  simp only[e7,sT,sF,z0,z1,b0,b1] at hT⊢
  cases ec:ieq (gD a2) 0 with
  |false=>simp only[ec,sT,sF,z0,z1,b0,b1] at hT⊢;rw[aN _ hT ec]
  |true=>
  simp only[ec,sT,sF,z0,z1,b0,b1] at hT⊢;have c0:gD a2=0:=by rw[aH] at ec;exact ec
  rw[gY,iF _ _ _ _ _ _ _ _ _ _ _ _ _ _ (by first|exact hT|(rw[hT];first|rfl|assumption))];simp only[iw,iy,iA,gX,iU,gE,e0,e1,e2,e3,e4,e5,e6,e7,ec,c0,sT,sF,z0,z1,b0,b1];rfl
 |false=>
 simp only[e3,e4,sU h1,sT,sF,z0,z1,b0,b1] at hT⊢
 cases e5:ieq (gW a1) 0 with
 |false=>simp only[e5,sT,sF,z0,z1,b0,b1] at hT⊢;rw[aN _ hT e5]
 |true=>
 simp only[e5,sT,sF,z0,z1,b0,b1] at hT⊢;have q0:gW a1=0:=by rw[aH] at e5;exact e5
 cases ec:ieq (gD a2) 0 with
 |false=>simp only[ec,sT,sF,z0,z1,b0,b1] at hT⊢;rw[aN _ hT ec]
 |true=>
 simp only[ec,sT,sF,z0,z1,b0,b1] at hT⊢;have c0:gD a2=0:=by rw[aH] at ec;exact ec
 rw[gY,iF _ _ _ _ _ _ _ _ _ _ _ _ _ _ (by first|exact hT|(rw[hT];first|rfl|assumption))];simp only[iw,iy,iA,gX,iU,gE,e0,e1,e2,e3,e4,e5,q0,ec,c0,sT,sF,z0,z1,b0,b1];rfl
theorem XA (a0 a1 a2:List UInt8) (h0:ak (ah a0) 900=true) (h1:ak (ah a1) 900=true) (h2:ak (ah a2) 900=true):af eE 36 [.sl 9 [.str] none [.str a0,.str a1,.str a2]] (Fx [.str a0,.str a1,.str a2]):=by
 refine ai d9 GJ 9 3 ?_
 (rw[DL];(conv=>zeta))
 have g1:lC [.str a0,.str a1,.str a2]=sel (ieq (lU a0) 0) (sel (ieq (rF a1) 0) (sel (ieq (gD a2) 0) (mD []) (gD a2)) (rF a1)) (lU a0):=rfl;have gY:Fx [.str a0,.str a1,.str a2]=Yv [.str a0,.str a1,.str a2] (dK a0) (JK a1) (JL a1) (JM a1) a2 (qp []) (vV []) (vW []) (vX []) (vY []) (vZ []) (wh []) (wm []):=rfl;have z1:ieq 1 0=false:=rfl;have z0:ieq 0 0=true:=rfl;have b0:aB true=false:=rfl;have b1:aB false=true:=rfl;have hA:dZ []=true:=by rfl
 have h4:ak 0 4=true:=rfl;simp only[h0,h1,h2,hA,h4,pV,sW,sT]
 cases e0:ieq (ig a0) 0 with
 |false=>
  simp only[e0,sT,sF,z0,z1,b0,b1];rw[aN [.str a0,.str a1,.str a2] (e:=ig a0) (by rw[g1];simp only[lU,e0,sT,sF,z0,z1,b0,b1]) e0]
 |true=>
 cases e1:ak (-54000) (dK a0) with
 |false=>
  simp only[e0,e1,sT,sF,z0,z1,b0,b1];rw[aN [.str a0,.str a1,.str a2] (e:=1) (by rw[g1];simp only[lU,e0,e1,sT,sF,z0,z1,b0,b1]) rfl]
 |true=>
 cases e2:ak (dK a0) 54000 with
 |false=>
  simp only[e0,e1,e2,sT,sF,z0,z1,b0,b1];rw[aN [.str a0,.str a1,.str a2] (e:=1) (by rw[g1];simp only[lU,e0,e1,e2,sT,sF,z0,z1,b0,b1]) rfl]
 |true=>
 cases e3:ieq (rF a1) 0 with
 |false=>
  simp only[e0,e1,e2,e3,sT,sF,z0,z1,b0,b1];rw[aN [.str a0,.str a1,.str a2] (e:=rF a1) (by rw[g1];simp only[lU,e0,e1,e2,e3,sT,sF,z0,z1,b0,b1]) e3]
 |true=>
 cases e4:ieq (gD a2) 0 with
 |false=>
  simp only[e0,e1,e2,e3,e4,sT,sF,z0,z1,b0,b1];rw[aN [.str a0,.str a1,.str a2] (e:=gD a2) (by rw[g1];simp only[lU,e0,e1,e2,e3,e4,sT,sF,z0,z1,b0,b1]) e4]
 |true=>
 have gE:mD []=0:=rfl;simp only[e0,e1,e2,e3,e4,gE,sT,sF,z0,z1,b0,b1];rw[gY,iF [.str a0,.str a1,.str a2] _ _ _ _ _ _ _ _ _ _ _ _ _ (by rw[g1];simp only[lU,e0,e1,e2,e3,e4,gE,sT,sF,z0,z1,b0,b1])]
set_option maxHeartbeats 2000000 in
theorem XB (a0 a1 a2 a3:List UInt8) (h0:ak (ah a0) 900=true) (h1:ak (ah a1) 900=true) (h2:ak (ah a2) 900=true) (h3:ak (ah a3) 900=true):af eE 49 [.sl 9 [.str] none [.str a0,.str a1,.str a2,.str a3]] (Fx [.str a0,.str a1,.str a2,.str a3]):=by
 refine ai d9 qJ 9 10 ?_
 (rw[JC];(conv=>zeta))
 have g1:lC [.str a0,.str a1,.str a2,.str a3]=sel (ieq (lU a0) 0) (sel (ieq (rF a1) 0) (sel (ieq (gD a2) 0) (mD [.str a3]) (gD a2)) (rF a1)) (lU a0):=rfl;have gY:Fx [.str a0,.str a1,.str a2,.str a3]=Yv [.str a0,.str a1,.str a2,.str a3] (dK a0) (JK a1) (JL a1) (JM a1) a2 (qp [.str a3]) (vV [.str a3]) (vW [.str a3]) (vX [.str a3]) (vY [.str a3]) (vZ [.str a3]) (wh [.str a3]) (wm [.str a3]):=rfl;have z1:ieq 1 0=false:=rfl;have z0:ieq 0 0=true:=rfl;have b0:aB true=false:=rfl;have b1:aB false=true:=rfl;have r3:rg [.str a3] 0=a3:=rfl;have hl:ax [.str a3]=1:=rfl;simp only[h0,h1,h2,h3,sW,sT];have hT:=g1;simp only[lU,yJ,gX,mD,I8,FU,FT,en0,qz,qp,r3,hl,show ieq 1 0=false from rfl,show aK 1 1=false from rfl,show aK 2 1=false from rfl,show aK 3 1=false from rfl,jE,sT,sF,z0,z1,b0,b1] at hT
 cases e0:ieq (ig a0) 0 with
 |false=>simp only[e0,sT,sF,z0,z1,b0,b1] at hT⊢;rw[aN _ hT e0]
 |true=>
 simp only[e0,sT,sF,z0,z1,b0,b1] at hT⊢
 cases e1:ak (-54000) (dK a0) with
 |false=>simp only[e1,sT,sF,z0,z1,b0,b1] at hT⊢;rw[aN _ hT rfl]
 |true=>
 simp only[e1,sT,sF,z0,z1,b0,b1] at hT⊢
 cases e2:ak (dK a0) 54000 with
 |false=>simp only[e2,sT,sF,z0,z1,b0,b1] at hT⊢;rw[aN _ hT rfl]
 |true=>
 simp only[e2,sT,sF,z0,z1,b0,b1] at hT⊢
 cases e3:seq a1 [45] with
 |true=>
  simp only[e3,sT,sF,z0,z1,b0,b1] at hT⊢
  cases ec:ieq (gD a2) 0 with
  |false=>simp only[ec,sT,sF,z0,z1,b0,b1] at hT⊢;rw[aN _ hT ec]
  |true=>
  simp only[ec,sT,sF,z0,z1,b0,b1] at hT⊢;have c0:gD a2=0:=by rw[aH] at ec;exact ec
  cases en:ieq (nrW a3) 0 with
  |false=>simp only[en,sT,sF,z0,z1,b0,b1] at hT⊢;rw[aN _ hT en]
  |true=>
  simp only[en,sT,sF,z0,z1,b0,b1] at hT⊢
  cases ey:ak (eU a3) (-32767) with
  |true=>simp only[ey,sT,sF,z0,z1,b0,b1] at hT⊢;rw[aN _ hT rfl]
  |false=>
  simp only[ey,sT,sF,z0,z1,b0,b1] at hT⊢
  cases ez:ak 32767 (eU a3) with
  |true=>simp only[ez,sT,sF,z0,z1,b0,b1] at hT⊢;rw[aN _ hT rfl]
  |false=>
  simp only[ez,sT,sF,z0,z1,b0,b1] at hT⊢;have n0:nrW a3=0:=by rw[aH] at en;exact en
  rw[gY,iF _ _ _ _ _ _ _ _ _ _ _ _ _ _ (by first|exact hT|(rw[hT];first|rfl|assumption))];simp only[iw,iy,iA,gX,iU,vV,vW,vX,vY,vZ,wh,wm,vO,uV,lg,lm,lq,mD,I8,FU,FT,en0,qz,qp,r3,hl,show ieq 1 0=false from rfl,show aK 1 1=false from rfl,show aK 2 1=false from rfl,show aK 3 1=false from rfl,jE,e0,e1,e2,e3,ec,c0,en,ey,ez,n0,sT,sF,z0,z1,b0,b1]
 |false=>
 cases e4:NL a1 with
 |true=>
  simp only[e3,e4,sT,sF,z0,z1,b0,b1] at hT⊢
  cases e5:ieq (ig a1) 0 with
  |false=>simp only[e5,sT,sF,z0,z1,b0,b1] at hT⊢;rw[aN _ hT e5]
  |true=>
  simp only[e5,sT,sF,z0,z1,b0,b1] at hT⊢
  cases e6:ak (-10800) (dK a1) with
  |false=>simp only[e6,sT,sF,z0,z1,b0,b1] at hT⊢;rw[aN _ hT rfl]
  |true=>
  simp only[e6,sT,sF,z0,z1,b0,b1] at hT⊢
  cases e7:ak (dK a1) 10800 with
  |false=>simp only[e7,sT,sF,z0,z1,b0,b1] at hT⊢;rw[aN _ hT rfl]
  |true=>
  simp only[e7,sT,sF,z0,z1,b0,b1] at hT⊢
  cases ec:ieq (gD a2) 0 with
  |false=>simp only[ec,sT,sF,z0,z1,b0,b1] at hT⊢;rw[aN _ hT ec]
  |true=>
  simp only[ec,sT,sF,z0,z1,b0,b1] at hT⊢;have c0:gD a2=0:=by rw[aH] at ec;exact ec
  cases en:ieq (nrW a3) 0 with
  |false=>simp only[en,sT,sF,z0,z1,b0,b1] at hT⊢;rw[aN _ hT en]
  |true=>
  simp only[en,sT,sF,z0,z1,b0,b1] at hT⊢
  cases ey:ak (eU a3) (-32767) with
  |true=>simp only[ey,sT,sF,z0,z1,b0,b1] at hT⊢;rw[aN _ hT rfl]
  |false=>
  simp only[ey,sT,sF,z0,z1,b0,b1] at hT⊢
  cases ez:ak 32767 (eU a3) with
  |true=>simp only[ez,sT,sF,z0,z1,b0,b1] at hT⊢;rw[aN _ hT rfl]
  |false=>
  simp only[ez,sT,sF,z0,z1,b0,b1] at hT⊢;have n0:nrW a3=0:=by rw[aH] at en;exact en
  rw[gY,iF _ _ _ _ _ _ _ _ _ _ _ _ _ _ (by first|exact hT|(rw[hT];first|rfl|assumption))];simp only[iw,iy,iA,gX,iU,vV,vW,vX,vY,vZ,wh,wm,vO,uV,lg,lm,lq,mD,I8,FU,FT,en0,qz,qp,r3,hl,show ieq 1 0=false from rfl,show aK 1 1=false from rfl,show aK 2 1=false from rfl,show aK 3 1=false from rfl,jE,e0,e1,e2,e3,e4,e5,e6,e7,ec,c0,en,ey,ez,n0,sT,sF,z0,z1,b0,b1]
 |false=>
 simp only[e3,e4,sU h1,sT,sF,z0,z1,b0,b1] at hT⊢
 cases e5:ieq (gW a1) 0 with
 |false=>simp only[e5,sT,sF,z0,z1,b0,b1] at hT⊢;rw[aN _ hT e5]
 |true=>
 simp only[e5,sT,sF,z0,z1,b0,b1] at hT⊢;have q0:gW a1=0:=by rw[aH] at e5;exact e5
 cases ec:ieq (gD a2) 0 with
 |false=>simp only[ec,sT,sF,z0,z1,b0,b1] at hT⊢;rw[aN _ hT ec]
 |true=>
 simp only[ec,sT,sF,z0,z1,b0,b1] at hT⊢;have c0:gD a2=0:=by rw[aH] at ec;exact ec
 cases en:ieq (nrW a3) 0 with
 |false=>simp only[en,sT,sF,z0,z1,b0,b1] at hT⊢;rw[aN _ hT en]
 |true=>
 simp only[en,sT,sF,z0,z1,b0,b1] at hT⊢
 cases ey:ak (eU a3) (-32767) with
 |true=>simp only[ey,sT,sF,z0,z1,b0,b1] at hT⊢;rw[aN _ hT rfl]
 |false=>
 simp only[ey,sT,sF,z0,z1,b0,b1] at hT⊢
 cases ez:ak 32767 (eU a3) with
 |true=>simp only[ez,sT,sF,z0,z1,b0,b1] at hT⊢;rw[aN _ hT rfl]
 |false=>
 simp only[ez,sT,sF,z0,z1,b0,b1] at hT⊢;have n0:nrW a3=0:=by rw[aH] at en;exact en
 rw[gY,iF _ _ _ _ _ _ _ _ _ _ _ _ _ _ (by first|exact hT|(rw[hT];first|rfl|assumption))];simp only[iw,iy,iA,gX,iU,vV,vW,vX,vY,vZ,wh,wm,vO,uV,lg,lm,lq,mD,I8,FU,FT,en0,qz,qp,r3,hl,show ieq 1 0=false from rfl,show aK 1 1=false from rfl,show aK 2 1=false from rfl,show aK 3 1=false from rfl,jE,e0,e1,e2,e3,e4,e5,q0,ec,c0,en,ey,ez,n0,sT,sF,z0,z1,b0,b1]
theorem XD (a0 a1 a2 a3:List UInt8) (h0:ak (ah a0) 900=true) (h1:ak (ah a1) 900=true) (h2:ak (ah a2) 900=true) (h3:ak (ah a3) 900=true):af eE 36 [.sl 9 [.str] none [.str a0,.str a1,.str a2,.str a3]] (Fx [.str a0,.str a1,.str a2,.str a3]):=by
 refine ai d9 GJ 9 3 ?_
 (rw[DN];(conv=>zeta))
 have g1:lC [.str a0,.str a1,.str a2,.str a3]=sel (ieq (lU a0) 0) (sel (ieq (rF a1) 0) (sel (ieq (gD a2) 0) (mD [.str a3]) (gD a2)) (rF a1)) (lU a0):=rfl;have gY:Fx [.str a0,.str a1,.str a2,.str a3]=Yv [.str a0,.str a1,.str a2,.str a3] (dK a0) (JK a1) (JL a1) (JM a1) a2 (qp [.str a3]) (vV [.str a3]) (vW [.str a3]) (vX [.str a3]) (vY [.str a3]) (vZ [.str a3]) (wh [.str a3]) (wm [.str a3]):=rfl;have z1:ieq 1 0=false:=rfl;have z0:ieq 0 0=true:=rfl;have b0:aB true=false:=rfl;have b1:aB false=true:=rfl;have hA:dZ [.str a3]=true:=by unfold dZ;simp only[List.all_cons,List.all_nil,sV,h3,Bool.and_true]
 have h4:ak 1 4=true:=rfl;simp only[h0,h1,h2,h3,hA,h4,pV,sW,sT]
 cases e0:ieq (ig a0) 0 with
 |false=>
  simp only[e0,sT,sF,z0,z1,b0,b1];rw[aN [.str a0,.str a1,.str a2,.str a3] (e:=ig a0) (by rw[g1];simp only[lU,e0,sT,sF,z0,z1,b0,b1]) e0]
 |true=>
 cases e1:ak (-54000) (dK a0) with
 |false=>
  simp only[e0,e1,sT,sF,z0,z1,b0,b1];rw[aN [.str a0,.str a1,.str a2,.str a3] (e:=1) (by rw[g1];simp only[lU,e0,e1,sT,sF,z0,z1,b0,b1]) rfl]
 |true=>
 cases e2:ak (dK a0) 54000 with
 |false=>
  simp only[e0,e1,e2,sT,sF,z0,z1,b0,b1];rw[aN [.str a0,.str a1,.str a2,.str a3] (e:=1) (by rw[g1];simp only[lU,e0,e1,e2,sT,sF,z0,z1,b0,b1]) rfl]
 |true=>
 cases e3:ieq (rF a1) 0 with
 |false=>
  simp only[e0,e1,e2,e3,sT,sF,z0,z1,b0,b1];rw[aN [.str a0,.str a1,.str a2,.str a3] (e:=rF a1) (by rw[g1];simp only[lU,e0,e1,e2,e3,sT,sF,z0,z1,b0,b1]) e3]
 |true=>
 cases e4:ieq (gD a2) 0 with
 |false=>
  simp only[e0,e1,e2,e3,e4,sT,sF,z0,z1,b0,b1];rw[aN [.str a0,.str a1,.str a2,.str a3] (e:=gD a2) (by rw[g1];simp only[lU,e0,e1,e2,e3,e4,sT,sF,z0,z1,b0,b1]) e4]
 |true=>
 cases e5:ieq (mD [.str a3]) 0 with
 |false=>
  simp only[e0,e1,e2,e3,e4,e5,sT,sF,z0,z1,b0,b1];rw[aN [.str a0,.str a1,.str a2,.str a3] (e:=mD [.str a3]) (by rw[g1];simp only[lU,e0,e1,e2,e3,e4,e5,sT,sF,z0,z1,b0,b1]) e5]
 |true=>
 have t0:mD [.str a3]=0:=by rw[aH] at e5;exact e5
 simp only[e0,e1,e2,e3,e4,e5,sT,sF,z0,z1,b0,b1];rw[gY,iF [.str a0,.str a1,.str a2,.str a3] _ _ _ _ _ _ _ _ _ _ _ _ _ (by rw[g1];simp only[lU,e0,e1,e2,e3,e4,e5,t0,sT,sF,z0,z1,b0,b1])]
set_option maxHeartbeats 2000000 in
theorem XE (a0 a1 a2 a3 a4:List UInt8) (h0:ak (ah a0) 900=true) (h1:ak (ah a1) 900=true) (h2:ak (ah a2) 900=true) (h3:ak (ah a3) 900=true) (h4:ak (ah a4) 900=true):af eE 49 [.sl 9 [.str] none [.str a0,.str a1,.str a2,.str a3,.str a4]] (Fx [.str a0,.str a1,.str a2,.str a3,.str a4]):=by
 refine ai d9 qJ 9 10 ?_
 (rw[JD];(conv=>zeta))
 have g1:lC [.str a0,.str a1,.str a2,.str a3,.str a4]=sel (ieq (lU a0) 0) (sel (ieq (rF a1) 0) (sel (ieq (gD a2) 0) (mD [.str a3,.str a4]) (gD a2)) (rF a1)) (lU a0):=rfl;have gY:Fx [.str a0,.str a1,.str a2,.str a3,.str a4]=Yv [.str a0,.str a1,.str a2,.str a3,.str a4] (dK a0) (JK a1) (JL a1) (JM a1) a2 (qp [.str a3,.str a4]) (vV [.str a3,.str a4]) (vW [.str a3,.str a4]) (vX [.str a3,.str a4]) (vY [.str a3,.str a4]) (vZ [.str a3,.str a4]) (wh [.str a3,.str a4]) (wm [.str a3,.str a4]):=rfl;have z1:ieq 1 0=false:=rfl;have z0:ieq 0 0=true:=rfl;have b0:aB true=false:=rfl;have b1:aB false=true:=rfl;have r3:rg [.str a3,.str a4] 0=a3:=rfl;have r4:rg [.str a3,.str a4] 1=a4:=rfl;have hl:ax [.str a3,.str a4]=2:=rfl;simp only[h0,h1,h2,h3,h4,sW,sT];have hT:=g1;simp only[lU,yJ,gX,mD,I8,FU,FT,en0,qz,qp,r3,r4,hl,show ieq 2 0=false from rfl,show aK 1 2=true from rfl,show aK 2 2=false from rfl,show aK 3 2=false from rfl,jE,sT,sF,z0,z1,b0,b1] at hT
 cases e0:ieq (ig a0) 0 with
 |false=>simp only[e0,sT,sF,z0,z1,b0,b1] at hT⊢;rw[aN _ hT e0]
 |true=>
 simp only[e0,sT,sF,z0,z1,b0,b1] at hT⊢
 cases e1:ak (-54000) (dK a0) with
 |false=>simp only[e1,sT,sF,z0,z1,b0,b1] at hT⊢;rw[aN _ hT rfl]
 |true=>
 simp only[e1,sT,sF,z0,z1,b0,b1] at hT⊢
 cases e2:ak (dK a0) 54000 with
 |false=>simp only[e2,sT,sF,z0,z1,b0,b1] at hT⊢;rw[aN _ hT rfl]
 |true=>
 simp only[e2,sT,sF,z0,z1,b0,b1] at hT⊢
 cases e3:seq a1 [45] with
 |true=>
  simp only[e3,sT,sF,z0,z1,b0,b1] at hT⊢
  cases ec:ieq (gD a2) 0 with
  |false=>simp only[ec,sT,sF,z0,z1,b0,b1] at hT⊢;rw[aN _ hT ec]
  |true=>
  simp only[ec,sT,sF,z0,z1,b0,b1] at hT⊢;have c0:gD a2=0:=by rw[aH] at ec;exact ec
  cases en:ieq (nrW a3) 0 with
  |false=>simp only[en,sT,sF,z0,z1,b0,b1] at hT⊢;rw[aN _ hT en]
  |true=>
  simp only[en,sT,sF,z0,z1,b0,b1] at hT⊢
  cases ey:ak (eU a3) (-32767) with
  |true=>simp only[ey,sT,sF,z0,z1,b0,b1] at hT⊢;rw[aN _ hT rfl]
  |false=>
  simp only[ey,sT,sF,z0,z1,b0,b1] at hT⊢
  cases ez:ak 32767 (eU a3) with
  |true=>simp only[ez,sT,sF,z0,z1,b0,b1] at hT⊢;rw[aN _ hT rfl]
  |false=>
  simp only[ez,sT,sF,z0,z1,b0,b1] at hT⊢
  cases em:ieq (ku a4) 0 with
  |false=>simp only[em,sT,sF,z0,z1,b0,b1] at hT⊢;rw[aN _ hT em]
  |true=>
  simp only[em,sT,sF,z0,z1,b0,b1] at hT⊢;have m0:ku a4=0:=by rw[aH] at em;exact em
  have n0:nrW a3=0:=by rw[aH] at en;exact en
  rw[gY,iF _ _ _ _ _ _ _ _ _ _ _ _ _ _ (by first|exact hT|(rw[hT];first|rfl|assumption))];simp only[iw,iy,iA,gX,iU,vV,vW,vX,vY,vZ,wh,wm,vO,uV,lg,lm,lq,mD,I8,FU,FT,en0,qz,qp,r3,r4,hl,show ieq 2 0=false from rfl,show aK 1 2=true from rfl,show aK 2 2=false from rfl,show aK 3 2=false from rfl,jE,e0,e1,e2,e3,ec,c0,en,ey,ez,em,m0,n0,sT,sF,z0,z1,b0,b1]
 |false=>
 cases e4:NL a1 with
 |true=>
  simp only[e3,e4,sT,sF,z0,z1,b0,b1] at hT⊢
  cases e5:ieq (ig a1) 0 with
  |false=>simp only[e5,sT,sF,z0,z1,b0,b1] at hT⊢;rw[aN _ hT e5]
  |true=>
  simp only[e5,sT,sF,z0,z1,b0,b1] at hT⊢
  cases e6:ak (-10800) (dK a1) with
  |false=>simp only[e6,sT,sF,z0,z1,b0,b1] at hT⊢;rw[aN _ hT rfl]
  |true=>
  simp only[e6,sT,sF,z0,z1,b0,b1] at hT⊢
  cases e7:ak (dK a1) 10800 with
  |false=>simp only[e7,sT,sF,z0,z1,b0,b1] at hT⊢;rw[aN _ hT rfl]
  |true=>
  simp only[e7,sT,sF,z0,z1,b0,b1] at hT⊢
  cases ec:ieq (gD a2) 0 with
  |false=>simp only[ec,sT,sF,z0,z1,b0,b1] at hT⊢;rw[aN _ hT ec]
  |true=>
  simp only[ec,sT,sF,z0,z1,b0,b1] at hT⊢;have c0:gD a2=0:=by rw[aH] at ec;exact ec
  cases en:ieq (nrW a3) 0 with
  |false=>simp only[en,sT,sF,z0,z1,b0,b1] at hT⊢;rw[aN _ hT en]
  |true=>
  simp only[en,sT,sF,z0,z1,b0,b1] at hT⊢
  cases ey:ak (eU a3) (-32767) with
  |true=>simp only[ey,sT,sF,z0,z1,b0,b1] at hT⊢;rw[aN _ hT rfl]
  |false=>
  simp only[ey,sT,sF,z0,z1,b0,b1] at hT⊢
  cases ez:ak 32767 (eU a3) with
  |true=>simp only[ez,sT,sF,z0,z1,b0,b1] at hT⊢;rw[aN _ hT rfl]
  |false=>
  simp only[ez,sT,sF,z0,z1,b0,b1] at hT⊢
  cases em:ieq (ku a4) 0 with
  |false=>simp only[em,sT,sF,z0,z1,b0,b1] at hT⊢;rw[aN _ hT em]
  |true=>
  simp only[em,sT,sF,z0,z1,b0,b1] at hT⊢;have m0:ku a4=0:=by rw[aH] at em;exact em
  have n0:nrW a3=0:=by rw[aH] at en;exact en
  rw[gY,iF _ _ _ _ _ _ _ _ _ _ _ _ _ _ (by first|exact hT|(rw[hT];first|rfl|assumption))];simp only[iw,iy,iA,gX,iU,vV,vW,vX,vY,vZ,wh,wm,vO,uV,lg,lm,lq,mD,I8,FU,FT,en0,qz,qp,r3,r4,hl,show ieq 2 0=false from rfl,show aK 1 2=true from rfl,show aK 2 2=false from rfl,show aK 3 2=false from rfl,jE,e0,e1,e2,e3,e4,e5,e6,e7,ec,c0,en,ey,ez,em,m0,n0,sT,sF,z0,z1,b0,b1]
 |false=>
 simp only[e3,e4,sU h1,sT,sF,z0,z1,b0,b1] at hT⊢
 cases e5:ieq (gW a1) 0 with
 |false=>simp only[e5,sT,sF,z0,z1,b0,b1] at hT⊢;rw[aN _ hT e5]
 |true=>
 simp only[e5,sT,sF,z0,z1,b0,b1] at hT⊢;have q0:gW a1=0:=by rw[aH] at e5;exact e5
 cases ec:ieq (gD a2) 0 with
 |false=>simp only[ec,sT,sF,z0,z1,b0,b1] at hT⊢;rw[aN _ hT ec]
 |true=>
 simp only[ec,sT,sF,z0,z1,b0,b1] at hT⊢;have c0:gD a2=0:=by rw[aH] at ec;exact ec
 cases en:ieq (nrW a3) 0 with
 |false=>simp only[en,sT,sF,z0,z1,b0,b1] at hT⊢;rw[aN _ hT en]
 |true=>
 simp only[en,sT,sF,z0,z1,b0,b1] at hT⊢
 cases ey:ak (eU a3) (-32767) with
 |true=>simp only[ey,sT,sF,z0,z1,b0,b1] at hT⊢;rw[aN _ hT rfl]
 |false=>
 simp only[ey,sT,sF,z0,z1,b0,b1] at hT⊢
 cases ez:ak 32767 (eU a3) with
 |true=>simp only[ez,sT,sF,z0,z1,b0,b1] at hT⊢;rw[aN _ hT rfl]
 |false=>
 simp only[ez,sT,sF,z0,z1,b0,b1] at hT⊢
 cases em:ieq (ku a4) 0 with
 |false=>simp only[em,sT,sF,z0,z1,b0,b1] at hT⊢;rw[aN _ hT em]
 |true=>
 simp only[em,sT,sF,z0,z1,b0,b1] at hT⊢;have m0:ku a4=0:=by rw[aH] at em;exact em
 have n0:nrW a3=0:=by rw[aH] at en;exact en
 rw[gY,iF _ _ _ _ _ _ _ _ _ _ _ _ _ _ (by first|exact hT|(rw[hT];first|rfl|assumption))];simp only[iw,iy,iA,gX,iU,vV,vW,vX,vY,vZ,wh,wm,vO,uV,lg,lm,lq,mD,I8,FU,FT,en0,qz,qp,r3,r4,hl,show ieq 2 0=false from rfl,show aK 1 2=true from rfl,show aK 2 2=false from rfl,show aK 3 2=false from rfl,jE,e0,e1,e2,e3,e4,e5,q0,ec,c0,en,ey,ez,em,m0,n0,sT,sF,z0,z1,b0,b1]
theorem XF (a0 a1 a2 a3 a4:List UInt8) (h0:ak (ah a0) 900=true) (h1:ak (ah a1) 900=true) (h2:ak (ah a2) 900=true) (h3:ak (ah a3) 900=true) (h4:ak (ah a4) 900=true):af eE 36 [.sl 9 [.str] none [.str a0,.str a1,.str a2,.str a3,.str a4]] (Fx [.str a0,.str a1,.str a2,.str a3,.str a4]):=by
 refine ai d9 GJ 9 3 ?_
 (rw[DR];(conv=>zeta))
 have g1:lC [.str a0,.str a1,.str a2,.str a3,.str a4]=sel (ieq (lU a0) 0) (sel (ieq (rF a1) 0) (sel (ieq (gD a2) 0) (mD [.str a3,.str a4]) (gD a2)) (rF a1)) (lU a0):=rfl;have gY:Fx [.str a0,.str a1,.str a2,.str a3,.str a4]=Yv [.str a0,.str a1,.str a2,.str a3,.str a4] (dK a0) (JK a1) (JL a1) (JM a1) a2 (qp [.str a3,.str a4]) (vV [.str a3,.str a4]) (vW [.str a3,.str a4]) (vX [.str a3,.str a4]) (vY [.str a3,.str a4]) (vZ [.str a3,.str a4]) (wh [.str a3,.str a4]) (wm [.str a3,.str a4]):=rfl;have z1:ieq 1 0=false:=rfl;have z0:ieq 0 0=true:=rfl;have b0:aB true=false:=rfl;have b1:aB false=true:=rfl;have hA:dZ [.str a3,.str a4]=true:=by unfold dZ;simp only[List.all_cons,List.all_nil,sV,h3,h4,Bool.and_true]
 have h44:ak 2 4=true:=rfl;simp only[h0,h1,h2,h3,h4,hA,h44,pV,sW,sT]
 cases e0:ieq (ig a0) 0 with
 |false=>
  simp only[e0,sT,sF,z0,z1,b0,b1];rw[aN [.str a0,.str a1,.str a2,.str a3,.str a4] (e:=ig a0) (by rw[g1];simp only[lU,e0,sT,sF,z0,z1,b0,b1]) e0]
 |true=>
 cases e1:ak (-54000) (dK a0) with
 |false=>
  simp only[e0,e1,sT,sF,z0,z1,b0,b1];rw[aN [.str a0,.str a1,.str a2,.str a3,.str a4] (e:=1) (by rw[g1];simp only[lU,e0,e1,sT,sF,z0,z1,b0,b1]) rfl]
 |true=>
 cases e2:ak (dK a0) 54000 with
 |false=>
  simp only[e0,e1,e2,sT,sF,z0,z1,b0,b1];rw[aN [.str a0,.str a1,.str a2,.str a3,.str a4] (e:=1) (by rw[g1];simp only[lU,e0,e1,e2,sT,sF,z0,z1,b0,b1]) rfl]
 |true=>
 cases e3:ieq (rF a1) 0 with
 |false=>
  simp only[e0,e1,e2,e3,sT,sF,z0,z1,b0,b1];rw[aN [.str a0,.str a1,.str a2,.str a3,.str a4] (e:=rF a1) (by rw[g1];simp only[lU,e0,e1,e2,e3,sT,sF,z0,z1,b0,b1]) e3]
 |true=>
 cases e4:ieq (gD a2) 0 with
 |false=>
  simp only[e0,e1,e2,e3,e4,sT,sF,z0,z1,b0,b1];rw[aN [.str a0,.str a1,.str a2,.str a3,.str a4] (e:=gD a2) (by rw[g1];simp only[lU,e0,e1,e2,e3,e4,sT,sF,z0,z1,b0,b1]) e4]
 |true=>
 cases e5:ieq (mD [.str a3,.str a4]) 0 with
 |false=>
  simp only[e0,e1,e2,e3,e4,e5,sT,sF,z0,z1,b0,b1];rw[aN [.str a0,.str a1,.str a2,.str a3,.str a4] (e:=mD [.str a3,.str a4]) (by rw[g1];simp only[lU,e0,e1,e2,e3,e4,e5,sT,sF,z0,z1,b0,b1]) e5]
 |true=>
 have t0:mD [.str a3,.str a4]=0:=by rw[aH] at e5;exact e5
 simp only[e0,e1,e2,e3,e4,e5,sT,sF,z0,z1,b0,b1];rw[gY,iF [.str a0,.str a1,.str a2,.str a3,.str a4] _ _ _ _ _ _ _ _ _ _ _ _ _ (by rw[g1];simp only[lU,e0,e1,e2,e3,e4,e5,t0,sT,sF,z0,z1,b0,b1])]
set_option maxHeartbeats 2000000 in
theorem XG (a0 a1 a2 a3 a4 a5:List UInt8) (h0:ak (ah a0) 900=true) (h1:ak (ah a1) 900=true) (h2:ak (ah a2) 900=true) (h3:ak (ah a3) 900=true) (h4:ak (ah a4) 900=true) (h5:ak (ah a5) 900=true):af eE 49 [.sl 9 [.str] none [.str a0,.str a1,.str a2,.str a3,.str a4,.str a5]] (Fx [.str a0,.str a1,.str a2,.str a3,.str a4,.str a5]):=by
 refine ai d9 qJ 9 10 ?_
 (rw[JE];(conv=>zeta))
 have g1:lC [.str a0,.str a1,.str a2,.str a3,.str a4,.str a5]=sel (ieq (lU a0) 0) (sel (ieq (rF a1) 0) (sel (ieq (gD a2) 0) (mD [.str a3,.str a4,.str a5]) (gD a2)) (rF a1)) (lU a0):=rfl;have gY:Fx [.str a0,.str a1,.str a2,.str a3,.str a4,.str a5]=Yv [.str a0,.str a1,.str a2,.str a3,.str a4,.str a5] (dK a0) (JK a1) (JL a1) (JM a1) a2 (qp [.str a3,.str a4,.str a5]) (vV [.str a3,.str a4,.str a5]) (vW [.str a3,.str a4,.str a5]) (vX [.str a3,.str a4,.str a5]) (vY [.str a3,.str a4,.str a5]) (vZ [.str a3,.str a4,.str a5]) (wh [.str a3,.str a4,.str a5]) (wm [.str a3,.str a4,.str a5]):=rfl;have z1:ieq 1 0=false:=rfl;have z0:ieq 0 0=true:=rfl;have b0:aB true=false:=rfl;have b1:aB false=true:=rfl;have r3:rg [.str a3,.str a4,.str a5] 0=a3:=rfl;have r4:rg [.str a3,.str a4,.str a5] 1=a4:=rfl;have r5:rg [.str a3,.str a4,.str a5] 2=a5:=rfl;have hl:ax [.str a3,.str a4,.str a5]=3:=rfl;simp only[h0,h1,h2,h3,h4,h5,sW,sT];have hT:=g1;simp only[lU,yJ,gX,mD,I8,FU,FT,en0,qz,qp,r3,r4,r5,hl,show ieq 3 0=false from rfl,show aK 1 3=true from rfl,show aK 2 3=true from rfl,show aK 3 3=false from rfl,jE,sT,sF,z0,z1,b0,b1] at hT
 cases e0:ieq (ig a0) 0 with
 |false=>simp only[e0,sT,sF,z0,z1,b0,b1] at hT⊢;rw[aN _ hT e0]
 |true=>
 simp only[e0,sT,sF,z0,z1,b0,b1] at hT⊢
 cases e1:ak (-54000) (dK a0) with
 |false=>simp only[e1,sT,sF,z0,z1,b0,b1] at hT⊢;rw[aN _ hT rfl]
 |true=>
 simp only[e1,sT,sF,z0,z1,b0,b1] at hT⊢
 cases e2:ak (dK a0) 54000 with
 |false=>simp only[e2,sT,sF,z0,z1,b0,b1] at hT⊢;rw[aN _ hT rfl]
 |true=>
 simp only[e2,sT,sF,z0,z1,b0,b1] at hT⊢
 cases e3:seq a1 [45] with
 |true=>
  simp only[e3,sT,sF,z0,z1,b0,b1] at hT⊢
  cases ec:ieq (gD a2) 0 with
  |false=>simp only[ec,sT,sF,z0,z1,b0,b1] at hT⊢;rw[aN _ hT ec]
  |true=>
  simp only[ec,sT,sF,z0,z1,b0,b1] at hT⊢;have c0:gD a2=0:=by rw[aH] at ec;exact ec
  cases en:ieq (nrW a3) 0 with
  |false=>simp only[en,sT,sF,z0,z1,b0,b1] at hT⊢;rw[aN _ hT en]
  |true=>
  simp only[en,sT,sF,z0,z1,b0,b1] at hT⊢
  cases ey:ak (eU a3) (-32767) with
  |true=>simp only[ey,sT,sF,z0,z1,b0,b1] at hT⊢;rw[aN _ hT rfl]
  |false=>
  simp only[ey,sT,sF,z0,z1,b0,b1] at hT⊢
  cases ez:ak 32767 (eU a3) with
  |true=>simp only[ez,sT,sF,z0,z1,b0,b1] at hT⊢;rw[aN _ hT rfl]
  |false=>
  simp only[ez,sT,sF,z0,z1,b0,b1] at hT⊢
  cases em:ieq (ku a4) 0 with
  |false=>simp only[em,sT,sF,z0,z1,b0,b1] at hT⊢;rw[aN _ hT em]
  |true=>
  simp only[em,sT,sF,z0,z1,b0,b1] at hT⊢
  cases ed:ieq (uQ a5) 0 with
  |false=>simp only[ed,sT,sF,z0,z1,b0,b1] at hT⊢;rw[aN _ hT ed]
  |true=>
  simp only[ed,sT,sF,z0,z1,b0,b1] at hT⊢
  cases ef:zf (tX a5) (iB a5) (tY a5) (kG a4) with
  |false=>simp only[ef,sT,sF,z0,z1,b0,b1] at hT⊢;rw[aN _ hT rfl]
  |true=>
  simp only[ef,sT,sF,z0,z1,b0,b1] at hT⊢;have m0:ku a4=0:=by rw[aH] at em;exact em
  have n0:nrW a3=0:=by rw[aH] at en;exact en
  rw[gY,iF _ _ _ _ _ _ _ _ _ _ _ _ _ _ (by first|exact hT|(rw[hT];first|rfl|assumption))];simp only[iw,iy,iA,gX,iU,vV,vW,vX,vY,vZ,wh,wm,vO,uV,lg,lm,lq,mD,I8,FU,FT,en0,qz,qp,r3,r4,r5,hl,show ieq 3 0=false from rfl,show aK 1 3=true from rfl,show aK 2 3=true from rfl,show aK 3 3=false from rfl,jE,e0,e1,e2,e3,ec,c0,en,ey,ez,em,ed,ef,m0,n0,sT,sF,z0,z1,b0,b1]
 |false=>
 cases e4:NL a1 with
 |true=>
  simp only[e3,e4,sT,sF,z0,z1,b0,b1] at hT⊢
  cases e5:ieq (ig a1) 0 with
  |false=>simp only[e5,sT,sF,z0,z1,b0,b1] at hT⊢;rw[aN _ hT e5]
  |true=>
  simp only[e5,sT,sF,z0,z1,b0,b1] at hT⊢
  cases e6:ak (-10800) (dK a1) with
  |false=>simp only[e6,sT,sF,z0,z1,b0,b1] at hT⊢;rw[aN _ hT rfl]
  |true=>
  simp only[e6,sT,sF,z0,z1,b0,b1] at hT⊢
  cases e7:ak (dK a1) 10800 with
  |false=>simp only[e7,sT,sF,z0,z1,b0,b1] at hT⊢;rw[aN _ hT rfl]
  |true=>
  simp only[e7,sT,sF,z0,z1,b0,b1] at hT⊢
  cases ec:ieq (gD a2) 0 with
  |false=>simp only[ec,sT,sF,z0,z1,b0,b1] at hT⊢;rw[aN _ hT ec]
  |true=>
  simp only[ec,sT,sF,z0,z1,b0,b1] at hT⊢;have c0:gD a2=0:=by rw[aH] at ec;exact ec
  cases en:ieq (nrW a3) 0 with
  |false=>simp only[en,sT,sF,z0,z1,b0,b1] at hT⊢;rw[aN _ hT en]
  |true=>
  simp only[en,sT,sF,z0,z1,b0,b1] at hT⊢
  cases ey:ak (eU a3) (-32767) with
  |true=>simp only[ey,sT,sF,z0,z1,b0,b1] at hT⊢;rw[aN _ hT rfl]
  |false=>
  simp only[ey,sT,sF,z0,z1,b0,b1] at hT⊢
  cases ez:ak 32767 (eU a3) with
  |true=>simp only[ez,sT,sF,z0,z1,b0,b1] at hT⊢;rw[aN _ hT rfl]
  |false=>
  simp only[ez,sT,sF,z0,z1,b0,b1] at hT⊢
  cases em:ieq (ku a4) 0 with
  |false=>simp only[em,sT,sF,z0,z1,b0,b1] at hT⊢;rw[aN _ hT em]
  |true=>
  simp only[em,sT,sF,z0,z1,b0,b1] at hT⊢
  cases ed:ieq (uQ a5) 0 with
  |false=>simp only[ed,sT,sF,z0,z1,b0,b1] at hT⊢;rw[aN _ hT ed]
  |true=>
  simp only[ed,sT,sF,z0,z1,b0,b1] at hT⊢
  cases ef:zf (tX a5) (iB a5) (tY a5) (kG a4) with
  |false=>simp only[ef,sT,sF,z0,z1,b0,b1] at hT⊢;rw[aN _ hT rfl]
  |true=>
  simp only[ef,sT,sF,z0,z1,b0,b1] at hT⊢;have m0:ku a4=0:=by rw[aH] at em;exact em
  have n0:nrW a3=0:=by rw[aH] at en;exact en
  rw[gY,iF _ _ _ _ _ _ _ _ _ _ _ _ _ _ (by first|exact hT|(rw[hT];first|rfl|assumption))];simp only[iw,iy,iA,gX,iU,vV,vW,vX,vY,vZ,wh,wm,vO,uV,lg,lm,lq,mD,I8,FU,FT,en0,qz,qp,r3,r4,r5,hl,show ieq 3 0=false from rfl,show aK 1 3=true from rfl,show aK 2 3=true from rfl,show aK 3 3=false from rfl,jE,e0,e1,e2,e3,e4,e5,e6,e7,ec,c0,en,ey,ez,em,ed,ef,m0,n0,sT,sF,z0,z1,b0,b1]
 |false=>
 simp only[e3,e4,sU h1,sT,sF,z0,z1,b0,b1] at hT⊢
 cases e5:ieq (gW a1) 0 with
 |false=>simp only[e5,sT,sF,z0,z1,b0,b1] at hT⊢;rw[aN _ hT e5]
 |true=>
 simp only[e5,sT,sF,z0,z1,b0,b1] at hT⊢;have q0:gW a1=0:=by rw[aH] at e5;exact e5
 cases ec:ieq (gD a2) 0 with
 |false=>simp only[ec,sT,sF,z0,z1,b0,b1] at hT⊢;rw[aN _ hT ec]
 |true=>
 simp only[ec,sT,sF,z0,z1,b0,b1] at hT⊢;have c0:gD a2=0:=by rw[aH] at ec;exact ec
 cases en:ieq (nrW a3) 0 with
 |false=>simp only[en,sT,sF,z0,z1,b0,b1] at hT⊢;rw[aN _ hT en]
 |true=>
 simp only[en,sT,sF,z0,z1,b0,b1] at hT⊢
 cases ey:ak (eU a3) (-32767) with
 |true=>simp only[ey,sT,sF,z0,z1,b0,b1] at hT⊢;rw[aN _ hT rfl]
 |false=>
 simp only[ey,sT,sF,z0,z1,b0,b1] at hT⊢
 cases ez:ak 32767 (eU a3) with
 |true=>simp only[ez,sT,sF,z0,z1,b0,b1] at hT⊢;rw[aN _ hT rfl]
 |false=>
 simp only[ez,sT,sF,z0,z1,b0,b1] at hT⊢
 cases em:ieq (ku a4) 0 with
 |false=>simp only[em,sT,sF,z0,z1,b0,b1] at hT⊢;rw[aN _ hT em]
 |true=>
 simp only[em,sT,sF,z0,z1,b0,b1] at hT⊢
 cases ed:ieq (uQ a5) 0 with
 |false=>simp only[ed,sT,sF,z0,z1,b0,b1] at hT⊢;rw[aN _ hT ed]
 |true=>
 simp only[ed,sT,sF,z0,z1,b0,b1] at hT⊢
 cases ef:zf (tX a5) (iB a5) (tY a5) (kG a4) with
 |false=>simp only[ef,sT,sF,z0,z1,b0,b1] at hT⊢;rw[aN _ hT rfl]
 |true=>
 simp only[ef,sT,sF,z0,z1,b0,b1] at hT⊢;have m0:ku a4=0:=by rw[aH] at em;exact em
 have n0:nrW a3=0:=by rw[aH] at en;exact en
 rw[gY,iF _ _ _ _ _ _ _ _ _ _ _ _ _ _ (by first|exact hT|(rw[hT];first|rfl|assumption))];simp only[iw,iy,iA,gX,iU,vV,vW,vX,vY,vZ,wh,wm,vO,uV,lg,lm,lq,mD,I8,FU,FT,en0,qz,qp,r3,r4,r5,hl,show ieq 3 0=false from rfl,show aK 1 3=true from rfl,show aK 2 3=true from rfl,show aK 3 3=false from rfl,jE,e0,e1,e2,e3,e4,e5,q0,ec,c0,en,ey,ez,em,ed,ef,m0,n0,sT,sF,z0,z1,b0,b1]
theorem XH (a0 a1 a2 a3 a4 a5:List UInt8) (h0:ak (ah a0) 900=true) (h1:ak (ah a1) 900=true) (h2:ak (ah a2) 900=true) (h3:ak (ah a3) 900=true) (h4:ak (ah a4) 900=true) (h5:ak (ah a5) 900=true):af eE 36 [.sl 9 [.str] none [.str a0,.str a1,.str a2,.str a3,.str a4,.str a5]] (Fx [.str a0,.str a1,.str a2,.str a3,.str a4,.str a5]):=by
 refine ai d9 GJ 9 3 ?_
 (rw[DT];(conv=>zeta))
 have g1:lC [.str a0,.str a1,.str a2,.str a3,.str a4,.str a5]=sel (ieq (lU a0) 0) (sel (ieq (rF a1) 0) (sel (ieq (gD a2) 0) (mD [.str a3,.str a4,.str a5]) (gD a2)) (rF a1)) (lU a0):=rfl;have gY:Fx [.str a0,.str a1,.str a2,.str a3,.str a4,.str a5]=Yv [.str a0,.str a1,.str a2,.str a3,.str a4,.str a5] (dK a0) (JK a1) (JL a1) (JM a1) a2 (qp [.str a3,.str a4,.str a5]) (vV [.str a3,.str a4,.str a5]) (vW [.str a3,.str a4,.str a5]) (vX [.str a3,.str a4,.str a5]) (vY [.str a3,.str a4,.str a5]) (vZ [.str a3,.str a4,.str a5]) (wh [.str a3,.str a4,.str a5]) (wm [.str a3,.str a4,.str a5]):=rfl;have z1:ieq 1 0=false:=rfl;have z0:ieq 0 0=true:=rfl;have b0:aB true=false:=rfl;have b1:aB false=true:=rfl;have hA:dZ [.str a3,.str a4,.str a5]=true:=by unfold dZ;simp only[List.all_cons,List.all_nil,sV,h3,h4,h5,Bool.and_true]
 have h44:ak 3 4=true:=rfl;simp only[h0,h1,h2,h3,h4,h5,hA,h44,pV,sW,sT]
 cases e0:ieq (ig a0) 0 with
 |false=>
  simp only[e0,sT,sF,z0,z1,b0,b1];rw[aN [.str a0,.str a1,.str a2,.str a3,.str a4,.str a5] (e:=ig a0) (by rw[g1];simp only[lU,e0,sT,sF,z0,z1,b0,b1]) e0]
 |true=>
 cases e1:ak (-54000) (dK a0) with
 |false=>
  simp only[e0,e1,sT,sF,z0,z1,b0,b1];rw[aN [.str a0,.str a1,.str a2,.str a3,.str a4,.str a5] (e:=1) (by rw[g1];simp only[lU,e0,e1,sT,sF,z0,z1,b0,b1]) rfl]
 |true=>
 cases e2:ak (dK a0) 54000 with
 |false=>
  simp only[e0,e1,e2,sT,sF,z0,z1,b0,b1];rw[aN [.str a0,.str a1,.str a2,.str a3,.str a4,.str a5] (e:=1) (by rw[g1];simp only[lU,e0,e1,e2,sT,sF,z0,z1,b0,b1]) rfl]
 |true=>
 cases e3:ieq (rF a1) 0 with
 |false=>
  simp only[e0,e1,e2,e3,sT,sF,z0,z1,b0,b1];rw[aN [.str a0,.str a1,.str a2,.str a3,.str a4,.str a5] (e:=rF a1) (by rw[g1];simp only[lU,e0,e1,e2,e3,sT,sF,z0,z1,b0,b1]) e3]
 |true=>
 cases e4:ieq (gD a2) 0 with
 |false=>
  simp only[e0,e1,e2,e3,e4,sT,sF,z0,z1,b0,b1];rw[aN [.str a0,.str a1,.str a2,.str a3,.str a4,.str a5] (e:=gD a2) (by rw[g1];simp only[lU,e0,e1,e2,e3,e4,sT,sF,z0,z1,b0,b1]) e4]
 |true=>
 cases e5:ieq (mD [.str a3,.str a4,.str a5]) 0 with
 |false=>
  simp only[e0,e1,e2,e3,e4,e5,sT,sF,z0,z1,b0,b1];rw[aN [.str a0,.str a1,.str a2,.str a3,.str a4,.str a5] (e:=mD [.str a3,.str a4,.str a5]) (by rw[g1];simp only[lU,e0,e1,e2,e3,e4,e5,sT,sF,z0,z1,b0,b1]) e5]
 |true=>
 have t0:mD [.str a3,.str a4,.str a5]=0:=by rw[aH] at e5;exact e5
 simp only[e0,e1,e2,e3,e4,e5,sT,sF,z0,z1,b0,b1];rw[gY,iF [.str a0,.str a1,.str a2,.str a3,.str a4,.str a5] _ _ _ _ _ _ _ _ _ _ _ _ _ (by rw[g1];simp only[lU,e0,e1,e2,e3,e4,e5,t0,sT,sF,z0,z1,b0,b1])]
set_option maxHeartbeats 2000000 in
theorem XI (a0 a1 a2 a3 a4 a5 a6:List UInt8) (h0:ak (ah a0) 900=true) (h1:ak (ah a1) 900=true) (h2:ak (ah a2) 900=true) (h3:ak (ah a3) 900=true) (h4:ak (ah a4) 900=true) (h5:ak (ah a5) 900=true) (h6:ak (ah a6) 900=true):af eE 49 [.sl 9 [.str] none [.str a0,.str a1,.str a2,.str a3,.str a4,.str a5,.str a6]] (Fx [.str a0,.str a1,.str a2,.str a3,.str a4,.str a5,.str a6]):=by
 refine ai d9 qJ 9 10 ?_
 (rw[JF];(conv=>zeta))
 have g1:lC [.str a0,.str a1,.str a2,.str a3,.str a4,.str a5,.str a6]=sel (ieq (lU a0) 0) (sel (ieq (rF a1) 0) (sel (ieq (gD a2) 0) (mD [.str a3,.str a4,.str a5,.str a6]) (gD a2)) (rF a1)) (lU a0):=rfl;have gY:Fx [.str a0,.str a1,.str a2,.str a3,.str a4,.str a5,.str a6]=Yv [.str a0,.str a1,.str a2,.str a3,.str a4,.str a5,.str a6] (dK a0) (JK a1) (JL a1) (JM a1) a2 (qp [.str a3,.str a4,.str a5,.str a6]) (vV [.str a3,.str a4,.str a5,.str a6]) (vW [.str a3,.str a4,.str a5,.str a6]) (vX [.str a3,.str a4,.str a5,.str a6]) (vY [.str a3,.str a4,.str a5,.str a6]) (vZ [.str a3,.str a4,.str a5,.str a6]) (wh [.str a3,.str a4,.str a5,.str a6]) (wm [.str a3,.str a4,.str a5,.str a6]):=rfl;have z1:ieq 1 0=false:=rfl;have z0:ieq 0 0=true:=rfl;have b0:aB true=false:=rfl;have b1:aB false=true:=rfl;have r3:rg [.str a3,.str a4,.str a5,.str a6] 0=a3:=rfl;have r4:rg [.str a3,.str a4,.str a5,.str a6] 1=a4:=rfl;have r5:rg [.str a3,.str a4,.str a5,.str a6] 2=a5:=rfl;have r6:rg [.str a3,.str a4,.str a5,.str a6] 3=a6:=rfl;have hl:ax [.str a3,.str a4,.str a5,.str a6]=4:=rfl;simp only[h0,h1,h2,h3,h4,h5,h6,sW,sT];have hT:=g1;simp only[lU,yJ,gX,mD,I8,FU,FT,en0,qz,qp,r3,r4,r5,r6,hl,show ieq 4 0=false from rfl,show aK 1 4=true from rfl,show aK 2 4=true from rfl,show aK 3 4=true from rfl,jE,sT,sF,z0,z1,b0,b1] at hT
 cases e0:ieq (ig a0) 0 with
 |false=>simp only[e0,sT,sF,z0,z1,b0,b1] at hT⊢;rw[aN _ hT e0]
 |true=>
 simp only[e0,sT,sF,z0,z1,b0,b1] at hT⊢
 cases e1:ak (-54000) (dK a0) with
 |false=>simp only[e1,sT,sF,z0,z1,b0,b1] at hT⊢;rw[aN _ hT rfl]
 |true=>
 simp only[e1,sT,sF,z0,z1,b0,b1] at hT⊢
 cases e2:ak (dK a0) 54000 with
 |false=>simp only[e2,sT,sF,z0,z1,b0,b1] at hT⊢;rw[aN _ hT rfl]
 |true=>
 simp only[e2,sT,sF,z0,z1,b0,b1] at hT⊢
 cases e3:seq a1 [45] with
 |true=>
  simp only[e3,sT,sF,z0,z1,b0,b1] at hT⊢
  cases ec:ieq (gD a2) 0 with
  |false=>simp only[ec,sT,sF,z0,z1,b0,b1] at hT⊢;rw[aN _ hT ec]
  |true=>
  simp only[ec,sT,sF,z0,z1,b0,b1] at hT⊢;have c0:gD a2=0:=by rw[aH] at ec;exact ec
  cases en:ieq (nrW a3) 0 with
  |false=>simp only[en,sT,sF,z0,z1,b0,b1] at hT⊢;rw[aN _ hT en]
  |true=>
  simp only[en,sT,sF,z0,z1,b0,b1] at hT⊢
  cases ey:ak (eU a3) (-32767) with
  |true=>simp only[ey,sT,sF,z0,z1,b0,b1] at hT⊢;rw[aN _ hT rfl]
  |false=>
  simp only[ey,sT,sF,z0,z1,b0,b1] at hT⊢
  cases ez:ak 32767 (eU a3) with
  |true=>simp only[ez,sT,sF,z0,z1,b0,b1] at hT⊢;rw[aN _ hT rfl]
  |false=>
  simp only[ez,sT,sF,z0,z1,b0,b1] at hT⊢
  cases em:ieq (ku a4) 0 with
  |false=>simp only[em,sT,sF,z0,z1,b0,b1] at hT⊢;rw[aN _ hT em]
  |true=>
  simp only[em,sT,sF,z0,z1,b0,b1] at hT⊢
  cases ed:ieq (uQ a5) 0 with
  |false=>simp only[ed,sT,sF,z0,z1,b0,b1] at hT⊢;rw[aN _ hT ed]
  |true=>
  simp only[ed,sT,sF,z0,z1,b0,b1] at hT⊢
  cases ef:zf (tX a5) (iB a5) (tY a5) (kG a4) with
  |false=>simp only[ef,sT,sF,z0,z1,b0,b1] at hT⊢;rw[aN _ hT rfl]
  |true=>
  simp only[ef,sT,sF,z0,z1,b0,b1] at hT⊢
  cases ek:ieq (xZ a6) 0 with
  |false=>simp only[ek,sT,sF,z0,z1,b0,b1] at hT⊢;rw[aN _ hT ek]
  |true=>
  simp only[ek,sT,sF,z0,z1,b0,b1] at hT⊢;have k0:xZ a6=0:=by rw[aH] at ek;exact ek
  have m0:ku a4=0:=by rw[aH] at em;exact em
  have n0:nrW a3=0:=by rw[aH] at en;exact en
  rw[gY,iF _ _ _ _ _ _ _ _ _ _ _ _ _ _ (by first|exact hT|(rw[hT];first|rfl|assumption))];simp only[iw,iy,iA,gX,iU,vV,vW,vX,vY,vZ,wh,wm,vO,uV,lg,lm,lq,mD,I8,FU,FT,en0,qz,qp,r3,r4,r5,r6,hl,show ieq 4 0=false from rfl,show aK 1 4=true from rfl,show aK 2 4=true from rfl,show aK 3 4=true from rfl,jE,e0,e1,e2,e3,ec,c0,en,ey,ez,em,ed,ef,ek,k0,m0,n0,sT,sF,z0,z1,b0,b1]
 |false=>
 cases e4:NL a1 with
 |true=>
  simp only[e3,e4,sT,sF,z0,z1,b0,b1] at hT⊢
  cases e5:ieq (ig a1) 0 with
  |false=>simp only[e5,sT,sF,z0,z1,b0,b1] at hT⊢;rw[aN _ hT e5]
  |true=>
  simp only[e5,sT,sF,z0,z1,b0,b1] at hT⊢
  cases e6:ak (-10800) (dK a1) with
  |false=>simp only[e6,sT,sF,z0,z1,b0,b1] at hT⊢;rw[aN _ hT rfl]
  |true=>
  simp only[e6,sT,sF,z0,z1,b0,b1] at hT⊢
  cases e7:ak (dK a1) 10800 with
  |false=>simp only[e7,sT,sF,z0,z1,b0,b1] at hT⊢;rw[aN _ hT rfl]
  |true=>
  simp only[e7,sT,sF,z0,z1,b0,b1] at hT⊢
  cases ec:ieq (gD a2) 0 with
  |false=>simp only[ec,sT,sF,z0,z1,b0,b1] at hT⊢;rw[aN _ hT ec]
  |true=>
  simp only[ec,sT,sF,z0,z1,b0,b1] at hT⊢;have c0:gD a2=0:=by rw[aH] at ec;exact ec
  cases en:ieq (nrW a3) 0 with
  |false=>simp only[en,sT,sF,z0,z1,b0,b1] at hT⊢;rw[aN _ hT en]
  |true=>
  simp only[en,sT,sF,z0,z1,b0,b1] at hT⊢
  cases ey:ak (eU a3) (-32767) with
  |true=>simp only[ey,sT,sF,z0,z1,b0,b1] at hT⊢;rw[aN _ hT rfl]
  |false=>
  simp only[ey,sT,sF,z0,z1,b0,b1] at hT⊢
  cases ez:ak 32767 (eU a3) with
  |true=>simp only[ez,sT,sF,z0,z1,b0,b1] at hT⊢;rw[aN _ hT rfl]
  |false=>
  simp only[ez,sT,sF,z0,z1,b0,b1] at hT⊢
  cases em:ieq (ku a4) 0 with
  |false=>simp only[em,sT,sF,z0,z1,b0,b1] at hT⊢;rw[aN _ hT em]
  |true=>
  simp only[em,sT,sF,z0,z1,b0,b1] at hT⊢
  cases ed:ieq (uQ a5) 0 with
  |false=>simp only[ed,sT,sF,z0,z1,b0,b1] at hT⊢;rw[aN _ hT ed]
  |true=>
  simp only[ed,sT,sF,z0,z1,b0,b1] at hT⊢
  cases ef:zf (tX a5) (iB a5) (tY a5) (kG a4) with
  |false=>simp only[ef,sT,sF,z0,z1,b0,b1] at hT⊢;rw[aN _ hT rfl]
  |true=>
  simp only[ef,sT,sF,z0,z1,b0,b1] at hT⊢
  cases ek:ieq (xZ a6) 0 with
  |false=>simp only[ek,sT,sF,z0,z1,b0,b1] at hT⊢;rw[aN _ hT ek]
  |true=>
  simp only[ek,sT,sF,z0,z1,b0,b1] at hT⊢;have k0:xZ a6=0:=by rw[aH] at ek;exact ek
  have m0:ku a4=0:=by rw[aH] at em;exact em
  have n0:nrW a3=0:=by rw[aH] at en;exact en
  rw[gY,iF _ _ _ _ _ _ _ _ _ _ _ _ _ _ (by first|exact hT|(rw[hT];first|rfl|assumption))];simp only[iw,iy,iA,gX,iU,vV,vW,vX,vY,vZ,wh,wm,vO,uV,lg,lm,lq,mD,I8,FU,FT,en0,qz,qp,r3,r4,r5,r6,hl,show ieq 4 0=false from rfl,show aK 1 4=true from rfl,show aK 2 4=true from rfl,show aK 3 4=true from rfl,jE,e0,e1,e2,e3,e4,e5,e6,e7,ec,c0,en,ey,ez,em,ed,ef,ek,k0,m0,n0,sT,sF,z0,z1,b0,b1]
 |false=>
 simp only[e3,e4,sU h1,sT,sF,z0,z1,b0,b1] at hT⊢
 cases e5:ieq (gW a1) 0 with
 |false=>simp only[e5,sT,sF,z0,z1,b0,b1] at hT⊢;rw[aN _ hT e5]
 |true=>
 simp only[e5,sT,sF,z0,z1,b0,b1] at hT⊢;have q0:gW a1=0:=by rw[aH] at e5;exact e5
 cases ec:ieq (gD a2) 0 with
 |false=>simp only[ec,sT,sF,z0,z1,b0,b1] at hT⊢;rw[aN _ hT ec]
 |true=>
 simp only[ec,sT,sF,z0,z1,b0,b1] at hT⊢;have c0:gD a2=0:=by rw[aH] at ec;exact ec
 cases en:ieq (nrW a3) 0 with
 |false=>simp only[en,sT,sF,z0,z1,b0,b1] at hT⊢;rw[aN _ hT en]
 |true=>
 simp only[en,sT,sF,z0,z1,b0,b1] at hT⊢
 cases ey:ak (eU a3) (-32767) with
 |true=>simp only[ey,sT,sF,z0,z1,b0,b1] at hT⊢;rw[aN _ hT rfl]
 |false=>
 simp only[ey,sT,sF,z0,z1,b0,b1] at hT⊢
 cases ez:ak 32767 (eU a3) with
 |true=>simp only[ez,sT,sF,z0,z1,b0,b1] at hT⊢;rw[aN _ hT rfl]
 |false=>
 simp only[ez,sT,sF,z0,z1,b0,b1] at hT⊢
 cases em:ieq (ku a4) 0 with
 |false=>simp only[em,sT,sF,z0,z1,b0,b1] at hT⊢;rw[aN _ hT em]
 |true=>
 simp only[em,sT,sF,z0,z1,b0,b1] at hT⊢
 cases ed:ieq (uQ a5) 0 with
 |false=>simp only[ed,sT,sF,z0,z1,b0,b1] at hT⊢;rw[aN _ hT ed]
 |true=>
 simp only[ed,sT,sF,z0,z1,b0,b1] at hT⊢
 cases ef:zf (tX a5) (iB a5) (tY a5) (kG a4) with
 |false=>simp only[ef,sT,sF,z0,z1,b0,b1] at hT⊢;rw[aN _ hT rfl]
 |true=>
 simp only[ef,sT,sF,z0,z1,b0,b1] at hT⊢
 cases ek:ieq (xZ a6) 0 with
 |false=>simp only[ek,sT,sF,z0,z1,b0,b1] at hT⊢;rw[aN _ hT ek]
 |true=>
 simp only[ek,sT,sF,z0,z1,b0,b1] at hT⊢;have k0:xZ a6=0:=by rw[aH] at ek;exact ek
 have m0:ku a4=0:=by rw[aH] at em;exact em
 have n0:nrW a3=0:=by rw[aH] at en;exact en
 rw[gY,iF _ _ _ _ _ _ _ _ _ _ _ _ _ _ (by first|exact hT|(rw[hT];first|rfl|assumption))];simp only[iw,iy,iA,gX,iU,vV,vW,vX,vY,vZ,wh,wm,vO,uV,lg,lm,lq,mD,I8,FU,FT,en0,qz,qp,r3,r4,r5,r6,hl,show ieq 4 0=false from rfl,show aK 1 4=true from rfl,show aK 2 4=true from rfl,show aK 3 4=true from rfl,jE,e0,e1,e2,e3,e4,e5,q0,ec,c0,en,ey,ez,em,ed,ef,ek,k0,m0,n0,sT,sF,z0,z1,b0,b1]
theorem XJ (a0 a1 a2 a3 a4 a5 a6:List UInt8) (h0:ak (ah a0) 900=true) (h1:ak (ah a1) 900=true) (h2:ak (ah a2) 900=true) (h3:ak (ah a3) 900=true) (h4:ak (ah a4) 900=true) (h5:ak (ah a5) 900=true) (h6:ak (ah a6) 900=true):af eE 36 [.sl 9 [.str] none [.str a0,.str a1,.str a2,.str a3,.str a4,.str a5,.str a6]] (Fx [.str a0,.str a1,.str a2,.str a3,.str a4,.str a5,.str a6]):=by
 refine ai d9 GJ 9 3 ?_
 (rw[DV];(conv=>zeta))
 have g1:lC [.str a0,.str a1,.str a2,.str a3,.str a4,.str a5,.str a6]=sel (ieq (lU a0) 0) (sel (ieq (rF a1) 0) (sel (ieq (gD a2) 0) (mD [.str a3,.str a4,.str a5,.str a6]) (gD a2)) (rF a1)) (lU a0):=rfl;have gY:Fx [.str a0,.str a1,.str a2,.str a3,.str a4,.str a5,.str a6]=Yv [.str a0,.str a1,.str a2,.str a3,.str a4,.str a5,.str a6] (dK a0) (JK a1) (JL a1) (JM a1) a2 (qp [.str a3,.str a4,.str a5,.str a6]) (vV [.str a3,.str a4,.str a5,.str a6]) (vW [.str a3,.str a4,.str a5,.str a6]) (vX [.str a3,.str a4,.str a5,.str a6]) (vY [.str a3,.str a4,.str a5,.str a6]) (vZ [.str a3,.str a4,.str a5,.str a6]) (wh [.str a3,.str a4,.str a5,.str a6]) (wm [.str a3,.str a4,.str a5,.str a6]):=rfl;have z1:ieq 1 0=false:=rfl;have z0:ieq 0 0=true:=rfl;have b0:aB true=false:=rfl;have b1:aB false=true:=rfl;have hA:dZ [.str a3,.str a4,.str a5,.str a6]=true:=by unfold dZ;simp only[List.all_cons,List.all_nil,sV,h3,h4,h5,h6,Bool.and_true]
 have h44:ak 4 4=true:=rfl;simp only[h0,h1,h2,h3,h4,h5,h6,hA,h44,pV,sW,sT]
 cases e0:ieq (ig a0) 0 with
 |false=>
  simp only[e0,sT,sF,z0,z1,b0,b1];rw[aN [.str a0,.str a1,.str a2,.str a3,.str a4,.str a5,.str a6] (e:=ig a0) (by rw[g1];simp only[lU,e0,sT,sF,z0,z1,b0,b1]) e0]
 |true=>
 cases e1:ak (-54000) (dK a0) with
 |false=>
  simp only[e0,e1,sT,sF,z0,z1,b0,b1];rw[aN [.str a0,.str a1,.str a2,.str a3,.str a4,.str a5,.str a6] (e:=1) (by rw[g1];simp only[lU,e0,e1,sT,sF,z0,z1,b0,b1]) rfl]
 |true=>
 cases e2:ak (dK a0) 54000 with
 |false=>
  simp only[e0,e1,e2,sT,sF,z0,z1,b0,b1];rw[aN [.str a0,.str a1,.str a2,.str a3,.str a4,.str a5,.str a6] (e:=1) (by rw[g1];simp only[lU,e0,e1,e2,sT,sF,z0,z1,b0,b1]) rfl]
 |true=>
 cases e3:ieq (rF a1) 0 with
 |false=>
  simp only[e0,e1,e2,e3,sT,sF,z0,z1,b0,b1];rw[aN [.str a0,.str a1,.str a2,.str a3,.str a4,.str a5,.str a6] (e:=rF a1) (by rw[g1];simp only[lU,e0,e1,e2,e3,sT,sF,z0,z1,b0,b1]) e3]
 |true=>
 cases e4:ieq (gD a2) 0 with
 |false=>
  simp only[e0,e1,e2,e3,e4,sT,sF,z0,z1,b0,b1];rw[aN [.str a0,.str a1,.str a2,.str a3,.str a4,.str a5,.str a6] (e:=gD a2) (by rw[g1];simp only[lU,e0,e1,e2,e3,e4,sT,sF,z0,z1,b0,b1]) e4]
 |true=>
 cases e5:ieq (mD [.str a3,.str a4,.str a5,.str a6]) 0 with
 |false=>
  simp only[e0,e1,e2,e3,e4,e5,sT,sF,z0,z1,b0,b1];rw[aN [.str a0,.str a1,.str a2,.str a3,.str a4,.str a5,.str a6] (e:=mD [.str a3,.str a4,.str a5,.str a6]) (by rw[g1];simp only[lU,e0,e1,e2,e3,e4,e5,sT,sF,z0,z1,b0,b1]) e5]
 |true=>
 have t0:mD [.str a3,.str a4,.str a5,.str a6]=0:=by rw[aH] at e5;exact e5
 simp only[e0,e1,e2,e3,e4,e5,sT,sF,z0,z1,b0,b1];rw[gY,iF [.str a0,.str a1,.str a2,.str a3,.str a4,.str a5,.str a6] _ _ _ _ _ _ _ _ _ _ _ _ _ (by rw[g1];simp only[lU,e0,e1,e2,e3,e4,e5,t0,sT,sF,z0,z1,b0,b1])]
theorem TK (xs:List V) (h:dZ xs=true):af eE 49 [.sl 9 [.str] none xs] (Fx xs):=by
 by_cases h1:ax xs<3
 ·refine ai d9 Mg 5 10 ?_
  rw[Lb,aj (by first|exact bq h1|(rw[bE,aA];omega)),aN xs (e:=5) (by unfold lC;rw[bq h1];rfl) rfl]
 by_cases h2:7<ax xs
 ·refine ai d9 Mg 5 10 ?_
  rw[Lb,aG (by first|exact bu (by omega)|(rw[bA (show 3≤ax xs by omega)];rfl)),aj (by first|exact bq h2|(rw[bE,aA];omega)),aN xs (e:=6) (by unfold lC;rw[bu (by omega),bq h2];rfl) rfl]
 obtain⟨l,rfl,ha⟩:=uL xs h;rw[aI,List.length_map] at h1 h2;match l,h1,h2,ha with
 |[],h1,_,_=>exact absurd h1 (by simp)
 |[_],h1,_,_=>exact absurd h1 (by simp)
 |[_,_],h1,_,_=>exact absurd h1 (by simp)
 |[a0,a1,a2],_,_,ha=>exact Xz a0 a1 a2 (ha _ (by simp)) (ha _ (by simp)) (ha _ (by simp))
 |[a0,a1,a2,a3],_,_,ha=>exact XB a0 a1 a2 a3 (ha _ (by simp)) (ha _ (by simp)) (ha _ (by simp)) (ha _ (by simp))
 |[a0,a1,a2,a3,a4],_,_,ha=>exact XE a0 a1 a2 a3 a4 (ha _ (by simp)) (ha _ (by simp)) (ha _ (by simp)) (ha _ (by simp)) (ha _ (by simp))
 |[a0,a1,a2,a3,a4,a5],_,_,ha=>exact XG a0 a1 a2 a3 a4 a5 (ha _ (by simp)) (ha _ (by simp)) (ha _ (by simp)) (ha _ (by simp)) (ha _ (by simp)) (ha _ (by simp))
 |[a0,a1,a2,a3,a4,a5,a6],_,_,ha=>exact XI a0 a1 a2 a3 a4 a5 a6 (ha _ (by simp)) (ha _ (by simp)) (ha _ (by simp)) (ha _ (by simp)) (ha _ (by simp)) (ha _ (by simp)) (ha _ (by simp))
 |_::_::_::_::_::_::_::_::_,_,h2,_=>exact absurd h2 (by simp;omega)
theorem TL (xs:List V) (h:dZ xs=true):af eE 36 [.sl 9 [.str] none xs] (Fx xs):=by
 by_cases h1:ax xs<3
 ·refine ai d9 Mg 5 3 ?_
  rw[EJ,aj (by first|exact bq h1|(rw[bE,aA];omega)),aN xs (e:=5) (by unfold lC;rw[bq h1];rfl) rfl]
 by_cases h2:7<ax xs
 ·refine ai d9 Mg 5 3 ?_
  rw[EJ,aG (by first|exact bu (by omega)|(rw[bA (show 3≤ax xs by omega)];rfl)),aj (by first|exact bq h2|(rw[bE,aA];omega)),aN xs (e:=6) (by unfold lC;rw[bu (by omega),bq h2];rfl) rfl]
 obtain⟨l,rfl,ha⟩:=uL xs h;rw[aI,List.length_map] at h1 h2;match l,h1,h2,ha with
 |[],h1,_,_=>exact absurd h1 (by simp)
 |[_],h1,_,_=>exact absurd h1 (by simp)
 |[_,_],h1,_,_=>exact absurd h1 (by simp)
 |[a0,a1,a2],_,_,ha=>exact XA a0 a1 a2 (ha _ (by simp)) (ha _ (by simp)) (ha _ (by simp))
 |[a0,a1,a2,a3],_,_,ha=>exact XD a0 a1 a2 a3 (ha _ (by simp)) (ha _ (by simp)) (ha _ (by simp)) (ha _ (by simp))
 |[a0,a1,a2,a3,a4],_,_,ha=>exact XF a0 a1 a2 a3 a4 (ha _ (by simp)) (ha _ (by simp)) (ha _ (by simp)) (ha _ (by simp)) (ha _ (by simp))
 |[a0,a1,a2,a3,a4,a5],_,_,ha=>exact XH a0 a1 a2 a3 a4 a5 (ha _ (by simp)) (ha _ (by simp)) (ha _ (by simp)) (ha _ (by simp)) (ha _ (by simp)) (ha _ (by simp))
 |[a0,a1,a2,a3,a4,a5,a6],_,_,ha=>exact XJ a0 a1 a2 a3 a4 a5 a6 (ha _ (by simp)) (ha _ (by simp)) (ha _ (by simp)) (ha _ (by simp)) (ha _ (by simp)) (ha _ (by simp)) (ha _ (by simp))
 |_::_::_::_::_::_::_::_::_,_,h2,_=>exact absurd h2 (by simp;omega)
noncomputable def eRdS:aL:=fun a=>match a with|[.sl 9 [.str] none xs]=>some (dZ xs,.tup [.agg [.int .i64 (er0 xs),.int .i64 (er1 xs),.int .i64 (er2 xs),.str (er3 xs),.str (er4 xs),.bool (Ri xs),.int .i64 (er6 xs),.int .i64 (er7 xs),.int .i64 (er8 xs),.int .i64 (er9 xs),.int .i64 (VG xs),.int .i64 (VH xs),.int .i64 (VI xs)],.int .i64 (lC xs)])|_=>none
theorem eRdS_ok (xs:List V) (hc:dZ xs=true):af eE 49 [.sl 9 [.str] none xs] (.tup [.agg [.int .i64 (er0 xs),.int .i64 (er1 xs),.int .i64 (er2 xs),.str (er3 xs),.str (er4 xs),.bool (Ri xs),.int .i64 (er6 xs),.int .i64 (er7 xs),.int .i64 (er8 xs),.int .i64 (er9 xs),.int .i64 (VG xs),.int .i64 (VH xs),.int .i64 (VI xs)],.int .i64 (lC xs)]):=TK xs hc
theorem rz (xs:List V) (hc:dZ xs=true):af eE 36 [.sl 9 [.str] none xs] (.tup [.agg [.int .i64 (er0 xs),.int .i64 (er1 xs),.int .i64 (er2 xs),.str (er3 xs),.str (er4 xs),.bool (Ri xs),.int .i64 (er6 xs),.int .i64 (er7 xs),.int .i64 (er8 xs),.int .i64 (er9 xs),.int .i64 (VG xs),.int .i64 (VH xs),.int .i64 (VI xs)],.int .i64 (lC xs)]):=TL xs hc
end Nt.Ev.YtpbgegnlkdfjgaaGreatDoor
