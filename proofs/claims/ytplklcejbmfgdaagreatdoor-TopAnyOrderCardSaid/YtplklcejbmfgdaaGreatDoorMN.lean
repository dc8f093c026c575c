/-
  Era: equations of functions, as the evaluator prints them. Eras: what the program's functions and the document's answer. Era2: equations of functions, as the evaluator prints them. Eras: how they are written. Eras: there and back, in plain terms. EraLaw: equations of functions, as the evaluator prints them. Eras: the two statements.
-/
import Derived.Test.YtplklcejbmfgdaaGreatDoorMM
set_option linter.unusedVariables false
set_option linter.unusedSimpArgs false
set_option linter.unusedSectionVars false
namespace Nt.Ev.YtplklcejbmfgdaaGreatDoor
set_option maxRecDepth 100000
open Go Nt.Num Go.Proofs.YtplklcejbmfgdaaGreatDoor
variable [nP]
open Nt.Civil
abbrev eZ:V:=(V.agg [V.int .i64 0,V.int .i64 0,V.int .i64 0,V.str [],V.str [],V.bool false,V.int .i64 0,V.int .i64 0,V.int .i64 0,V.int .i64 0,V.int .i64 0,V.int .i64 0,V.int .i64 0])
noncomputable def firstV:V:=.rptr [.int .i64,.int .i64,.int .i64] (.agg [.int .i64 0,.int .i64 0,.int .i64 1]) 0
noncomputable def eE:Env:=⟨Go.Proofs.Tryz.prog,fun g=>bif g==0 then some firstV else bif g==2 then some CY else bif g==1 then some Nb else bif g==4 then some Ti else bif g==3 then some (.rptr [.int .i64] (.int .i64 nP.val) 0) else none⟩
noncomputable def eNrS:aG:=fun a=>match a with|[.str s]=>some (ak (au s) 900,.tup [.int .i64 (ig s),.int .i64 (nrW s)])|_=>none
noncomputable def eNtS:aG:=fun a=>match a with|[.int .i64 n]=>some (ai (ak (-9223372036854775808) n) (ak n 9223372036854775807),.str (text n))|_=>none
noncomputable def eChS:aG:=fun a=>match a with|[.str s]=>some (ak (au s) 900,.int .i64 (jy s))|_=>none
noncomputable def eS0:List (Nat×aG):=(173,eNrS)::(63,eNtS)::(45,eChS)::(16,Ms)::(39,Cq)::(157,Vj)::(159,Vk)::(161,Vl)::(148,Vm)::(58,Xp)::(59,Xq)::(40,Xr)::(60,Xt)::(61,Xu)::[]
def E7:List UInt8→Bool|[]=>false|[c]=>decide (48≤c.toNat)&&decide (c.toNat≤57)|c::d::_=>(decide (48≤c.toNat)&&decide (c.toNat≤57))||(c==45&&(decide (48≤d.toNat)&&decide (d.toNat≤57)))
def rlP (s:List UInt8):Int×Int×List UInt8×Int:=if s=[45] then(0,0,[],0) else if E7 s=true then(1,svI s,[],svW s) else(2,0,s,dZ s)
def Xd (s:List UInt8):Int:=(rlP s).1
def xC (s:List UInt8):Int:=(rlP s).2.1
def UW (s:List UInt8):List UInt8:=(rlP s).2.2.1
def Oj (s:List UInt8):Int:=(rlP s).2.2.2
noncomputable def eNumS:aG:=fun a=>match a with|[.str s]=>some (ak (au s) 900,.bool (E7 s))|_=>none
noncomputable def eS1:List (Nat×aG):=(172,eNumS)::eS0
def en0 (ys:List V):Int:=sel (ieq (nrW (rg ys 0)) 0) (sel (ak (ig (rg ys 0)) (-32767)) 1 (sel (ak 32767 (ig (rg ys 0))) 1 0)) (nrW (rg ys 0))
def E8 (ys:List V):Int:=sel (ieq (en0 ys) 0) (sel (aU 1 (av ys)) (qc (rg ys 1)) 0) (en0 ys)
def nR (ys:List V):Int:=sel (ieq (en0 ys) 0) (sel (aU 1 (av ys)) (uz (rg ys 1)) 1) 1
def E9 (ys:List V):Int:=sel (ieq (E8 ys) 0) (sel (aU 2 (av ys)) (odE (rg ys 2) (nR ys)) 0) (E8 ys)
def qm (ys:List V) (f:List UInt8→Int→Int) (z:Int):Int:=sel (ieq (E8 ys) 0) (sel (aU 2 (av ys)) (f (rg ys 2) (nR ys)) z) z
def I5 (ys:List V):Int:=sel (ieq (E9 ys) 0) (sel (aU 3 (av ys)) (yR (rg ys 3)) 0) (E9 ys)
def qZ (ys:List V) (f:List UInt8→Int):Int:=sel (ieq (E9 ys) 0) (sel (aU 3 (av ys)) (f (rg ys 3)) 0) 0
def sD (ys:List V):Bool:=aK (ieq (av ys) 0)
def yT (ys:List V):Int:=sel (sD ys) (ig (rg ys 0)) 0
def sG (ys:List V):Int:=sel (sD ys) (nR ys) 0
def yU (ys:List V):Int:=sel (sD ys) (qm ys odK 0) 0
def yV (ys:List V):Int:=sel (sD ys) (qm ys odW 0) 0
def yX (ys:List V):Int:=sel (sD ys) (qm ys odD 1) 0
def yY (ys:List V):Int:=sel (sD ys) (qZ ys Ov) 0
def yZ (ys:List V):Int:=sel (sD ys) (qZ ys Ow) 0
def y5 (ys:List V):Int:=sel (sD ys) (I5 ys) 0
noncomputable def eNoS:aG:=fun a=>match a with|[.str s]=>some (false,.int .i64 0)|_=>none
noncomputable def eSn:List (Nat×aG):=(148,eNoS)::[]
theorem eNum_top (F:Nat) (s:List UInt8) (K:V→Option V):
 bW eE (bT eE eS0 F 4) F 172 [V.str s] K=
 let C:=au [45];let D:=K (V.bool false);let H:=ai (ak 0 0) (aU 0 (au s));let A:=sel (aK (seq s [])) (sel H (sel (ak 48 (sat s 0)) (sel H (K (V.bool (ak (sat s 0) 57))) none) D) none) D;let B:=dG s C (au s);let E:=ai (ak 0 C) (ak C (au s));let G:=ai (ak 0 0) (aU 0 (au B));sel (ak C (au s)) (sel E (sel (seq (dG s 0 C) [45]) (sel E (sel (aK (seq B [])) (sel G (sel (ak 48 (sat B 0)) (sel G (K (V.bool (ak (sat B 0) 57))) none) D) none) D) none) A) none) A:=by kernel_rfl
theorem Ll (F:Nat) (xs:List V) (K:V→Option V):
 bW eE (bT eE eSn F 10) F 106 [V.sl 9 [Kd.str] none xs] K=
 sel (aK (ak 3 (av xs))) (K (V.tup [eZ,V.int .i64 5])) (sel (aK (ak (av xs) 7)) (K (V.tup [eZ,V.int .i64 6])) (sel (ai (ak 0 0) (aU 0 (av xs))) none none)):=by kernel_rfl
theorem JM (a0 a1 a2:List UInt8) (K:V→Option V):
 bW eE (bT eE eS1 9 10) 9 106 [V.sl 9 [Kd.str] none [V.str a0,V.str a1,V.str a2]] K=
 let A:=V.int .i64 0;let B:=K (V.tup [eZ,V.int .i64 1]);let C:=K (V.tup [eZ,V.int .i64 (jy a2)]);let D:=aK (ieq (jy a2) 0);let E:=V.int .i64 (eX a0);let F:=ak (au a2) 900;let G:=V.bool false;let H:=V.str a2;let I:=ak (au a1) 900;sel (ak (au a0) 900) (sel (aK (ieq (lH a0) 0)) (K (V.tup [eZ,V.int .i64 (lH a0)])) (sel (ak (-54000) (eX a0)) (sel (aK (ak (eX a0) 54000)) B (sel (seq a1 [45]) (sel F (sel D C (K (V.tup [V.agg [E,A,A,V.str [],H,G,A,A,A,A,A,A,A],A]))) none) (sel I (sel (E7 a1) (sel I (sel (aK (ieq (lH a1) 0)) (K (V.tup [eZ,V.int .i64 (lH a1)])) (sel (ak (-10800) (eX a1)) (sel (aK (ak (eX a1) 10800)) B (sel F (sel D C (K (V.tup [V.agg [E,V.int .i64 1,V.int .i64 (eX a1),V.str [],H,G,A,A,A,A,A,A,A],A]))) none)) B)) none) (sel (ak (au a1) 1000) (sel (aK (ieq (dZ a1) 0)) (K (V.tup [eZ,V.int .i64 (dZ a1)])) (sel F (sel D C (K (V.tup [V.agg [E,V.int .i64 2,A,V.str a1,H,G,A,A,A,A,A,A,A],A]))) none)) none)) none))) B)) none:=by kernel_rfl
theorem JN (a0 a1 a2 a3:List UInt8) (K:V→Option V):
 bW eE (bT eE eS1 9 10) 9 106 [V.sl 9 [Kd.str] none [V.str a0,V.str a1,V.str a2,V.str a3]] K=
 let B:=V.int .i64 0;let C:=V.int .i64 1;let D:=K (V.tup [eZ,V.int .i64 (jy a2)]);let E:=K (V.tup [eZ,V.int .i64 (nrW a3)]);let F:=aK (aU (ig a3) 32767);let G:=aK (ieq (jy a2) 0);let H:=aK (ieq (nrW a3) 0);let I:=aU (-32767) (ig a3);let J:=V.int .i64 (eX a0);let L:=V.int .i64 (ig a3);let M:=ak (au a2) 900;let N:=ak (au a3) 900;let O:=V.bool true;let P:=V.str a2;let Q:=ak (au a1) 900;let A:=K (V.tup [eZ,C]);sel (ak (au a0) 900) (sel (aK (ieq (lH a0) 0)) (K (V.tup [eZ,V.int .i64 (lH a0)])) (sel (ak (-54000) (eX a0)) (sel (aK (ak (eX a0) 54000)) A (sel (seq a1 [45]) (sel M (sel G D (sel N (sel H E (sel I (sel F A (K (V.tup [V.agg [J,B,B,V.str [],P,O,L,C,B,B,C,B,B],B]))) A)) none)) none) (sel Q (sel (E7 a1) (sel Q (sel (aK (ieq (lH a1) 0)) (K (V.tup [eZ,V.int .i64 (lH a1)])) (sel (ak (-10800) (eX a1)) (sel (aK (ak (eX a1) 10800)) A (sel M (sel G D (sel N (sel H E (sel I (sel F A (K (V.tup [V.agg [J,C,V.int .i64 (eX a1),V.str [],P,O,L,C,B,B,C,B,B],B]))) A)) none)) none)) A)) none) (sel (ak (au a1) 1000) (sel (aK (ieq (dZ a1) 0)) (K (V.tup [eZ,V.int .i64 (dZ a1)])) (sel M (sel G D (sel N (sel H E (sel I (sel F A (K (V.tup [V.agg [J,V.int .i64 2,B,V.str a1,P,O,L,C,B,B,C,B,B],B]))) A)) none)) none)) none)) none))) A)) none:=by kernel_rfl
theorem JO (a0 a1 a2 a3 a4:List UInt8) (K:V→Option V):
 bW eE (bT eE eS1 9 10) 9 106 [V.sl 9 [Kd.str] none [V.str a0,V.str a1,V.str a2,V.str a3,V.str a4]] K=
 let B:=V.int .i64 0;let C:=K (V.tup [eZ,V.int .i64 (jy a2)]);let D:=K (V.tup [eZ,V.int .i64 (nrW a3)]);let E:=K (V.tup [eZ,V.int .i64 (qc a4)]);let F:=aK (aU (ig a3) 32767);let G:=V.int .i64 1;let H:=aK (ieq (jy a2) 0);let I:=aK (ieq (nrW a3) 0);let J:=aU (-32767) (ig a3);let L:=aK (ieq (qc a4) 0);let M:=V.int .i64 (eX a0);let N:=V.int .i64 (ig a3);let O:=V.int .i64 (uz a4);let P:=ak (au a2) 900;let Q:=ak (au a3) 900;let R:=ak (au a4) 900;let S:=V.bool true;let T:=V.str a2;let U:=ak (au a1) 900;let A:=K (V.tup [eZ,G]);sel (ak (au a0) 900) (sel (aK (ieq (lH a0) 0)) (K (V.tup [eZ,V.int .i64 (lH a0)])) (sel (ak (-54000) (eX a0)) (sel (aK (ak (eX a0) 54000)) A (sel (seq a1 [45]) (sel P (sel H C (sel Q (sel I D (sel J (sel F A (sel R (sel L E (K (V.tup [V.agg [M,B,B,V.str [],T,S,N,O,B,B,G,B,B],B]))) none)) A)) none)) none) (sel U (sel (E7 a1) (sel U (sel (aK (ieq (lH a1) 0)) (K (V.tup [eZ,V.int .i64 (lH a1)])) (sel (ak (-10800) (eX a1)) (sel (aK (ak (eX a1) 10800)) A (sel P (sel H C (sel Q (sel I D (sel J (sel F A (sel R (sel L E (K (V.tup [V.agg [M,G,V.int .i64 (eX a1),V.str [],T,S,N,O,B,B,G,B,B],B]))) none)) A)) none)) none)) A)) none) (sel (ak (au a1) 1000) (sel (aK (ieq (dZ a1) 0)) (K (V.tup [eZ,V.int .i64 (dZ a1)])) (sel P (sel H C (sel Q (sel I D (sel J (sel F A (sel R (sel L E (K (V.tup [V.agg [M,V.int .i64 2,B,V.str a1,T,S,N,O,B,B,G,B,B],B]))) none)) A)) none)) none)) none)) none))) A)) none:=by kernel_rfl
theorem JP (a0 a1 a2 a3 a4 a5:List UInt8) (K:V→Option V):
 bW eE (bT eE eS1 9 10) 9 106 [V.sl 9 [Kd.str] none [V.str a0,V.str a1,V.str a2,V.str a3,V.str a4,V.str a5]] K=
 let A:=K (V.tup [eZ,V.int .i64 1]);let B:=V.int .i64 0;let C:=aK (qf (qX a5) (iD a5) (qY a5) (uz a4));let D:=K (V.tup [eZ,V.int .i64 (jy a2)]);let E:=K (V.tup [eZ,V.int .i64 (nrW a3)]);let F:=K (V.tup [eZ,V.int .i64 (qc a4)]);let G:=K (V.tup [eZ,V.int .i64 (sw a5)]);let H:=aK (aU (ig a3) 32767);let I:=aK (ieq (jy a2) 0);let J:=aK (ieq (nrW a3) 0);let L:=aU (-32767) (ig a3);let M:=aK (ieq (qc a4) 0);let N:=aK (ieq (sw a5) 0);let O:=V.int .i64 (iD a5);let P:=V.int .i64 (eX a0);let Q:=V.int .i64 (ig a3);let R:=V.int .i64 (uz a4);let S:=V.int .i64 (qX a5);let T:=V.int .i64 (qY a5);let U:=ak (au a2) 900;let W:=ak (au a3) 900;let X:=ak (au a4) 900;let Y:=ak (au a5) 900;let Z:=V.bool true;sel (ak (au a0) 900) (sel (aK (ieq (lH a0) 0)) (K (V.tup [eZ,V.int .i64 (lH a0)])) (sel (ak (-54000) (eX a0)) (sel (aK (ak (eX a0) 54000)) A (sel (seq a1 [45]) (sel U (sel I D (sel W (sel J E (sel L (sel H A (sel X (sel M F (sel Y (sel N G (sel C A (K (V.tup [V.agg [P,B,B,V.str [],V.str a2,Z,Q,R,S,O,T,B,B],B])))) none)) none)) A)) none)) none) (sel (ak (au a1) 900) (sel (E7 a1) (sel (ak (au a1) 900) (sel (aK (ieq (lH a1) 0)) (K (V.tup [eZ,V.int .i64 (lH a1)])) (sel (ak (-10800) (eX a1)) (sel (aK (ak (eX a1) 10800)) A (sel U (sel I D (sel W (sel J E (sel L (sel H A (sel X (sel M F (sel Y (sel N G (sel C A (K (V.tup [V.agg [P,V.int .i64 1,V.int .i64 (eX a1),V.str [],V.str a2,Z,Q,R,S,O,T,B,B],B])))) none)) none)) A)) none)) none)) A)) none) (sel (ak (au a1) 1000) (sel (aK (ieq (dZ a1) 0)) (K (V.tup [eZ,V.int .i64 (dZ a1)])) (sel U (sel I D (sel W (sel J E (sel L (sel H A (sel X (sel M F (sel Y (sel N G (sel C A (K (V.tup [V.agg [P,V.int .i64 2,B,V.str a1,V.str a2,Z,Q,R,S,O,T,B,B],B])))) none)) none)) A)) none)) none)) none)) none))) A)) none:=by kernel_rfl
theorem JQ (a0 a1 a2 a3 a4 a5 a6:List UInt8) (K:V→Option V):
 bW eE (bT eE eS1 9 10) 9 106 [V.sl 9 [Kd.str] none [V.str a0,V.str a1,V.str a2,V.str a3,V.str a4,V.str a5,V.str a6]] K=
 let A:=K (V.tup [eZ,V.int .i64 1]);let B:=aK (qf (qX a5) (iD a5) (qY a5) (uz a4));let C:=K (V.tup [eZ,V.int .i64 (jy a2)]);let D:=K (V.tup [eZ,V.int .i64 (nrW a3)]);let E:=K (V.tup [eZ,V.int .i64 (qc a4)]);let F:=K (V.tup [eZ,V.int .i64 (sw a5)]);let G:=K (V.tup [eZ,V.int .i64 (yR a6)]);let H:=V.int .i64 0;let I:=aK (aU (ig a3) 32767);let J:=aK (ieq (jy a2) 0);let L:=aK (ieq (nrW a3) 0);let M:=aU (-32767) (ig a3);let N:=aK (ieq (qc a4) 0);let O:=aK (ieq (sw a5) 0);let P:=aK (ieq (yR a6) 0);let Q:=V.int .i64 (iD a5);let R:=V.int .i64 (eX a0);let S:=V.int .i64 (ig a3);let T:=V.int .i64 (uz a4);let U:=V.int .i64 (qX a5);let W:=V.int .i64 (qY a5);let X:=V.int .i64 (Ov a6);let Y:=V.int .i64 (Ow a6);let Z:=ak (au a2) 900;let Aa:=ak (au a3) 900;let Ab:=ak (au a4) 900;let Ac:=ak (au a5) 900;let Ad:=ak (au a6) 900;let Ae:=V.bool true;sel (ak (au a0) 900) (sel (aK (ieq (lH a0) 0)) (K (V.tup [eZ,V.int .i64 (lH a0)])) (sel (ak (-54000) (eX a0)) (sel (aK (ak (eX a0) 54000)) A (sel (seq a1 [45]) (sel Z (sel J C (sel Aa (sel L D (sel M (sel I A (sel Ab (sel N E (sel Ac (sel O F (sel B A (sel Ad (sel P G (K (V.tup [V.agg [R,H,H,V.str [],V.str a2,Ae,S,T,U,Q,W,X,Y],H]))) none))) none)) none)) A)) none)) none) (sel (ak (au a1) 900) (sel (E7 a1) (sel (ak (au a1) 900) (sel (aK (ieq (lH a1) 0)) (K (V.tup [eZ,V.int .i64 (lH a1)])) (sel (ak (-10800) (eX a1)) (sel (aK (ak (eX a1) 10800)) A (sel Z (sel J C (sel Aa (sel L D (sel M (sel I A (sel Ab (sel N E (sel Ac (sel O F (sel B A (sel Ad (sel P G (K (V.tup [V.agg [R,V.int .i64 1,V.int .i64 (eX a1),V.str [],V.str a2,Ae,S,T,U,Q,W,X,Y],H]))) none))) none)) none)) A)) none)) none)) A)) none) (sel (ak (au a1) 1000) (sel (aK (ieq (dZ a1) 0)) (K (V.tup [eZ,V.int .i64 (dZ a1)])) (sel Z (sel J C (sel Aa (sel L D (sel M (sel I A (sel Ab (sel N E (sel Ac (sel O F (sel B A (sel Ad (sel P G (K (V.tup [V.agg [R,V.int .i64 2,H,V.str a1,V.str a2,Ae,S,T,U,Q,W,X,Y],H]))) none))) none)) none)) A)) none)) none)) none)) none))) A)) none:=by kernel_rfl
open Go.RowKit Nt
theorem iX:tY eE:=⟨by kernel_rfl,by kernel_rfl⟩
theorem Ah {f:Nat} {args:List V} {r:V} (h:af zE f args r):af eE f args r:=af.env (E:=zE) rfl (fun n v h=>by
 show(bif n==0 then some firstV else zE.glob n)=some v
 cases e:n==0 with
 |true=>
  obtain rfl:n=0:=by simpa using e
  have:zE.glob 0=none:=by kernel_rfl
  rw[this] at h;cases h
 |false=>exact h) h
theorem eNrS_ok (s:List UInt8) (hc:ak (au s) 900=true):af eE 173 [.str s] (.tup [.int .i64 (ig s),.int .i64 (nrW s)]):=Ah (toZ (M8 s (by have:=sO hc;omega)))
theorem Wm (n:Int) (hc:ai (ak (-9223372036854775808) n) (ak n 9223372036854775807)=true):af eE 63 [.int .i64 n] (.str (text n)):=Ah (toZ (Bl n (Gt hc)))
theorem Wn (s:List UInt8) (hc:ak (au s) 900=true):af eE 45 [.str s] (.int .i64 (jy s)):=Ah (toZf (Lj s (zo hc)))
theorem eS0_ok:bn eE eS0:=by
 unfold eS0;refine bn.cons (fun args r h=>?_) (bn.cons (fun args r h=>?_) (bn.cons (fun args r h=>?_) (bn.cons (fun args r h=>?_) (bn.cons (fun args r h=>?_) (bn.cons (fun args r h=>?_) (bn.cons (fun args r h=>?_) (bn.cons (fun args r h=>?_) (bn.cons (fun args r h=>?_) (bn.cons (fun args r h=>?_) (bn.cons (fun args r h=>?_) (bn.cons (fun args r h=>?_) (bn.cons (fun args r h=>?_) (bn.cons (fun args r h=>?_) bn.nil)))))))))))));all_goals (revert h;intro h;first|unfold eNrS at h|unfold eNtS at h|unfold eChS at h|unfold Ms at h|unfold Cq at h|unfold Vj at h|unfold Vk at h|unfold Vl at h|unfold Vm at h|unfold Xp at h|unfold Xq at h|unfold Xr at h|unfold Xt at h|unfold Xu at h)
 all_goals (split at h;rotate_left; · cases h)
 all_goals (simp only[Option.some.injEq,Prod.mk.injEq] at h;obtain⟨hc,rfl⟩:=h)
 ·exact eNrS_ok _ hc
 ·exact Wm _ hc
 ·exact Wn _ hc
 ·exact Ah (CZ _ hc)
 ·exact Ah (C4 _ _ _ _ rfl)
 ·exact Ah (PV _ hc)
 ·exact Ah (PX _ hc)
 ·exact Ah (PY _ hc)
 ·exact Ah (PZ _ hc)
 ·exact Ah (Nf _ _ _ rfl)
 ·exact Ah (Ng _ _ rfl)
 ·exact Ah (Nh _ _ rfl)
 ·exact Ah (Ni _ hc)
 ·exact Ah (Nj _ hc)
theorem eNoS_ok (s:List UInt8) (hc:false=true):af eE 148 [.str s] (.int .i64 0):=by cases hc
theorem eSn_ok:bn eE eSn:=by
 unfold eSn;refine bn.cons (fun args r h=>?_) bn.nil;all_goals (revert h;intro h;first|unfold eNoS at h)
 all_goals (split at h;rotate_left; · cases h)
 all_goals (simp only[Option.some.injEq,Prod.mk.injEq] at h;obtain⟨hc,rfl⟩:=h)
 ·exact eNoS_ok _ hc
theorem sat_0 (c:UInt8) (t:List UInt8):sat (c::t) 0=((c.toNat:Nat):Int):=rfl
theorem eNumS_ok (s:List UInt8) (hc:ak (au s) 900=true):af eE 172 [.str s] (.bool (E7 s)):=by
 refine aj iX eS0_ok 5 4 ?_
 (rw[eNum_top];(conv=>zeta))
 have one:au [45]=1:=rfl;rw[one];rcases s with _|⟨c,_|⟨d,t⟩⟩
 ·rfl
 ·
  have l1:ak 1 (au [c])=true:=rfl;have l2:ai (ak 0 1) true=true:=rfl;have l3:dG [c] 0 1=[c]:=rfl;have l4:dG [c] 1 (au [c])=[]:=rfl;have l5:ai (ak 0 0) (aU 0 (au [c]))=true:=rfl;have l6:seq [c] []=false:=rfl;have e1:seq [c] [45]=(c==45):=by rw[Bool.eq_iff_iff,dh,beq_iff_eq];simp
  have e2:ak 48 ((c.toNat:Nat):Int)=decide (48≤c.toNat):=Gu c 48;have e3:ak ((c.toNat:Nat):Int) 57=decide (c.toNat≤57):=AY c 57;rw[l1,l2,l3,l4,l5,l6,sat_0,e1,e2,e3];show _=some (V.bool (decide (48≤c.toNat)&&decide (c.toNat≤57)))
  cases h45:c==45 with
  |true=>
   have:c=45:=by simpa using h45
   subst this;rfl
  |false=>cases decide (48≤c.toNat)<;>cases decide (c.toNat≤57)<;>rfl
 ·
  rw[ay,aC] at hc;have l1:ak 1 (au (c::d::t))=true:=bB (by rw[aC,List.length_cons,List.length_cons];omega);have l2:ai (ak 0 1) true=true:=rfl;have l3:dG (c::d::t) 0 1=[c]:=rfl;have l4:dG (c::d::t) 1 (au (c::d::t))=d::t:=by
   unfold dG au;show List.take (((c::d::t).length:Int).toNat-1) (d::t)=d::t;rw[List.take_of_length_le];simp;omega
  have l5:seq (d::t) []=false:=rfl;have l6:seq (c::d::t) []=false:=rfl;have l7:ai (ak 0 0) (aU 0 (au (d::t)))=true:=by rw[bE (by rw[aC,List.length_cons];omega)];rfl
  have l8:ai (ak 0 0) (aU 0 (au (c::d::t)))=true:=by rw[bE (by rw[aC,List.length_cons];omega)];rfl
  rw[l1,l2,l3,l4,l5,l6,l7,l8,sat_0,sat_0];have e1:seq [c] [45]=(c==45):=by rw[Bool.eq_iff_iff,dh,beq_iff_eq];simp
  have e2: ∀x:UInt8,ak 48 ((x.toNat:Nat):Int)=decide (48≤x.toNat):=fun x=>Gu x 48
  have e3: ∀x:UInt8,ak ((x.toNat:Nat):Int) 57=decide (x.toNat≤57):=fun x=>AY x 57
  rw[e1,e2,e2,e3,e3];show _=some (V.bool ((decide (48≤c.toNat)&&decide (c.toNat≤57))||(c==45&&(decide (48≤d.toNat)&&decide (d.toNat≤57)))))
  cases hc45:c==45 with
  |true=>
   have:c=45:=by simpa using hc45
   subst this
   cases decide (48≤d.toNat)<;>cases decide (d.toNat≤57)<;>rfl
  |false=>cases decide (48≤c.toNat)<;>cases decide (c.toNat≤57)<;>cases decide (48≤d.toNat)<;>cases decide (d.toNat≤57)<;>rfl
theorem sW (s:List UInt8):Oj s=sel (seq s [45]) 0 (sel (E7 s) (svW s) (dZ s)):=by
 unfold Oj rlP;simp only[bV,dh]
 (repeat' split)<;>rfl
theorem gP (s:List UInt8):Xd s=sel (seq s [45]) 0 (sel (E7 s) 1 2):=by
 unfold Xd rlP;simp only[bV,dh]
 (repeat' split)<;>rfl
theorem gQ (s:List UInt8):xC s=sel (seq s [45]) 0 (sel (E7 s) (svI s) 0):=by
 unfold xC rlP;simp only[bV,dh]
 (repeat' split)<;>rfl
theorem gT (s:List UInt8):UW s=sel (seq s [45]) [] (sel (E7 s) [] s):=by
 unfold UW rlP;simp only[bV,dh]
 (repeat' split)<;>rfl
theorem gV (s:List UInt8):svI s=sel (ieq (lH s) 0) (sel (ak (-10800) (eX s)) (sel (ak (eX s) 10800) (eX s) 0) 0) (eX s):=by
 unfold svI svP;simp only[bV,aL,ay];by_cases h:lH s=0
 ·rw[if_pos h,if_pos h]
  by_cases h1: -10800≤eX s
  ·rw[if_pos h1]
   by_cases h2:eX s≤10800
   ·rw[if_pos h2,if_neg (by omega)]
   ·rw[if_neg h2,if_pos (by omega)]
  ·rw[if_neg h1,if_pos (by omega)]
 ·rw[if_neg h,if_neg h]
theorem jl (s:List UInt8) (m:Int):odK s m=sel (ieq (sw s) 0) (sel (qf (qX s) (iD s) (qY s) m) (qX s) 0) (qX s):=by
 unfold odK odP;simp only[bV,aL]
 (repeat' split)<;>rfl
theorem jm (s:List UInt8) (m:Int):odW s m=sel (ieq (sw s) 0) (sel (qf (qX s) (iD s) (qY s) m) (iD s) 0) (iD s):=by
 unfold odW odP;simp only[bV,aL]
 (repeat' split)<;>rfl
theorem jo (s:List UInt8) (m:Int):odD s m=sel (ieq (sw s) 0) (sel (qf (qX s) (iD s) (qY s) m) (qY s) 0) (qY s):=by
 unfold odD odP;simp only[bV,aL]
 (repeat' split)<;>rfl
theorem Gv (a b:Int):aU a b=aK (ak b a):=by
 unfold aU ak aK;rw[Bool.eq_iff_iff,decide_eq_true_eq,Bool.not_eq_true',decide_eq_false_iff_not];omega
theorem Fq:ai true true=true:=rfl
theorem Gw:bn eE eS1:=by
 unfold eS1;refine bn.cons (fun args r h=>?_) eS0_ok;all_goals (revert h;intro h;first|unfold eNumS at h)
 all_goals (split at h;rotate_left; · cases h)
 all_goals (simp only[Option.some.injEq,Prod.mk.injEq] at h;obtain⟨hc,rfl⟩:=h)
 ·exact eNumS_ok _ hc
def I6 (s:List UInt8):Int:=sel (ieq (lH s) 0) (sel (ak (-54000) (eX s)) (sel (ak (eX s) 54000) 0 1) 1) (lH s)
def kT (xs:List V):Int:=sel (aU (av xs) 3) 5 (sel (aU 7 (av xs)) 6 (sel (ieq (I6 (rg xs 0)) 0) (sel (ieq (Oj (rg xs 1)) 0) (sel (ieq (jy (rg xs 2)) 0) (y5 (dX xs 3 (av xs))) (jy (rg xs 2))) (Oj (rg xs 1))) (I6 (rg xs 0))))
def RH (xs:List V):Int:=sel (ieq (kT xs) 0) (eX (rg xs 0)) 0
def UX (xs:List V):Int:=sel (ieq (kT xs) 0) (Xd (rg xs 1)) 0
def RI (xs:List V):Int:=sel (ieq (kT xs) 0) (xC (rg xs 1)) 0
def Se (xs:List V):List UInt8:=sel (ieq (kT xs) 0) (UW (rg xs 1)) []
def Sf (xs:List V):List UInt8:=sel (ieq (kT xs) 0) (rg xs 2) []
def ED (xs:List V):Bool:=sel (ieq (kT xs) 0) (sD (dX xs 3 (av xs))) false
def RJ (xs:List V):Int:=sel (ieq (kT xs) 0) (yT (dX xs 3 (av xs))) 0
def RL (xs:List V):Int:=sel (ieq (kT xs) 0) (sG (dX xs 3 (av xs))) 0
def UY (xs:List V):Int:=sel (ieq (kT xs) 0) (yU (dX xs 3 (av xs))) 0
def UZ (xs:List V):Int:=sel (ieq (kT xs) 0) (yV (dX xs 3 (av xs))) 0
def Ak (xs:List V):Int:=sel (ieq (kT xs) 0) (yX (dX xs 3 (av xs))) 0
def Al (xs:List V):Int:=sel (ieq (kT xs) 0) (yY (dX xs 3 (av xs))) 0
def Am (xs:List V):Int:=sel (ieq (kT xs) 0) (yZ (dX xs 3 (av xs))) 0
def LJ (xs:List V):V:=.tup [.agg [.int .i64 (RH xs),.int .i64 (UX xs),.int .i64 (RI xs),.str (Se xs),.str (Sf xs),.bool (ED xs),.int .i64 (RJ xs),.int .i64 (RL xs),.int .i64 (UY xs),.int .i64 (UZ xs),.int .i64 (Ak xs),.int .i64 (Al xs),.int .i64 (Am xs)],.int .i64 (kT xs)]
def erW (xs:List V) (x0 x1 x2:Int) (x3 x4:List UInt8) (x5:Bool) (x6 x7 x8 x9 x10 E6 lu:Int):V:=.tup [.agg [.int .i64 (sel (ieq (kT xs) 0) x0 0),.int .i64 (sel (ieq (kT xs) 0) x1 0),.int .i64 (sel (ieq (kT xs) 0) x2 0),.str (sel (ieq (kT xs) 0) x3 []),.str (sel (ieq (kT xs) 0) x4 []),.bool (sel (ieq (kT xs) 0) x5 false),.int .i64 (sel (ieq (kT xs) 0) x6 0),.int .i64 (sel (ieq (kT xs) 0) x7 0),.int .i64 (sel (ieq (kT xs) 0) x8 0),.int .i64 (sel (ieq (kT xs) 0) x9 0),.int .i64 (sel (ieq (kT xs) 0) x10 0),.int .i64 (sel (ieq (kT xs) 0) E6 0),.int .i64 (sel (ieq (kT xs) 0) lu 0)],.int .i64 (kT xs)]
theorem kV (xs:List V) (x0 x1 x2:Int) (x3 x4:List UInt8) (x5:Bool) (x6 x7 x8 x9 x10 E6 lu:Int) (h:kT xs=0):erW xs x0 x1 x2 x3 x4 x5 x6 x7 x8 x9 x10 E6 lu=.tup [.agg [.int .i64 x0,.int .i64 x1,.int .i64 x2,.str x3,.str x4,.bool x5,.int .i64 x6,.int .i64 x7,.int .i64 x8,.int .i64 x9,.int .i64 x10,.int .i64 E6,.int .i64 lu],.int .i64 0]:=by
 unfold erW;rw[h];rfl
theorem aT (xs:List V) {e:Int} (h:kT xs=e) (he:ieq e 0=false):LJ xs=.tup [.agg [.int .i64 0,.int .i64 0,.int .i64 0,.str [],.str [],.bool false,.int .i64 0,.int .i64 0,.int .i64 0,.int .i64 0,.int .i64 0,.int .i64 0,.int .i64 0],.int .i64 e]:=by
 unfold LJ RH UX RI Se Sf ED RJ RL UY UZ Ak Al Am;rw[h,he];rfl
set_option maxHeartbeats 2000000 in
theorem Zd (a0 a1 a2:List UInt8) (h0:ak (au a0) 900=true) (h1:ak (au a1) 900=true) (h2:ak (au a2) 900=true):af eE 106 [.sl 9 [.str] none [.str a0,.str a1,.str a2]] (LJ [.str a0,.str a1,.str a2]):=by
 refine aj iX Gw 9 10 ?_
 (rw[JM];(conv=>zeta))
 have g1:kT [.str a0,.str a1,.str a2]=sel (ieq (I6 a0) 0) (sel (ieq (Oj a1) 0) (sel (ieq (jy a2) 0) (y5 []) (jy a2)) (Oj a1)) (I6 a0):=rfl;have gY:LJ [.str a0,.str a1,.str a2]=erW [.str a0,.str a1,.str a2] (eX a0) (Xd a1) (xC a1) (UW a1) a2 (sD []) (yT []) (sG []) (yU []) (yV []) (yX []) (yY []) (yZ []):=rfl;have z1:ieq 1 0=false:=rfl;have z0:ieq 0 0=true:=rfl;have b0:aK true=false:=rfl;have b1:aK false=true:=rfl;have gE:y5 []=0:=rfl;simp only[h0,h1,h2,Gv,sT];have hT:=g1;simp only[I6,sW,gH,gE,sT,sF,z0,z1,b0,b1] at hT
 cases e0:ieq (lH a0) 0 with
 |false=>simp only[e0,sT,sF,z0,z1,b0,b1] at hT⊢;rw[aT _ hT e0]
 |true=>
 simp only[e0,sT,sF,z0,z1,b0,b1] at hT⊢
 cases e1:ak (-54000) (eX a0) with
 |false=>simp only[e1,sT,sF,z0,z1,b0,b1] at hT⊢;rw[aT _ hT rfl]
 |true=>
 simp only[e1,sT,sF,z0,z1,b0,b1] at hT⊢
 cases e2:ak (eX a0) 54000 with
 |false=>simp only[e2,sT,sF,z0,z1,b0,b1] at hT⊢;rw[aT _ hT rfl]
 |true=>
 simp only[e2,sT,sF,z0,z1,b0,b1] at hT⊢
 cases e3:seq a1 [45] with
 |true=>
  simp only[e3,sT,sF,z0,z1,b0,b1] at hT⊢
  cases ec:ieq (jy a2) 0 with
  |false=>simp only[ec,sT,sF,z0,z1,b0,b1] at hT⊢;rw[aT _ hT ec]
  |true=>
  simp only[ec,sT,sF,z0,z1,b0,b1] at hT⊢;have c0:jy a2=0:=by rw[aL] at ec;exact ec
  rw[gY,kV _ _ _ _ _ _ _ _ _ _ _ _ _ _ (by first|exact hT|(rw[hT];first|rfl|assumption))];simp only[gP,gQ,gT,gH,gV,gE,e0,e1,e2,e3,ec,c0,sT,sF,z0,z1,b0,b1];rfl
 |false=>
 cases e4:E7 a1 with
 |true=>
  simp only[e3,e4,sT,sF,z0,z1,b0,b1] at hT⊢
  cases e5:ieq (lH a1) 0 with
  |false=>simp only[e5,sT,sF,z0,z1,b0,b1] at hT⊢;rw[aT _ hT e5]
  |true=>
  simp only[e5,sT,sF,z0,z1,b0,b1] at hT⊢
  cases e6:ak (-10800) (eX a1) with
  |false=>simp only[e6,sT,sF,z0,z1,b0,b1] at hT⊢;rw[aT _ hT rfl]
  |true=>
  simp only[e6,sT,sF,z0,z1,b0,b1] at hT⊢
  cases e7:ak (eX a1) 10800 with
  |false=>simp only[e7,sT,sF,z0,z1,b0,b1] at hT⊢;rw[aT _ hT rfl]
  |true=>
  simp only[e7,sT,sF,z0,z1,b0,b1] at hT⊢
  cases ec:ieq (jy a2) 0 with
  |false=>simp only[ec,sT,sF,z0,z1,b0,b1] at hT⊢;rw[aT _ hT ec]
  |true=>
  simp only[ec,sT,sF,z0,z1,b0,b1] at hT⊢;have c0:jy a2=0:=by rw[aL] at ec;exact ec
  rw[gY,kV _ _ _ _ _ _ _ _ _ _ _ _ _ _ (by first|exact hT|(rw[hT];first|rfl|assumption))];simp only[gP,gQ,gT,gH,gV,gE,e0,e1,e2,e3,e4,e5,e6,e7,ec,c0,sT,sF,z0,z1,b0,b1];rfl
 |false=>
 simp only[e3,e4,zo h1,sT,sF,z0,z1,b0,b1] at hT⊢
 cases e5:ieq (dZ a1) 0 with
 |false=>simp only[e5,sT,sF,z0,z1,b0,b1] at hT⊢;rw[aT _ hT e5]
 |true=>
 simp only[e5,sT,sF,z0,z1,b0,b1] at hT⊢;have q0:dZ a1=0:=by rw[aL] at e5;exact e5
 cases ec:ieq (jy a2) 0 with
 |false=>simp only[ec,sT,sF,z0,z1,b0,b1] at hT⊢;rw[aT _ hT ec]
 |true=>
 simp only[ec,sT,sF,z0,z1,b0,b1] at hT⊢;have c0:jy a2=0:=by rw[aL] at ec;exact ec
 rw[gY,kV _ _ _ _ _ _ _ _ _ _ _ _ _ _ (by first|exact hT|(rw[hT];first|rfl|assumption))];simp only[gP,gQ,gT,gH,gV,gE,e0,e1,e2,e3,e4,e5,q0,ec,c0,sT,sF,z0,z1,b0,b1];rfl
set_option maxHeartbeats 2000000 in
theorem Ze (a0 a1 a2 a3:List UInt8) (h0:ak (au a0) 900=true) (h1:ak (au a1) 900=true) (h2:ak (au a2) 900=true) (h3:ak (au a3) 900=true):af eE 106 [.sl 9 [.str] none [.str a0,.str a1,.str a2,.str a3]] (LJ [.str a0,.str a1,.str a2,.str a3]):=by
 refine aj iX Gw 9 10 ?_
 (rw[JN];(conv=>zeta))
 have g1:kT [.str a0,.str a1,.str a2,.str a3]=sel (ieq (I6 a0) 0) (sel (ieq (Oj a1) 0) (sel (ieq (jy a2) 0) (y5 [.str a3]) (jy a2)) (Oj a1)) (I6 a0):=rfl;have gY:LJ [.str a0,.str a1,.str a2,.str a3]=erW [.str a0,.str a1,.str a2,.str a3] (eX a0) (Xd a1) (xC a1) (UW a1) a2 (sD [.str a3]) (yT [.str a3]) (sG [.str a3]) (yU [.str a3]) (yV [.str a3]) (yX [.str a3]) (yY [.str a3]) (yZ [.str a3]):=rfl;have z1:ieq 1 0=false:=rfl;have z0:ieq 0 0=true:=rfl;have b0:aK true=false:=rfl;have b1:aK false=true:=rfl;have r3:rg [.str a3] 0=a3:=rfl;have hl:av [.str a3]=1:=rfl;simp only[h0,h1,h2,h3,Gv,sT];have hT:=g1;simp only[I6,sW,gH,y5,I5,E9,E8,en0,nR,sD,r3,hl,show ieq 1 0=false from rfl,show aU 1 1=false from rfl,show aU 2 1=false from rfl,show aU 3 1=false from rfl,ji,sT,sF,z0,z1,b0,b1] at hT
 cases e0:ieq (lH a0) 0 with
 |false=>simp only[e0,sT,sF,z0,z1,b0,b1] at hT⊢;rw[aT _ hT e0]
 |true=>
 simp only[e0,sT,sF,z0,z1,b0,b1] at hT⊢
 cases e1:ak (-54000) (eX a0) with
 |false=>simp only[e1,sT,sF,z0,z1,b0,b1] at hT⊢;rw[aT _ hT rfl]
 |true=>
 simp only[e1,sT,sF,z0,z1,b0,b1] at hT⊢
 cases e2:ak (eX a0) 54000 with
 |false=>simp only[e2,sT,sF,z0,z1,b0,b1] at hT⊢;rw[aT _ hT rfl]
 |true=>
 simp only[e2,sT,sF,z0,z1,b0,b1] at hT⊢
 cases e3:seq a1 [45] with
 |true=>
  simp only[e3,sT,sF,z0,z1,b0,b1] at hT⊢
  cases ec:ieq (jy a2) 0 with
  |false=>simp only[ec,sT,sF,z0,z1,b0,b1] at hT⊢;rw[aT _ hT ec]
  |true=>
  simp only[ec,sT,sF,z0,z1,b0,b1] at hT⊢;have c0:jy a2=0:=by rw[aL] at ec;exact ec
  cases en:ieq (nrW a3) 0 with
  |false=>simp only[en,sT,sF,z0,z1,b0,b1] at hT⊢;rw[aT _ hT en]
  |true=>
  simp only[en,sT,sF,z0,z1,b0,b1] at hT⊢
  cases ey:ak (ig a3) (-32767) with
  |true=>simp only[ey,sT,sF,z0,z1,b0,b1] at hT⊢;rw[aT _ hT rfl]
  |false=>
  simp only[ey,sT,sF,z0,z1,b0,b1] at hT⊢
  cases ez:ak 32767 (ig a3) with
  |true=>simp only[ez,sT,sF,z0,z1,b0,b1] at hT⊢;rw[aT _ hT rfl]
  |false=>
  simp only[ez,sT,sF,z0,z1,b0,b1] at hT⊢;have n0:nrW a3=0:=by rw[aL] at en;exact en
  rw[gY,kV _ _ _ _ _ _ _ _ _ _ _ _ _ _ (by first|exact hT|(rw[hT];first|rfl|assumption))];simp only[gP,gQ,gT,gH,gV,yT,sG,yU,yV,yX,yY,yZ,qZ,qm,jl,jm,jo,y5,I5,E9,E8,en0,nR,sD,r3,hl,show ieq 1 0=false from rfl,show aU 1 1=false from rfl,show aU 2 1=false from rfl,show aU 3 1=false from rfl,ji,e0,e1,e2,e3,ec,c0,en,ey,ez,n0,sT,sF,z0,z1,b0,b1]
 |false=>
 cases e4:E7 a1 with
 |true=>
  simp only[e3,e4,sT,sF,z0,z1,b0,b1] at hT⊢
  cases e5:ieq (lH a1) 0 with
  |false=>simp only[e5,sT,sF,z0,z1,b0,b1] at hT⊢;rw[aT _ hT e5]
  |true=>
  simp only[e5,sT,sF,z0,z1,b0,b1] at hT⊢
  cases e6:ak (-10800) (eX a1) with
  |false=>simp only[e6,sT,sF,z0,z1,b0,b1] at hT⊢;rw[aT _ hT rfl]
  |true=>
  simp only[e6,sT,sF,z0,z1,b0,b1] at hT⊢
  cases e7:ak (eX a1) 10800 with
  |false=>simp only[e7,sT,sF,z0,z1,b0,b1] at hT⊢;rw[aT _ hT rfl]
  |true=>
  simp only[e7,sT,sF,z0,z1,b0,b1] at hT⊢
  cases ec:ieq (jy a2) 0 with
  |false=>simp only[ec,sT,sF,z0,z1,b0,b1] at hT⊢;rw[aT _ hT ec]
  |true=>
  simp only[ec,sT,sF,z0,z1,b0,b1] at hT⊢;have c0:jy a2=0:=by rw[aL] at ec;exact ec
  cases en:ieq (nrW a3) 0 with
  |false=>simp only[en,sT,sF,z0,z1,b0,b1] at hT⊢;rw[aT _ hT en]
  |true=>
  simp only[en,sT,sF,z0,z1,b0,b1] at hT⊢
  cases ey:ak (ig a3) (-32767) with
  |true=>simp only[ey,sT,sF,z0,z1,b0,b1] at hT⊢;rw[aT _ hT rfl]
  |false=>
  simp only[ey,sT,sF,z0,z1,b0,b1] at hT⊢
  cases ez:ak 32767 (ig a3) with
  |true=>simp only[ez,sT,sF,z0,z1,b0,b1] at hT⊢;rw[aT _ hT rfl]
  |false=>
  simp only[ez,sT,sF,z0,z1,b0,b1] at hT⊢;have n0:nrW a3=0:=by rw[aL] at en;exact en
  rw[gY,kV _ _ _ _ _ _ _ _ _ _ _ _ _ _ (by first|exact hT|(rw[hT];first|rfl|assumption))];simp only[gP,gQ,gT,gH,gV,yT,sG,yU,yV,yX,yY,yZ,qZ,qm,jl,jm,jo,y5,I5,E9,E8,en0,nR,sD,r3,hl,show ieq 1 0=false from rfl,show aU 1 1=false from rfl,show aU 2 1=false from rfl,show aU 3 1=false from rfl,ji,e0,e1,e2,e3,e4,e5,e6,e7,ec,c0,en,ey,ez,n0,sT,sF,z0,z1,b0,b1]
 |false=>
 simp only[e3,e4,zo h1,sT,sF,z0,z1,b0,b1] at hT⊢
 cases e5:ieq (dZ a1) 0 with
 |false=>simp only[e5,sT,sF,z0,z1,b0,b1] at hT⊢;rw[aT _ hT e5]
 |true=>
 simp only[e5,sT,sF,z0,z1,b0,b1] at hT⊢;have q0:dZ a1=0:=by rw[aL] at e5;exact e5
 cases ec:ieq (jy a2) 0 with
 |false=>simp only[ec,sT,sF,z0,z1,b0,b1] at hT⊢;rw[aT _ hT ec]
 |true=>
 simp only[ec,sT,sF,z0,z1,b0,b1] at hT⊢;have c0:jy a2=0:=by rw[aL] at ec;exact ec
 cases en:ieq (nrW a3) 0 with
 |false=>simp only[en,sT,sF,z0,z1,b0,b1] at hT⊢;rw[aT _ hT en]
 |true=>
 simp only[en,sT,sF,z0,z1,b0,b1] at hT⊢
 cases ey:ak (ig a3) (-32767) with
 |true=>simp only[ey,sT,sF,z0,z1,b0,b1] at hT⊢;rw[aT _ hT rfl]
 |false=>
 simp only[ey,sT,sF,z0,z1,b0,b1] at hT⊢
 cases ez:ak 32767 (ig a3) with
 |true=>simp only[ez,sT,sF,z0,z1,b0,b1] at hT⊢;rw[aT _ hT rfl]
 |false=>
 simp only[ez,sT,sF,z0,z1,b0,b1] at hT⊢;have n0:nrW a3=0:=by rw[aL] at en;exact en
 rw[gY,kV _ _ _ _ _ _ _ _ _ _ _ _ _ _ (by first|exact hT|(rw[hT];first|rfl|assumption))];simp only[gP,gQ,gT,gH,gV,yT,sG,yU,yV,yX,yY,yZ,qZ,qm,jl,jm,jo,y5,I5,E9,E8,en0,nR,sD,r3,hl,show ieq 1 0=false from rfl,show aU 1 1=false from rfl,show aU 2 1=false from rfl,show aU 3 1=false from rfl,ji,e0,e1,e2,e3,e4,e5,q0,ec,c0,en,ey,ez,n0,sT,sF,z0,z1,b0,b1]
set_option maxHeartbeats 2000000 in
theorem Zf (a0 a1 a2 a3 a4:List UInt8) (h0:ak (au a0) 900=true) (h1:ak (au a1) 900=true) (h2:ak (au a2) 900=true) (h3:ak (au a3) 900=true) (h4:ak (au a4) 900=true):af eE 106 [.sl 9 [.str] none [.str a0,.str a1,.str a2,.str a3,.str a4]] (LJ [.str a0,.str a1,.str a2,.str a3,.str a4]):=by
 refine aj iX Gw 9 10 ?_
 (rw[JO];(conv=>zeta))
 have g1:kT [.str a0,.str a1,.str a2,.str a3,.str a4]=sel (ieq (I6 a0) 0) (sel (ieq (Oj a1) 0) (sel (ieq (jy a2) 0) (y5 [.str a3,.str a4]) (jy a2)) (Oj a1)) (I6 a0):=rfl;have gY:LJ [.str a0,.str a1,.str a2,.str a3,.str a4]=erW [.str a0,.str a1,.str a2,.str a3,.str a4] (eX a0) (Xd a1) (xC a1) (UW a1) a2 (sD [.str a3,.str a4]) (yT [.str a3,.str a4]) (sG [.str a3,.str a4]) (yU [.str a3,.str a4]) (yV [.str a3,.str a4]) (yX [.str a3,.str a4]) (yY [.str a3,.str a4]) (yZ [.str a3,.str a4]):=rfl;have z1:ieq 1 0=false:=rfl;have z0:ieq 0 0=true:=rfl;have b0:aK true=false:=rfl;have b1:aK false=true:=rfl;have r3:rg [.str a3,.str a4] 0=a3:=rfl;have r4:rg [.str a3,.str a4] 1=a4:=rfl;have hl:av [.str a3,.str a4]=2:=rfl;simp only[h0,h1,h2,h3,h4,Gv,sT];have hT:=g1;simp only[I6,sW,gH,y5,I5,E9,E8,en0,nR,sD,r3,r4,hl,show ieq 2 0=false from rfl,show aU 1 2=true from rfl,show aU 2 2=false from rfl,show aU 3 2=false from rfl,ji,sT,sF,z0,z1,b0,b1] at hT
 cases e0:ieq (lH a0) 0 with
 |false=>simp only[e0,sT,sF,z0,z1,b0,b1] at hT⊢;rw[aT _ hT e0]
 |true=>
 simp only[e0,sT,sF,z0,z1,b0,b1] at hT⊢
 cases e1:ak (-54000) (eX a0) with
 |false=>simp only[e1,sT,sF,z0,z1,b0,b1] at hT⊢;rw[aT _ hT rfl]
 |true=>
 simp only[e1,sT,sF,z0,z1,b0,b1] at hT⊢
 cases e2:ak (eX a0) 54000 with
 |false=>simp only[e2,sT,sF,z0,z1,b0,b1] at hT⊢;rw[aT _ hT rfl]
 |true=>
 simp only[e2,sT,sF,z0,z1,b0,b1] at hT⊢
 cases e3:seq a1 [45] with
 |true=>
  simp only[e3,sT,sF,z0,z1,b0,b1] at hT⊢
  cases ec:ieq (jy a2) 0 with
  |false=>simp only[ec,sT,sF,z0,z1,b0,b1] at hT⊢;rw[aT _ hT ec]
  |true=>
  simp only[ec,sT,sF,z0,z1,b0,b1] at hT⊢;have c0:jy a2=0:=by rw[aL] at ec;exact ec
  cases en:ieq (nrW a3) 0 with
  |false=>simp only[en,sT,sF,z0,z1,b0,b1] at hT⊢;rw[aT _ hT en]
  |true=>
  simp only[en,sT,sF,z0,z1,b0,b1] at hT⊢
  cases ey:ak (ig a3) (-32767) with
  |true=>simp only[ey,sT,sF,z0,z1,b0,b1] at hT⊢;rw[aT _ hT rfl]
  |false=>
  simp only[ey,sT,sF,z0,z1,b0,b1] at hT⊢
  cases ez:ak 32767 (ig a3) with
  |true=>simp only[ez,sT,sF,z0,z1,b0,b1] at hT⊢;rw[aT _ hT rfl]
  |false=>
  simp only[ez,sT,sF,z0,z1,b0,b1] at hT⊢
  cases em:ieq (qc a4) 0 with
  |false=>simp only[em,sT,sF,z0,z1,b0,b1] at hT⊢;rw[aT _ hT em]
  |true=>
  simp only[em,sT,sF,z0,z1,b0,b1] at hT⊢;have m0:qc a4=0:=by rw[aL] at em;exact em
  have n0:nrW a3=0:=by rw[aL] at en;exact en
  rw[gY,kV _ _ _ _ _ _ _ _ _ _ _ _ _ _ (by first|exact hT|(rw[hT];first|rfl|assumption))];simp only[gP,gQ,gT,gH,gV,yT,sG,yU,yV,yX,yY,yZ,qZ,qm,jl,jm,jo,y5,I5,E9,E8,en0,nR,sD,r3,r4,hl,show ieq 2 0=false from rfl,show aU 1 2=true from rfl,show aU 2 2=false from rfl,show aU 3 2=false from rfl,ji,e0,e1,e2,e3,ec,c0,en,ey,ez,em,m0,n0,sT,sF,z0,z1,b0,b1]
 |false=>
 cases e4:E7 a1 with
 |true=>
  simp only[e3,e4,sT,sF,z0,z1,b0,b1] at hT⊢
  cases e5:ieq (lH a1) 0 with
  |false=>simp only[e5,sT,sF,z0,z1,b0,b1] at hT⊢;rw[aT _ hT e5]
  |true=>
  simp only[e5,sT,sF,z0,z1,b0,b1] at hT⊢
  cases e6:ak (-10800) (eX a1) with
  |false=>simp only[e6,sT,sF,z0,z1,b0,b1] at hT⊢;rw[aT _ hT rfl]
  |true=>
  simp only[e6,sT,sF,z0,z1,b0,b1] at hT⊢
  cases e7:ak (eX a1) 10800 with
  |false=>simp only[e7,sT,sF,z0,z1,b0,b1] at hT⊢;rw[aT _ hT rfl]
  |true=>
  simp only[e7,sT,sF,z0,z1,b0,b1] at hT⊢
  cases ec:ieq (jy a2) 0 with
  |false=>simp only[ec,sT,sF,z0,z1,b0,b1] at hT⊢;rw[aT _ hT ec]
  |true=>
  simp only[ec,sT,sF,z0,z1,b0,b1] at hT⊢;have c0:jy a2=0:=by rw[aL] at ec;exact ec
  cases en:ieq (nrW a3) 0 with
  |false=>simp only[en,sT,sF,z0,z1,b0,b1] at hT⊢;rw[aT _ hT en]
  |true=>
  simp only[en,sT,sF,z0,z1,b0,b1] at hT⊢
  cases ey:ak (ig a3) (-32767) with
  |true=>simp only[ey,sT,sF,z0,z1,b0,b1] at hT⊢;rw[aT _ hT rfl]
  |false=>
  simp only[ey,sT,sF,z0,z1,b0,b1] at hT⊢
  cases ez:ak 32767 (ig a3) with
  |true=>simp only[ez,sT,sF,z0,z1,b0,b1] at hT⊢;rw[aT _ hT rfl]
  |false=>
  simp only[ez,sT,sF,z0,z1,b0,b1] at hT⊢
  cases em:ieq (qc a4) 0 with
  |false=>simp only[em,sT,sF,z0,z1,b0,b1] at hT⊢;rw[aT _ hT em]
  |true=>
  simp only[em,sT,sF,z0,z1,b0,b1] at hT⊢;have m0:qc a4=0:=by rw[aL] at em;exact em
  have n0:nrW a3=0:=by rw[aL] at en;exact en
  rw[gY,kV _ _ _ _ _ _ _ _ _ _ _ _ _ _ (by first|exact hT|(rw[hT];first|rfl|assumption))];simp only[gP,gQ,gT,gH,gV,yT,sG,yU,yV,yX,yY,yZ,qZ,qm,jl,jm,jo,y5,I5,E9,E8,en0,nR,sD,r3,r4,hl,show ieq 2 0=false from rfl,show aU 1 2=true from rfl,show aU 2 2=false from rfl,show aU 3 2=false from rfl,ji,e0,e1,e2,e3,e4,e5,e6,e7,ec,c0,en,ey,ez,em,m0,n0,sT,sF,z0,z1,b0,b1]
 |false=>
 simp only[e3,e4,zo h1,sT,sF,z0,z1,b0,b1] at hT⊢
 cases e5:ieq (dZ a1) 0 with
 |false=>simp only[e5,sT,sF,z0,z1,b0,b1] at hT⊢;rw[aT _ hT e5]
 |true=>
 simp only[e5,sT,sF,z0,z1,b0,b1] at hT⊢;have q0:dZ a1=0:=by rw[aL] at e5;exact e5
 cases ec:ieq (jy a2) 0 with
 |false=>simp only[ec,sT,sF,z0,z1,b0,b1] at hT⊢;rw[aT _ hT ec]
 |true=>
 simp only[ec,sT,sF,z0,z1,b0,b1] at hT⊢;have c0:jy a2=0:=by rw[aL] at ec;exact ec
 cases en:ieq (nrW a3) 0 with
 |false=>simp only[en,sT,sF,z0,z1,b0,b1] at hT⊢;rw[aT _ hT en]
 |true=>
 simp only[en,sT,sF,z0,z1,b0,b1] at hT⊢
 cases ey:ak (ig a3) (-32767) with
 |true=>simp only[ey,sT,sF,z0,z1,b0,b1] at hT⊢;rw[aT _ hT rfl]
 |false=>
 simp only[ey,sT,sF,z0,z1,b0,b1] at hT⊢
 cases ez:ak 32767 (ig a3) with
 |true=>simp only[ez,sT,sF,z0,z1,b0,b1] at hT⊢;rw[aT _ hT rfl]
 |false=>
 simp only[ez,sT,sF,z0,z1,b0,b1] at hT⊢
 cases em:ieq (qc a4) 0 with
 |false=>simp only[em,sT,sF,z0,z1,b0,b1] at hT⊢;rw[aT _ hT em]
 |true=>
 simp only[em,sT,sF,z0,z1,b0,b1] at hT⊢;have m0:qc a4=0:=by rw[aL] at em;exact em
 have n0:nrW a3=0:=by rw[aL] at en;exact en
 rw[gY,kV _ _ _ _ _ _ _ _ _ _ _ _ _ _ (by first|exact hT|(rw[hT];first|rfl|assumption))];simp only[gP,gQ,gT,gH,gV,yT,sG,yU,yV,yX,yY,yZ,qZ,qm,jl,jm,jo,y5,I5,E9,E8,en0,nR,sD,r3,r4,hl,show ieq 2 0=false from rfl,show aU 1 2=true from rfl,show aU 2 2=false from rfl,show aU 3 2=false from rfl,ji,e0,e1,e2,e3,e4,e5,q0,ec,c0,en,ey,ez,em,m0,n0,sT,sF,z0,z1,b0,b1]
set_option maxHeartbeats 2000000 in
theorem Zg (a0 a1 a2 a3 a4 a5:List UInt8) (h0:ak (au a0) 900=true) (h1:ak (au a1) 900=true) (h2:ak (au a2) 900=true) (h3:ak (au a3) 900=true) (h4:ak (au a4) 900=true) (h5:ak (au a5) 900=true):af eE 106 [.sl 9 [.str] none [.str a0,.str a1,.str a2,.str a3,.str a4,.str a5]] (LJ [.str a0,.str a1,.str a2,.str a3,.str a4,.str a5]):=by
 refine aj iX Gw 9 10 ?_
 (rw[JP];(conv=>zeta))
 have g1:kT [.str a0,.str a1,.str a2,.str a3,.str a4,.str a5]=sel (ieq (I6 a0) 0) (sel (ieq (Oj a1) 0) (sel (ieq (jy a2) 0) (y5 [.str a3,.str a4,.str a5]) (jy a2)) (Oj a1)) (I6 a0):=rfl;have gY:LJ [.str a0,.str a1,.str a2,.str a3,.str a4,.str a5]=erW [.str a0,.str a1,.str a2,.str a3,.str a4,.str a5] (eX a0) (Xd a1) (xC a1) (UW a1) a2 (sD [.str a3,.str a4,.str a5]) (yT [.str a3,.str a4,.str a5]) (sG [.str a3,.str a4,.str a5]) (yU [.str a3,.str a4,.str a5]) (yV [.str a3,.str a4,.str a5]) (yX [.str a3,.str a4,.str a5]) (yY [.str a3,.str a4,.str a5]) (yZ [.str a3,.str a4,.str a5]):=rfl;have z1:ieq 1 0=false:=rfl;have z0:ieq 0 0=true:=rfl;have b0:aK true=false:=rfl;have b1:aK false=true:=rfl;have r3:rg [.str a3,.str a4,.str a5] 0=a3:=rfl;have r4:rg [.str a3,.str a4,.str a5] 1=a4:=rfl;have r5:rg [.str a3,.str a4,.str a5] 2=a5:=rfl;have hl:av [.str a3,.str a4,.str a5]=3:=rfl;simp only[h0,h1,h2,h3,h4,h5,Gv,sT];have hT:=g1;simp only[I6,sW,gH,y5,I5,E9,E8,en0,nR,sD,r3,r4,r5,hl,show ieq 3 0=false from rfl,show aU 1 3=true from rfl,show aU 2 3=true from rfl,show aU 3 3=false from rfl,ji,sT,sF,z0,z1,b0,b1] at hT
 cases e0:ieq (lH a0) 0 with
 |false=>simp only[e0,sT,sF,z0,z1,b0,b1] at hT⊢;rw[aT _ hT e0]
 |true=>
 simp only[e0,sT,sF,z0,z1,b0,b1] at hT⊢
 cases e1:ak (-54000) (eX a0) with
 |false=>simp only[e1,sT,sF,z0,z1,b0,b1] at hT⊢;rw[aT _ hT rfl]
 |true=>
 simp only[e1,sT,sF,z0,z1,b0,b1] at hT⊢
 cases e2:ak (eX a0) 54000 with
 |false=>simp only[e2,sT,sF,z0,z1,b0,b1] at hT⊢;rw[aT _ hT rfl]
 |true=>
 simp only[e2,sT,sF,z0,z1,b0,b1] at hT⊢
 cases e3:seq a1 [45] with
 |true=>
  simp only[e3,sT,sF,z0,z1,b0,b1] at hT⊢
  cases ec:ieq (jy a2) 0 with
  |false=>simp only[ec,sT,sF,z0,z1,b0,b1] at hT⊢;rw[aT _ hT ec]
  |true=>
  simp only[ec,sT,sF,z0,z1,b0,b1] at hT⊢;have c0:jy a2=0:=by rw[aL] at ec;exact ec
  cases en:ieq (nrW a3) 0 with
  |false=>simp only[en,sT,sF,z0,z1,b0,b1] at hT⊢;rw[aT _ hT en]
  |true=>
  simp only[en,sT,sF,z0,z1,b0,b1] at hT⊢
  cases ey:ak (ig a3) (-32767) with
  |true=>simp only[ey,sT,sF,z0,z1,b0,b1] at hT⊢;rw[aT _ hT rfl]
  |false=>
  simp only[ey,sT,sF,z0,z1,b0,b1] at hT⊢
  cases ez:ak 32767 (ig a3) with
  |true=>simp only[ez,sT,sF,z0,z1,b0,b1] at hT⊢;rw[aT _ hT rfl]
  |false=>
  simp only[ez,sT,sF,z0,z1,b0,b1] at hT⊢
  cases em:ieq (qc a4) 0 with
  |false=>simp only[em,sT,sF,z0,z1,b0,b1] at hT⊢;rw[aT _ hT em]
  |true=>
  simp only[em,sT,sF,z0,z1,b0,b1] at hT⊢
  cases ed:ieq (sw a5) 0 with
  |false=>simp only[ed,sT,sF,z0,z1,b0,b1] at hT⊢;rw[aT _ hT ed]
  |true=>
  simp only[ed,sT,sF,z0,z1,b0,b1] at hT⊢
  cases ef:qf (qX a5) (iD a5) (qY a5) (uz a4) with
  |false=>simp only[ef,sT,sF,z0,z1,b0,b1] at hT⊢;rw[aT _ hT rfl]
  |true=>
  simp only[ef,sT,sF,z0,z1,b0,b1] at hT⊢;have m0:qc a4=0:=by rw[aL] at em;exact em
  have n0:nrW a3=0:=by rw[aL] at en;exact en
  rw[gY,kV _ _ _ _ _ _ _ _ _ _ _ _ _ _ (by first|exact hT|(rw[hT];first|rfl|assumption))];simp only[gP,gQ,gT,gH,gV,yT,sG,yU,yV,yX,yY,yZ,qZ,qm,jl,jm,jo,y5,I5,E9,E8,en0,nR,sD,r3,r4,r5,hl,show ieq 3 0=false from rfl,show aU 1 3=true from rfl,show aU 2 3=true from rfl,show aU 3 3=false from rfl,ji,e0,e1,e2,e3,ec,c0,en,ey,ez,em,ed,ef,m0,n0,sT,sF,z0,z1,b0,b1]
 |false=>
 cases e4:E7 a1 with
 |true=>
  simp only[e3,e4,sT,sF,z0,z1,b0,b1] at hT⊢
  cases e5:ieq (lH a1) 0 with
  |false=>simp only[e5,sT,sF,z0,z1,b0,b1] at hT⊢;rw[aT _ hT e5]
  |true=>
  simp only[e5,sT,sF,z0,z1,b0,b1] at hT⊢
  cases e6:ak (-10800) (eX a1) with
  |false=>simp only[e6,sT,sF,z0,z1,b0,b1] at hT⊢;rw[aT _ hT rfl]
  |true=>
  simp only[e6,sT,sF,z0,z1,b0,b1] at hT⊢
  cases e7:ak (eX a1) 10800 with
  |false=>simp only[e7,sT,sF,z0,z1,b0,b1] at hT⊢;rw[aT _ hT rfl]
  |true=>
  simp only[e7,sT,sF,z0,z1,b0,b1] at hT⊢
  cases ec:ieq (jy a2) 0 with
  |false=>simp only[ec,sT,sF,z0,z1,b0,b1] at hT⊢;rw[aT _ hT ec]
  |true=>
  simp only[ec,sT,sF,z0,z1,b0,b1] at hT⊢;have c0:jy a2=0:=by rw[aL] at ec;exact ec
  cases en:ieq (nrW a3) 0 with
  |false=>simp only[en,sT,sF,z0,z1,b0,b1] at hT⊢;rw[aT _ hT en]
  |true=>
  simp only[en,sT,sF,z0,z1,b0,b1] at hT⊢
  cases ey:ak (ig a3) (-32767) with
  |true=>simp only[ey,sT,sF,z0,z1,b0,b1] at hT⊢;rw[aT _ hT rfl]
  |false=>
  simp only[ey,sT,sF,z0,z1,b0,b1] at hT⊢
  cases ez:ak 32767 (ig a3) with
  |true=>simp only[ez,sT,sF,z0,z1,b0,b1] at hT⊢;rw[aT _ hT rfl]
  |false=>
  simp only[ez,sT,sF,z0,z1,b0,b1] at hT⊢
  cases em:ieq (qc a4) 0 with
  |false=>simp only[em,sT,sF,z0,z1,b0,b1] at hT⊢;rw[aT _ hT em]
  |true=>
  simp only[em,sT,sF,z0,z1,b0,b1] at hT⊢
  cases ed:ieq (sw a5) 0 with
  |false=>simp only[ed,sT,sF,z0,z1,b0,b1] at hT⊢;rw[aT _ hT ed]
  |true=>
  simp only[ed,sT,sF,z0,z1,b0,b1] at hT⊢
  cases ef:qf (qX a5) (iD a5) (qY a5) (uz a4) with
  |false=>simp only[ef,sT,sF,z0,z1,b0,b1] at hT⊢;rw[aT _ hT rfl]
  |true=>
  simp only[ef,sT,sF,z0,z1,b0,b1] at hT⊢;have m0:qc a4=0:=by rw[aL] at em;exact em
  have n0:nrW a3=0:=by rw[aL] at en;exact en
  rw[gY,kV _ _ _ _ _ _ _ _ _ _ _ _ _ _ (by first|exact hT|(rw[hT];first|rfl|assumption))];simp only[gP,gQ,gT,gH,gV,yT,sG,yU,yV,yX,yY,yZ,qZ,qm,jl,jm,jo,y5,I5,E9,E8,en0,nR,sD,r3,r4,r5,hl,show ieq 3 0=false from rfl,show aU 1 3=true from rfl,show aU 2 3=true from rfl,show aU 3 3=false from rfl,ji,e0,e1,e2,e3,e4,e5,e6,e7,ec,c0,en,ey,ez,em,ed,ef,m0,n0,sT,sF,z0,z1,b0,b1]
 |false=>
 simp only[e3,e4,zo h1,sT,sF,z0,z1,b0,b1] at hT⊢
 cases e5:ieq (dZ a1) 0 with
 |false=>simp only[e5,sT,sF,z0,z1,b0,b1] at hT⊢;rw[aT _ hT e5]
 |true=>
 simp only[e5,sT,sF,z0,z1,b0,b1] at hT⊢;have q0:dZ a1=0:=by rw[aL] at e5;exact e5
 cases ec:ieq (jy a2) 0 with
 |false=>simp only[ec,sT,sF,z0,z1,b0,b1] at hT⊢;rw[aT _ hT ec]
 |true=>
 simp only[ec,sT,sF,z0,z1,b0,b1] at hT⊢;have c0:jy a2=0:=by rw[aL] at ec;exact ec
 cases en:ieq (nrW a3) 0 with
 |false=>simp only[en,sT,sF,z0,z1,b0,b1] at hT⊢;rw[aT _ hT en]
 |true=>
 simp only[en,sT,sF,z0,z1,b0,b1] at hT⊢
 cases ey:ak (ig a3) (-32767) with
 |true=>simp only[ey,sT,sF,z0,z1,b0,b1] at hT⊢;rw[aT _ hT rfl]
 |false=>
 simp only[ey,sT,sF,z0,z1,b0,b1] at hT⊢
 cases ez:ak 32767 (ig a3) with
 |true=>simp only[ez,sT,sF,z0,z1,b0,b1] at hT⊢;rw[aT _ hT rfl]
 |false=>
 simp only[ez,sT,sF,z0,z1,b0,b1] at hT⊢
 cases em:ieq (qc a4) 0 with
 |false=>simp only[em,sT,sF,z0,z1,b0,b1] at hT⊢;rw[aT _ hT em]
 |true=>
 simp only[em,sT,sF,z0,z1,b0,b1] at hT⊢
 cases ed:ieq (sw a5) 0 with
 |false=>simp only[ed,sT,sF,z0,z1,b0,b1] at hT⊢;rw[aT _ hT ed]
 |true=>
 simp only[ed,sT,sF,z0,z1,b0,b1] at hT⊢
 cases ef:qf (qX a5) (iD a5) (qY a5) (uz a4) with
 |false=>simp only[ef,sT,sF,z0,z1,b0,b1] at hT⊢;rw[aT _ hT rfl]
 |true=>
 simp only[ef,sT,sF,z0,z1,b0,b1] at hT⊢;have m0:qc a4=0:=by rw[aL] at em;exact em
 have n0:nrW a3=0:=by rw[aL] at en;exact en
 rw[gY,kV _ _ _ _ _ _ _ _ _ _ _ _ _ _ (by first|exact hT|(rw[hT];first|rfl|assumption))];simp only[gP,gQ,gT,gH,gV,yT,sG,yU,yV,yX,yY,yZ,qZ,qm,jl,jm,jo,y5,I5,E9,E8,en0,nR,sD,r3,r4,r5,hl,show ieq 3 0=false from rfl,show aU 1 3=true from rfl,show aU 2 3=true from rfl,show aU 3 3=false from rfl,ji,e0,e1,e2,e3,e4,e5,q0,ec,c0,en,ey,ez,em,ed,ef,m0,n0,sT,sF,z0,z1,b0,b1]
set_option maxHeartbeats 2000000 in
theorem Zh (a0 a1 a2 a3 a4 a5 a6:List UInt8) (h0:ak (au a0) 900=true) (h1:ak (au a1) 900=true) (h2:ak (au a2) 900=true) (h3:ak (au a3) 900=true) (h4:ak (au a4) 900=true) (h5:ak (au a5) 900=true) (h6:ak (au a6) 900=true):af eE 106 [.sl 9 [.str] none [.str a0,.str a1,.str a2,.str a3,.str a4,.str a5,.str a6]] (LJ [.str a0,.str a1,.str a2,.str a3,.str a4,.str a5,.str a6]):=by
 refine aj iX Gw 9 10 ?_
 (rw[JQ];(conv=>zeta))
 have g1:kT [.str a0,.str a1,.str a2,.str a3,.str a4,.str a5,.str a6]=sel (ieq (I6 a0) 0) (sel (ieq (Oj a1) 0) (sel (ieq (jy a2) 0) (y5 [.str a3,.str a4,.str a5,.str a6]) (jy a2)) (Oj a1)) (I6 a0):=rfl;have gY:LJ [.str a0,.str a1,.str a2,.str a3,.str a4,.str a5,.str a6]=erW [.str a0,.str a1,.str a2,.str a3,.str a4,.str a5,.str a6] (eX a0) (Xd a1) (xC a1) (UW a1) a2 (sD [.str a3,.str a4,.str a5,.str a6]) (yT [.str a3,.str a4,.str a5,.str a6]) (sG [.str a3,.str a4,.str a5,.str a6]) (yU [.str a3,.str a4,.str a5,.str a6]) (yV [.str a3,.str a4,.str a5,.str a6]) (yX [.str a3,.str a4,.str a5,.str a6]) (yY [.str a3,.str a4,.str a5,.str a6]) (yZ [.str a3,.str a4,.str a5,.str a6]):=rfl;have z1:ieq 1 0=false:=rfl;have z0:ieq 0 0=true:=rfl;have b0:aK true=false:=rfl;have b1:aK false=true:=rfl;have r3:rg [.str a3,.str a4,.str a5,.str a6] 0=a3:=rfl;have r4:rg [.str a3,.str a4,.str a5,.str a6] 1=a4:=rfl;have r5:rg [.str a3,.str a4,.str a5,.str a6] 2=a5:=rfl;have r6:rg [.str a3,.str a4,.str a5,.str a6] 3=a6:=rfl;have hl:av [.str a3,.str a4,.str a5,.str a6]=4:=rfl;simp only[h0,h1,h2,h3,h4,h5,h6,Gv,sT];have hT:=g1;simp only[I6,sW,gH,y5,I5,E9,E8,en0,nR,sD,r3,r4,r5,r6,hl,show ieq 4 0=false from rfl,show aU 1 4=true from rfl,show aU 2 4=true from rfl,show aU 3 4=true from rfl,ji,sT,sF,z0,z1,b0,b1] at hT
 cases e0:ieq (lH a0) 0 with
 |false=>simp only[e0,sT,sF,z0,z1,b0,b1] at hT⊢;rw[aT _ hT e0]
 |true=>
 simp only[e0,sT,sF,z0,z1,b0,b1] at hT⊢
 cases e1:ak (-54000) (eX a0) with
 |false=>simp only[e1,sT,sF,z0,z1,b0,b1] at hT⊢;rw[aT _ hT rfl]
 |true=>
 simp only[e1,sT,sF,z0,z1,b0,b1] at hT⊢
 cases e2:ak (eX a0) 54000 with
 |false=>simp only[e2,sT,sF,z0,z1,b0,b1] at hT⊢;rw[aT _ hT rfl]
 |true=>
 simp only[e2,sT,sF,z0,z1,b0,b1] at hT⊢
 cases e3:seq a1 [45] with
 |true=>
  simp only[e3,sT,sF,z0,z1,b0,b1] at hT⊢
  cases ec:ieq (jy a2) 0 with
  |false=>simp only[ec,sT,sF,z0,z1,b0,b1] at hT⊢;rw[aT _ hT ec]
  |true=>
  simp only[ec,sT,sF,z0,z1,b0,b1] at hT⊢;have c0:jy a2=0:=by rw[aL] at ec;exact ec
  cases en:ieq (nrW a3) 0 with
  |false=>simp only[en,sT,sF,z0,z1,b0,b1] at hT⊢;rw[aT _ hT en]
  |true=>
  simp only[en,sT,sF,z0,z1,b0,b1] at hT⊢
  cases ey:ak (ig a3) (-32767) with
  |true=>simp only[ey,sT,sF,z0,z1,b0,b1] at hT⊢;rw[aT _ hT rfl]
  |false=>
  simp only[ey,sT,sF,z0,z1,b0,b1] at hT⊢
  cases ez:ak 32767 (ig a3) with
  |true=>simp only[ez,sT,sF,z0,z1,b0,b1] at hT⊢;rw[aT _ hT rfl]
  |false=>
  simp only[ez,sT,sF,z0,z1,b0,b1] at hT⊢
  cases em:ieq (qc a4) 0 with
  |false=>simp only[em,sT,sF,z0,z1,b0,b1] at hT⊢;rw[aT _ hT em]
  |true=>
  simp only[em,sT,sF,z0,z1,b0,b1] at hT⊢
  cases ed:ieq (sw a5) 0 with
  |false=>simp only[ed,sT,sF,z0,z1,b0,b1] at hT⊢;rw[aT _ hT ed]
  |true=>
  simp only[ed,sT,sF,z0,z1,b0,b1] at hT⊢
  cases ef:qf (qX a5) (iD a5) (qY a5) (uz a4) with
  |false=>simp only[ef,sT,sF,z0,z1,b0,b1] at hT⊢;rw[aT _ hT rfl]
  |true=>
  simp only[ef,sT,sF,z0,z1,b0,b1] at hT⊢
  cases ek:ieq (yR a6) 0 with
  |false=>simp only[ek,sT,sF,z0,z1,b0,b1] at hT⊢;rw[aT _ hT ek]
  |true=>
  simp only[ek,sT,sF,z0,z1,b0,b1] at hT⊢;have k0:yR a6=0:=by rw[aL] at ek;exact ek
  have m0:qc a4=0:=by rw[aL] at em;exact em
  have n0:nrW a3=0:=by rw[aL] at en;exact en
  rw[gY,kV _ _ _ _ _ _ _ _ _ _ _ _ _ _ (by first|exact hT|(rw[hT];first|rfl|assumption))];simp only[gP,gQ,gT,gH,gV,yT,sG,yU,yV,yX,yY,yZ,qZ,qm,jl,jm,jo,y5,I5,E9,E8,en0,nR,sD,r3,r4,r5,r6,hl,show ieq 4 0=false from rfl,show aU 1 4=true from rfl,show aU 2 4=true from rfl,show aU 3 4=true from rfl,ji,e0,e1,e2,e3,ec,c0,en,ey,ez,em,ed,ef,ek,k0,m0,n0,sT,sF,z0,z1,b0,b1]
 |false=>
 cases e4:E7 a1 with
 |true=>
  simp only[e3,e4,sT,sF,z0,z1,b0,b1] at hT⊢
  cases e5:ieq (lH a1) 0 with
  |false=>simp only[e5,sT,sF,z0,z1,b0,b1] at hT⊢;rw[aT _ hT e5]
  |true=>
  simp only[e5,sT,sF,z0,z1,b0,b1] at hT⊢
  cases e6:ak (-10800) (eX a1) with
  |false=>simp only[e6,sT,sF,z0,z1,b0,b1] at hT⊢;rw[aT _ hT rfl]
  |true=>
  simp only[e6,sT,sF,z0,z1,b0,b1] at hT⊢
  cases e7:ak (eX a1) 10800 with
  |false=>simp only[e7,sT,sF,z0,z1,b0,b1] at hT⊢;rw[aT _ hT rfl]
  |true=>
  simp only[e7,sT,sF,z0,z1,b0,b1] at hT⊢
  cases ec:ieq (jy a2) 0 with
  |false=>simp only[ec,sT,sF,z0,z1,b0,b1] at hT⊢;rw[aT _ hT ec]
  |true=>
  simp only[ec,sT,sF,z0,z1,b0,b1] at hT⊢;have c0:jy a2=0:=by rw[aL] at ec;exact ec
  cases en:ieq (nrW a3) 0 with
  |false=>simp only[en,sT,sF,z0,z1,b0,b1] at hT⊢;rw[aT _ hT en]
  |true=>
  simp only[en,sT,sF,z0,z1,b0,b1] at hT⊢
  cases ey:ak (ig a3) (-32767) with
  |true=>simp only[ey,sT,sF,z0,z1,b0,b1] at hT⊢;rw[aT _ hT rfl]
  |false=>
  simp only[ey,sT,sF,z0,z1,b0,b1] at hT⊢
  cases ez:ak 32767 (ig a3) with
  |true=>simp only[ez,sT,sF,z0,z1,b0,b1] at hT⊢;rw[aT _ hT rfl]
  |false=>
  simp only[ez,sT,sF,z0,z1,b0,b1] at hT⊢
  cases em:ieq (qc a4) 0 with
  |false=>simp only[em,sT,sF,z0,z1,b0,b1] at hT⊢;rw[aT _ hT em]
  |true=>
  simp only[em,sT,sF,z0,z1,b0,b1] at hT⊢
  cases ed:ieq (sw a5) 0 with
  |false=>simp only[ed,sT,sF,z0,z1,b0,b1] at hT⊢;rw[aT _ hT ed]
  |true=>
  simp only[ed,sT,sF,z0,z1,b0,b1] at hT⊢
  cases ef:qf (qX a5) (iD a5) (qY a5) (uz a4) with
  |false=>simp only[ef,sT,sF,z0,z1,b0,b1] at hT⊢;rw[aT _ hT rfl]
  |true=>
  simp only[ef,sT,sF,z0,z1,b0,b1] at hT⊢
  cases ek:ieq (yR a6) 0 with
  |false=>simp only[ek,sT,sF,z0,z1,b0,b1] at hT⊢;rw[aT _ hT ek]
  |true=>
  simp only[ek,sT,sF,z0,z1,b0,b1] at hT⊢;have k0:yR a6=0:=by rw[aL] at ek;exact ek
  have m0:qc a4=0:=by rw[aL] at em;exact em
  have n0:nrW a3=0:=by rw[aL] at en;exact en
  rw[gY,kV _ _ _ _ _ _ _ _ _ _ _ _ _ _ (by first|exact hT|(rw[hT];first|rfl|assumption))];simp only[gP,gQ,gT,gH,gV,yT,sG,yU,yV,yX,yY,yZ,qZ,qm,jl,jm,jo,y5,I5,E9,E8,en0,nR,sD,r3,r4,r5,r6,hl,show ieq 4 0=false from rfl,show aU 1 4=true from rfl,show aU 2 4=true from rfl,show aU 3 4=true from rfl,ji,e0,e1,e2,e3,e4,e5,e6,e7,ec,c0,en,ey,ez,em,ed,ef,ek,k0,m0,n0,sT,sF,z0,z1,b0,b1]
 |false=>
 simp only[e3,e4,zo h1,sT,sF,z0,z1,b0,b1] at hT⊢
 cases e5:ieq (dZ a1) 0 with
 |false=>simp only[e5,sT,sF,z0,z1,b0,b1] at hT⊢;rw[aT _ hT e5]
 |true=>
 simp only[e5,sT,sF,z0,z1,b0,b1] at hT⊢;have q0:dZ a1=0:=by rw[aL] at e5;exact e5
 cases ec:ieq (jy a2) 0 with
 |false=>simp only[ec,sT,sF,z0,z1,b0,b1] at hT⊢;rw[aT _ hT ec]
 |true=>
 simp only[ec,sT,sF,z0,z1,b0,b1] at hT⊢;have c0:jy a2=0:=by rw[aL] at ec;exact ec
 cases en:ieq (nrW a3) 0 with
 |false=>simp only[en,sT,sF,z0,z1,b0,b1] at hT⊢;rw[aT _ hT en]
 |true=>
 simp only[en,sT,sF,z0,z1,b0,b1] at hT⊢
 cases ey:ak (ig a3) (-32767) with
 |true=>simp only[ey,sT,sF,z0,z1,b0,b1] at hT⊢;rw[aT _ hT rfl]
 |false=>
 simp only[ey,sT,sF,z0,z1,b0,b1] at hT⊢
 cases ez:ak 32767 (ig a3) with
 |true=>simp only[ez,sT,sF,z0,z1,b0,b1] at hT⊢;rw[aT _ hT rfl]
 |false=>
 simp only[ez,sT,sF,z0,z1,b0,b1] at hT⊢
 cases em:ieq (qc a4) 0 with
 |false=>simp only[em,sT,sF,z0,z1,b0,b1] at hT⊢;rw[aT _ hT em]
 |true=>
 simp only[em,sT,sF,z0,z1,b0,b1] at hT⊢
 cases ed:ieq (sw a5) 0 with
 |false=>simp only[ed,sT,sF,z0,z1,b0,b1] at hT⊢;rw[aT _ hT ed]
 |true=>
 simp only[ed,sT,sF,z0,z1,b0,b1] at hT⊢
 cases ef:qf (qX a5) (iD a5) (qY a5) (uz a4) with
 |false=>simp only[ef,sT,sF,z0,z1,b0,b1] at hT⊢;rw[aT _ hT rfl]
 |true=>
 simp only[ef,sT,sF,z0,z1,b0,b1] at hT⊢
 cases ek:ieq (yR a6) 0 with
 |false=>simp only[ek,sT,sF,z0,z1,b0,b1] at hT⊢;rw[aT _ hT ek]
 |true=>
 simp only[ek,sT,sF,z0,z1,b0,b1] at hT⊢;have k0:yR a6=0:=by rw[aL] at ek;exact ek
 have m0:qc a4=0:=by rw[aL] at em;exact em
 have n0:nrW a3=0:=by rw[aL] at en;exact en
 rw[gY,kV _ _ _ _ _ _ _ _ _ _ _ _ _ _ (by first|exact hT|(rw[hT];first|rfl|assumption))];simp only[gP,gQ,gT,gH,gV,yT,sG,yU,yV,yX,yY,yZ,qZ,qm,jl,jm,jo,y5,I5,E9,E8,en0,nR,sD,r3,r4,r5,r6,hl,show ieq 4 0=false from rfl,show aU 1 4=true from rfl,show aU 2 4=true from rfl,show aU 3 4=true from rfl,ji,e0,e1,e2,e3,e4,e5,q0,ec,c0,en,ey,ez,em,ed,ef,ek,k0,m0,n0,sT,sF,z0,z1,b0,b1]
theorem UC (xs:List V) (h:gB xs=true):af eE 106 [.sl 9 [.str] none xs] (LJ xs):=by
 by_cases h1:av xs<3
 ·refine aj iX eSn_ok 5 10 ?_
  rw[Ll,aB (by first|exact bE h1|(rw[bZ,ay];omega)),aT xs (e:=5) (by unfold kT;rw[bE h1];rfl) rfl]
 by_cases h2:7<av xs
 ·refine aj iX eSn_ok 5 10 ?_
  rw[Ll,aW (by first|exact bD (by omega)|(rw[bB (show 3≤av xs by omega)];rfl)),aB (by first|exact bE h2|(rw[bZ,ay];omega)),aT xs (e:=6) (by unfold kT;rw[bD (by omega),bE h2];rfl) rfl]
 obtain⟨l,rfl,ha⟩:=wT xs h;rw[aA,List.length_map] at h1 h2;match l,h1,h2,ha with
 |[],h1,_,_=>exact absurd h1 (by simp)
 |[_],h1,_,_=>exact absurd h1 (by simp)
 |[_,_],h1,_,_=>exact absurd h1 (by simp)
 |[a0,a1,a2],_,_,ha=>exact Zd a0 a1 a2 (ha _ (by simp)) (ha _ (by simp)) (ha _ (by simp))
 |[a0,a1,a2,a3],_,_,ha=>exact Ze a0 a1 a2 a3 (ha _ (by simp)) (ha _ (by simp)) (ha _ (by simp)) (ha _ (by simp))
 |[a0,a1,a2,a3,a4],_,_,ha=>exact Zf a0 a1 a2 a3 a4 (ha _ (by simp)) (ha _ (by simp)) (ha _ (by simp)) (ha _ (by simp)) (ha _ (by simp))
 |[a0,a1,a2,a3,a4,a5],_,_,ha=>exact Zg a0 a1 a2 a3 a4 a5 (ha _ (by simp)) (ha _ (by simp)) (ha _ (by simp)) (ha _ (by simp)) (ha _ (by simp)) (ha _ (by simp))
 |[a0,a1,a2,a3,a4,a5,a6],_,_,ha=>exact Zh a0 a1 a2 a3 a4 a5 a6 (ha _ (by simp)) (ha _ (by simp)) (ha _ (by simp)) (ha _ (by simp)) (ha _ (by simp)) (ha _ (by simp)) (ha _ (by simp))
 |_::_::_::_::_::_::_::_::_,_,h2,_=>exact absurd h2 (by simp;omega)
def enR (h:Bool) (y m ok ow od c b:Int):Bool:=sel h (aU (-32767) y&&(aU y 32767&&(qf ok ow od m&&iq c b))) (ai (ieq y 0) (ai (ieq m 0) (ai (ai (ieq ok 0) (ai (ieq ow 0) (ieq od 0))) (ai (ieq c 0) (ieq b 0)))))
def z8 (o k v:Int) (r q:List UInt8) (h:Bool) (y m ok ow od c b:Int):Bool:=ak (-54000) o&&(ak o 54000&&(ieq (jy q) 0&&(enR h y m ok ow od c b&&sel (ieq k 0) (ieq v 0&&seq r []) (sel (ieq k 1) (ak (-10800) v&&(ak v 10800&&seq r [])) (sel (ieq k 2) (ieq v 0&&ieq (dZ r) 0) false)))))
theorem vY {E:Env} {f:Nat} {args:List V} {e:Nat} {sh:List Kd} {L:Nat} {xs:List V} {y:V} (h:af E f args (.tup [.sl e sh (some L) xs,y])):af E f args (.tup [.sl e sh none xs,y]):=by
 intro G w vs hG hg hp;refine(h G w vs hG hg hp).mono ?_;rintro e' w' ⟨v,G',rfl,hn,a,rfl,hpw,hc⟩;refine⟨_,G',rfl,hn,a,rfl,?_,?_⟩
 ·match a,hpw with
  |[],hpw=>exact absurd hpw.1 (by simp)
  |u::us,hpw=>
   refine .cons ?_ hpw.tail;have h1:=hpw.head;show aO G' _ _;refine nI ?_;rcases h1.2 with⟨hu,hx⟩|⟨b,cap,cur,l,hv,_,_,hcap,_,_,hG,hl,hE⟩
   ·exact .inl ⟨hu,hx⟩
   ·exact .inr ⟨b,cap,l,hv,hcap,hG,hl,hE⟩
 ·simp only[List.countP_cons,List.countP_nil,sH] at hc⊢
  split<;>simp
theorem BZ {E:Env} {S:List (Nat×aG)} {f:Nat} {args:List V} {e:Nat} {sh:List Kd} {L:Nat} {xs:List V} {y:V} (hE:tY E) (hS:bn E S) (fuel d:Nat)
  (h:bW E (bT E S fuel d) fuel f args some=some (.tup [.sl e sh (some L) xs,y])∨bW E (bT E S fuel d) fuel f args some=some (.tup [.sl e sh none xs,y])):af E f args (.tup [.sl e sh none xs,y]):=
 h.elim (fun h=>vY (aj hE hS fuel d h)) (fun h=>aj hE hS fuel d h)
def Sg (k v:Int) (r:List UInt8):List UInt8:=sel (ieq k 0) [45] (sel (ieq k 1) (zY v) r)
def JY (h:Bool) (y m ok ow od c b:Int):List V:=sel h (sel (ai (ieq c 0) (ieq b 0)) (sel (ai (ieq ok 0) (ai (ieq ow 0) (ieq od 1))) (sel (ieq m 1) [.str (text y)] [.str (text y),.str (qd m)]) [.str (text y),.str (qd m),.str (fe ok ow od)]) [.str (text y),.str (qd m),.str (fe ok ow od),.str (zX c b)]) []
def Si (o k v:Int) (r q:List UInt8) (h:Bool) (y m ok ow od c b:Int):List V:=.str (zY o)::.str (Sg k v r)::.str q::JY h y m ok ow od c b
def RN (o k v:Int) (r q:List UInt8) (h:Bool) (y m ok ow od c b:Int):List V:=sel (z8 o k v r q h y m ok ow od c b) (Si o k v r q h y m ok ow od c b) []
def efE (o k v:Int) (r q:List UInt8) (h:Bool) (y m ok ow od c b:Int):Int:=sel (z8 o k v r q h y m ok ow od c b) 0 4
theorem erR_k (o k v:Int) (r q:List UInt8) (h:Bool) (y m ok ow od c b:Int) (hR:z8 o k v r q h y m ok ow od c b=true):k=0∨k=1∨k=2:=by
 unfold z8 at hR;simp only[Bool.and_eq_true] at hR;obtain⟨_,_,_,_,h⟩:=hR;by_cases h0:k=0
 ·exact .inl h0
 by_cases h1:k=1
 ·exact .inr (.inl h1)
 by_cases h2:k=2
 ·exact .inr (.inr h2)
 rw[bQ h0,bQ h1,bQ h2] at h
 cases h
theorem ftB_mm {k w d m:Int} (h:qf k w d m=true):1≤m∧m≤12:=by
 unfold qf at h;rw[Bool.and_eq_true,decide_eq_true_eq] at h;exact⟨h.2.1,h.2.2.1⟩
theorem le_dec {a b:Int} (h:decide (a≤b)=true):a≤b:=of_decide_eq_true h
theorem num_head {c:UInt8} {t:List UInt8} (h:isDigit c=true):E7 (c::t)=true:=by
 unfold isDigit at h
 cases t with
 |nil=>exact h
 |cons d t=>show((decide (48≤c.toNat)&&decide (c.toNat≤57))||_)=true;rw[h];rfl
theorem num_neg {d:UInt8} {t:List UInt8} (h:isDigit d=true):E7 (45::d::t)=true:=by
 unfold isDigit at h;show((decide (48≤(45:UInt8).toNat)&&decide ((45:UInt8).toNat≤57))||((45:UInt8)==45&&(decide (48≤d.toNat)&&decide (d.toNat≤57))))=true;rw[h];rfl
theorem Lm (k:Nat) (h:k≤604799): ∃c t,qj k=c::t∧isDigit c=true:=by
 obtain⟨c,t,e,_⟩:=Hg k h;have ho:=(wI k h).1;unfold aF.ok at ho;rw[Bool.and_eq_true,Bool.and_eq_true] at ho;have:=List.all_eq_true.1 ho.2 c (by rw[e];exact .head _);exact⟨c,t++([58]++aF.two (k/60%60))++Kc k,by rw[wH,e];rfl,this⟩
theorem am_num (v:Int) (h1: -604799≤v) (h2:v≤604799):E7 (zY v)=true∧seq (zY v) [45]=false:=by
 have key: ∀s:List UInt8,s≠[45]→seq s [45]=false:=fun s hs=>by
  cases e:seq s [45] with
  |false=>rfl
  |true=>rw[dh] at e;exact absurd e hs
 unfold zY;by_cases h0:v=0
 ·subst h0;exact⟨rfl,rfl⟩
 ·by_cases hp:0<v
  ·obtain⟨k,rfl⟩: ∃k:Nat,v=(k:Int):=⟨v.toNat,by omega⟩
   obtain⟨c,t,e,hd⟩:=Lm k (by omega);rw[A8 k (by omega) (by omega)];show E7 (qj k)=true∧seq (qj k) [45]=false;rw[e];refine⟨num_head hd,key _ fun h=>?_⟩;simp only[List.cons.injEq] at h;rw[h.1] at hd;exact absurd hd (by decide)
  ·obtain⟨k,rfl⟩: ∃k:Nat,v= -(k:Int):=⟨v.natAbs,by omega⟩
   obtain⟨c,t,e,hd⟩:=Lm k (by omega);rw[Nk k (by omega) (by omega)];show E7 ([45]++qj k)=true∧seq ([45]++qj k) [45]=false;rw[e];exact⟨num_neg hd,key _ fun h=>by simp at h⟩
theorem nm_num (r:List UInt8) (h:dZ r=0):E7 r=false∧seq r [45]=false:=by
 unfold dZ at h;by_cases h1:64<r.length
 ·rw[if_pos h1] at h;cases h
 rw[if_neg h1] at h;by_cases h2:B6 0 r=true∧r≠[]
 ·obtain⟨h3,h4⟩:=h2
  cases r with
  |nil=>exact absurd rfl h4
  |cons c t=>
   have hc:LH 0 c=true:=by
    have:(LH 0 c&&B6 1 t)=true:=h3;rw[Bool.and_eq_true] at this;exact this.1
   have hf: ∀c:UInt8,LH 0 c=true→(decide (48≤c.toNat)&&decide (c.toNat≤57))=false∧(c==45)=false:=by
    intro c;obtain⟨⟨m⟩⟩:=c;revert m;decide+kernel
   obtain⟨q1,q2⟩:=hf c hc;constructor
   ·cases t with
    |nil=>exact q1
    |cons d t=>show((decide (48≤c.toNat)&&decide (c.toNat≤57))||(c==45&&_))=false;rw[q1,q2];rfl
   ·cases e:seq (c::t) [45] with
    |false=>rfl
    |true=>
     rw[dh] at e;simp only[List.cons.injEq] at e;rw[e.1] at q2;cases q2
 ·rw[if_neg h2] at h;cases h
theorem Zi (y:Int) (h:Fits y):ig (text y)=y∧nrW (text y)=0:=by
 have hr:=K5 y h;exact⟨by unfold ig;rw[hr],by unfold nrW;rw[hr]⟩
theorem rl_back (k v:Int) (r:List UInt8) (h:(sel (ieq k 0) (ieq v 0&&seq r []) (sel (ieq k 1) (ak (-10800) v&&(ak v 10800&&seq r [])) (sel (ieq k 2) (ieq v 0&&ieq (dZ r) 0) false)))=true):
  Xd (Sg k v r)=k∧xC (Sg k v r)=v∧UW (Sg k v r)=r∧Oj (Sg k v r)=0∧(Sg k v r).length≤64:=by
 rw[gP,gQ,gT,sW];unfold Sg;by_cases h0:k=0
 ·subst h0
  rw[show ieq (0:Int) 0=true from rfl] at h⊢;rw[sT,Bool.and_eq_true,aL,dh] at h;obtain⟨rfl,rfl⟩:=h;exact⟨rfl,rfl,rfl,rfl,by decide⟩
 ·rw[bQ h0] at h⊢
  by_cases h1:k=1
  ·subst h1
   rw[show ieq (1:Int) 1=true from rfl] at h⊢;simp only[sT,sF,Bool.and_eq_true,ay,dh] at h;obtain⟨v1,v2,rfl⟩:=h;obtain⟨n1,n2⟩:=am_num v (by omega) (by omega);obtain⟨a1,a2,a3⟩:=wJ v (by omega) (by omega);simp only[sT,sF,n1,n2,gH,gV,a1,a2,bB v1,bB v2,show ieq (0:Int) 0=true from rfl];exact⟨trivial,trivial,trivial,trivial,by omega⟩
  ·rw[bQ h1] at h⊢
   by_cases h2:k=2
   ·subst h2
    simp only[show ieq (2:Int) 2=true from rfl,sT,sF,Bool.and_eq_true,aL] at h;obtain⟨rfl,h3⟩:=h;obtain⟨n1,n2⟩:=nm_num r h3;simp only[sT,sF,n1,n2,h3];exact⟨trivial,trivial,trivial,trivial,zq r h3⟩
   ·rw[bQ h2] at h;cases h
theorem Ns (q:List UInt8) (h:jy q=0):q.length≤16:=by
 unfold jy at h;by_cases h1:16<q.length
 ·rw[if_pos h1] at h;cases h
 ·omega
theorem Fs (y m ok ow od c b:Int):(enR true y m ok ow od c b=true)=((-32767<y∧y<32767)∧(qf ok ow od m=true∧iq c b=true)):=by
 unfold enR;rw[sT,Bool.and_eq_true,Bool.and_eq_true,Bool.and_eq_true,bf,bf];apply propext
 constructor
 ·rintro⟨a,b,c,d⟩;exact⟨⟨a,b⟩,c,d⟩
 ·rintro⟨⟨a,b⟩,c,d⟩;exact⟨a,b,c,d⟩
theorem en_back (h:Bool) (y m ok ow od c b:Int) (hR:enR h y m ok ow od c b=true):
  y5 (JY h y m ok ow od c b)=0∧sD (JY h y m ok ow od c b)=h∧yT (JY h y m ok ow od c b)=y∧sG (JY h y m ok ow od c b)=m∧yU (JY h y m ok ow od c b)=ok∧yV (JY h y m ok ow od c b)=ow∧yX (JY h y m ok ow od c b)=od∧yY (JY h y m ok ow od c b)=c∧yZ (JY h y m ok ow od c b)=b:=by
 cases h with
 |false=>
  unfold enR at hR;simp only[sF,aJ,aL] at hR;obtain⟨rfl,rfl,⟨rfl,rfl,rfl⟩,rfl,rfl⟩:=hR;exact⟨rfl,rfl,rfl,rfl,rfl,rfl,rfl,rfl,rfl⟩
 |true=>
  rw[Fs] at hR;obtain⟨⟨y1,y2⟩,hf,hr⟩:=hR;obtain⟨t1,t2⟩:=Zi y (by unfold Fits;omega);have hm:=ftB_mm hf;obtain⟨m1,m2,m3⟩:=AZ m hm.1 hm.2;have hon:LG ok ow od=true:=by unfold qf at hf;rw[Bool.and_eq_true] at hf;exact hf.1
  have d1:=VY ok ow od hon;have d2:qX (fe ok ow od)=ok:=by unfold qX;rw[d1]
  have d3:iD (fe ok ow od)=ow:=by unfold iD;rw[d1]
  have d4:qY (fe ok ow od)=od:=by unfold qY;rw[d1]
  have d5:sw (fe ok ow od)=0:=by unfold sw;rw[d1]
  obtain⟨c1,c2,c3,c4⟩:=A7 c b hr;have p1:ak y (-32767)=false:=xQ (by omega);have p2:ak 32767 y=false:=xQ (by omega);have z0:ieq (0:Int) 0=true:=rfl;have o1:odE (fe ok ow od) m=0:=by rw[ji,d5,d2,d3,d4,hf];rfl
  have o2:odK (fe ok ow od) m=ok:=by rw[jl,d5,d2,d3,d4,hf];rfl
  have o3:odW (fe ok ow od) m=ow:=by rw[jm,d5,d2,d3,d4,hf];rfl
  have o4:odD (fe ok ow od) m=od:=by rw[jo,d5,d2,d3,d4,hf];rfl
  unfold JY;rw[sT]
  cases ha:ai (ieq c 0) (ieq b 0) with
  |false=>
   have l4:av [V.str (text y),V.str (qd m),V.str (fe ok ow od),V.str (zX c b)]=4:=rfl;have r0:rg [V.str (text y),V.str (qd m),V.str (fe ok ow od),V.str (zX c b)] 0=text y:=rfl;have r1:rg [V.str (text y),V.str (qd m),V.str (fe ok ow od),V.str (zX c b)] 1=qd m:=rfl;have r2:rg [V.str (text y),V.str (qd m),V.str (fe ok ow od),V.str (zX c b)] 2=fe ok ow od:=rfl;have r3:rg [V.str (text y),V.str (qd m),V.str (fe ok ow od),V.str (zX c b)] 3=zX c b:=rfl;simp only[sF,yT,sG,yU,yV,yX,yY,yZ,y5,qZ,qm,I5,E9,E8,en0,nR,sD,l4,r0,r1,r2,r3,t1,t2,p1,p2,z0,m1,m2,o1,o2,o3,o4,c1,c2,c3,sT,show ieq (4:Int) 0=false from rfl,show aK false=true from rfl,show aU 1 4=true from rfl,show aU 2 4=true from rfl,show aU 3 4=true from rfl];exact⟨trivial,trivial,trivial,trivial,trivial,trivial,trivial,trivial,trivial⟩
  |true=>
   rw[aJ,aL,aL] at ha;obtain⟨rfl,rfl⟩:=ha
   cases hb:ai (ieq ok 0) (ai (ieq ow 0) (ieq od 1)) with
   |false=>
    have l4:av [V.str (text y),V.str (qd m),V.str (fe ok ow od)]=3:=rfl;have r0:rg [V.str (text y),V.str (qd m),V.str (fe ok ow od)] 0=text y:=rfl;have r1:rg [V.str (text y),V.str (qd m),V.str (fe ok ow od)] 1=qd m:=rfl;have r2:rg [V.str (text y),V.str (qd m),V.str (fe ok ow od)] 2=fe ok ow od:=rfl;simp only[sF,yT,sG,yU,yV,yX,yY,yZ,y5,qZ,qm,I5,E9,E8,en0,nR,sD,l4,r0,r1,r2,t1,t2,p1,p2,z0,m1,m2,o1,o2,o3,o4,sT,show ieq (3:Int) 0=false from rfl,show aK false=true from rfl,show aU 1 3=true from rfl,show aU 2 3=true from rfl,show aU 3 3=false from rfl];exact⟨trivial,trivial,trivial,trivial,trivial,trivial,trivial,trivial,trivial⟩
   |true=>
    rw[aJ,aJ,aL,aL,aL] at hb;obtain⟨rfl,rfl,rfl⟩:=hb
    cases hc:ieq m 1 with
    |false=>
     have l4:av [V.str (text y),V.str (qd m)]=2:=rfl;have r0:rg [V.str (text y),V.str (qd m)] 0=text y:=rfl;have r1:rg [V.str (text y),V.str (qd m)] 1=qd m:=rfl;simp only[sF,yT,sG,yU,yV,yX,yY,yZ,y5,qZ,qm,I5,E9,E8,en0,nR,sD,l4,r0,r1,t1,t2,p1,p2,z0,m1,m2,sT,show ieq (2:Int) 0=false from rfl,show aK false=true from rfl,show aU 1 2=true from rfl,show aU 2 2=false from rfl,show aU 3 2=false from rfl];exact⟨trivial,trivial,trivial,trivial,trivial,trivial,trivial,trivial,trivial⟩
    |true=>
     rw[aL] at hc;subst hc;have l4:av [V.str (text y)]=1:=rfl;have r0:rg [V.str (text y)] 0=text y:=rfl;simp only[sF,yT,sG,yU,yV,yX,yY,yZ,y5,qZ,qm,I5,E9,E8,en0,nR,sD,l4,r0,t1,t2,p1,p2,z0,sT,show ieq (1:Int) 0=false from rfl,show aK false=true from rfl,show aU 1 1=false from rfl,show aU 2 1=false from rfl,show aU 3 1=false from rfl];exact⟨trivial,trivial,trivial,trivial,trivial,trivial,trivial,trivial,trivial⟩
theorem Nu (o k v:Int) (r q:List UInt8) (h:Bool) (y m ok ow od c b:Int):(z8 o k v r q h y m ok ow od c b=true)=((-54000≤o∧o≤54000)∧(jy q=0∧(enR h y m ok ow od c b=true∧(sel (ieq k 0) (ieq v 0&&seq r []) (sel (ieq k 1) (ak (-10800) v&&(ak v 10800&&seq r [])) (sel (ieq k 2) (ieq v 0&&ieq (dZ r) 0) false)))=true))):=by
 unfold z8;rw[Bool.and_eq_true,Bool.and_eq_true,Bool.and_eq_true,Bool.and_eq_true,ay,ay,aL];apply propext
 constructor
 ·rintro⟨a,b,c,d⟩;exact⟨⟨a,b⟩,c,d⟩
 ·rintro⟨⟨a,b⟩,c,d⟩;exact⟨a,b,c,d⟩
theorem efT_len (h:Bool) (y m ok ow od c b:Int):(JY h y m ok ow od c b).length≤4:=by
 unfold JY
 cases h<;>cases ai (ieq c 0) (ieq b 0)<;>cases ai (ieq ok 0) (ai (ieq ow 0) (ieq od 1))<;>cases ieq m 1<;>simp[sel]
theorem lsub_3 (a b c:V) (t:List V):dX (a::b::c::t) 3 (av (a::b::c::t))=t:=by
 unfold dX av;show List.take ((((a::b::c::t).length:Nat):Int).toNat-3) t=t;rw[List.take_of_length_le];simp;omega
theorem erE_3 (a b c:List UInt8) (t:List V) (ht:t.length≤4):kT (.str a::.str b::.str c::t)=sel (ieq (I6 a) 0) (sel (ieq (Oj b) 0) (sel (ieq (jy c) 0) (y5 t) (jy c)) (Oj b)) (I6 a):=by
 unfold kT;rw[lsub_3,bD (by rw[aA];simp;omega),bD (by rw[aA];simp;omega)];rfl
theorem erV_3 (a b c:List UInt8) (t:List V) (h:kT (.str a::.str b::.str c::t)=0):LJ (.str a::.str b::.str c::t)=.tup [.agg [.int .i64 (eX a),.int .i64 (Xd b),.int .i64 (xC b),.str (UW b),.str c,.bool (sD t),.int .i64 (yT t),.int .i64 (sG t),.int .i64 (yU t),.int .i64 (yV t),.int .i64 (yX t),.int .i64 (yY t),.int .i64 (yZ t)],.int .i64 0]:=by
 unfold LJ RH UX RI Se Sf ED RJ RL UY UZ Ak Al Am;rw[h,lsub_3];rfl
theorem allS_efT (h:Bool) (y m ok ow od c b:Int) (hR:enR h y m ok ow od c b=true):gB (JY h y m ok ow od c b)=true:=by
 cases h with
 |false=>rfl
 |true=>
  rw[Fs] at hR;obtain⟨⟨y1,y2⟩,hf,hr⟩:=hR;have hm:=ftB_mm hf;have n1:=(vG y (by unfold Fits;omega)).1;have n2:=(AZ m hm.1 hm.2).2.2;have n3:=Bn ok ow od;have n4:=(A7 c b hr).2.2.2;have s1:=kC (show(text y).length≤900 by omega);have s2:=kC (show(qd m).length≤900 by omega);have s3:=kC (show(fe ok ow od).length≤900 by omega);have s4:=kC (show(zX c b).length≤900 by omega);unfold JY gB
  cases ai (ieq c 0) (ieq b 0)<;>cases ai (ieq ok 0) (ai (ieq ow 0) (ieq od 1))<;>cases ieq m 1<;>
   simp only[sT,sF,List.all_cons,List.all_nil,s1,s2,s3,s4]<;>rfl
theorem er_back (o k v:Int) (r q:List UInt8) (h:Bool) (y m ok ow od c b:Int) (hR:z8 o k v r q h y m ok ow od c b=true):
  gB (Si o k v r q h y m ok ow od c b)=true∧LJ (Si o k v r q h y m ok ow od c b)=.tup [.agg [.int .i64 o,.int .i64 k,.int .i64 v,.str r,.str q,.bool h,.int .i64 y,.int .i64 m,.int .i64 ok,.int .i64 ow,.int .i64 od,.int .i64 c,.int .i64 b],.int .i64 0]:=by
 rw[Nu] at hR;obtain⟨⟨o1,o2⟩,hq,hE,hK⟩:=hR;obtain⟨a1,a2,a3⟩:=wJ o (by omega) (by omega);obtain⟨k1,k2,k3,k4,k5⟩:=rl_back k v r hK;obtain⟨e0,e1,e2,e3,e4,e5,e6,e7,e8⟩:=en_back h y m ok ow od c b hE;have q1:=Ns q hq;constructor
 ·unfold Si gB
  rw[List.all_cons,List.all_cons,List.all_cons,kC (show(zY o).length≤900 by omega),kC (show(Sg k v r).length≤900 by omega),kC (show q.length≤900 by omega)];exact allS_efT h y m ok ow od c b hE
 ·unfold Si
  have hO:I6 (zY o)=0:=by
   unfold I6;rw[a1,a2,bB o1,bB o2];rfl
  have hZ:kT (.str (zY o)::.str (Sg k v r)::.str q::JY h y m ok ow od c b)=0:=by
   rw[erE_3 _ _ _ _ (efT_len h y m ok ow od c b),hO,k4,hq,e0];rfl
  rw[erV_3 _ _ _ _ hZ,a1,k1,k2,k3,e1,e2,e3,e4,e5,e6,e7,e8]
theorem mo_rng (s:List UInt8) (h:qc s=0):1≤uz s∧uz s≤12:=by
 have h':oM s RZ=0:=h;have:=Bo s RZ (by decide) h';have e:(RZ.length:Int)=12:=rfl;unfold uz;rw[if_pos h'];omega
theorem ft_first (m:Int) (h1:1≤m) (h2:m≤12):qf 0 0 1 m=true:=by
 obtain rfl|rfl|rfl|rfl|rfl|rfl|rfl|rfl|rfl|rfl|rfl|rfl:m=1∨m=2∨m=3∨m=4∨m=5∨m=6∨m=7∨m=8∨m=9∨m=10∨m=11∨m=12:=by omega
 all_goals decide+kernel
theorem od_ok (s:List UInt8) (m:Int) (h:odE s m=0):qf (odK s m) (odW s m) (odD s m) m=true:=by
 rw[ji] at h;rw[jl,jm,jo]
 cases h1:ieq (sw s) 0 with
 |false=>rw[h1] at h;rw[show sw s=0 from h] at h1;cases h1
 |true=>
  rw[h1] at h
  cases h2:qf (qX s) (iD s) (qY s) m with
  |false=>rw[h2] at h;cases h
  |true=>exact h2
theorem Dv {a c:Int} (h:sel (ieq a 0) c a=0):a=0∧c=0:=by
 by_cases ha:a=0
 ·rw[bq ha] at h;exact⟨ha,h⟩
 ·rw[bQ ha] at h;exact absurd h ha
theorem en_right (ys:List V) (h:y5 ys=0):enR (sD ys) (yT ys) (sG ys) (yU ys) (yV ys) (yX ys) (yY ys) (yZ ys)=true∧(JY (sD ys) (yT ys) (sG ys) (yU ys) (yV ys) (yX ys) (yY ys) (yZ ys)).length≤ys.length∧-32767≤yT ys∧yT ys≤32767∧0≤sG ys∧sG ys≤12:=by
 cases hH:sD ys with
 |false=>
  unfold yT sG yU yV yX yY yZ;rw[hH];exact⟨rfl,Nat.zero_le _,le_dec rfl,le_dec rfl,le_dec rfl,le_dec rfl⟩
 |true=>
  unfold y5 at h;rw[hH,sT] at h;unfold I5 at h;obtain⟨h2,h3⟩:=Dv h;have h2':=h2;unfold E9 at h2;obtain⟨h1,h4⟩:=Dv h2;have h1':=h1;unfold E8 at h1;obtain⟨h0,h5⟩:=Dv h1;have h0':=h0;unfold en0 at h0;obtain⟨w0,h6⟩:=Dv h0;have y1: ¬ig (rg ys 0)≤ -32767:=fun hh=>by rw[bB hh] at h6;cases h6
  have y2: ¬32767≤ig (rg ys 0):=fun hh=>by rw[xQ (by omega),bB hh] at h6;cases h6
  have z: ∀{a:Int},a=0→ieq a 0=true:=fun h=>bq h
  have eY:yT ys=ig (rg ys 0):=by unfold yT;rw[hH];rfl
  have eM:sG ys=sel (aU 1 (av ys)) (uz (rg ys 1)) 1:=by unfold sG nR;rw[hH,z h0'];rfl
  have eM':nR ys=sG ys:=by unfold sG;rw[hH];rfl
  have eK:yU ys=sel (aU 2 (av ys)) (odK (rg ys 2) (sG ys)) 0:=by unfold yU qm;rw[hH,z h1',eM'];rfl
  have eW:yV ys=sel (aU 2 (av ys)) (odW (rg ys 2) (sG ys)) 0:=by unfold yV qm;rw[hH,z h1',eM'];rfl
  have eD:yX ys=sel (aU 2 (av ys)) (odD (rg ys 2) (sG ys)) 1:=by unfold yX qm;rw[hH,z h1',eM'];rfl
  have eA:yY ys=sel (aU 3 (av ys)) (Ov (rg ys 3)) 0:=by unfold yY qZ;rw[hH,z h2'];rfl
  have eB:yZ ys=sel (aU 3 (av ys)) (Ow (rg ys 3)) 0:=by unfold yZ qZ;rw[hH,z h2'];rfl
  have hM:1≤sG ys∧sG ys≤12:=by
   rw[eM]
   cases h1l:aU 1 (av ys) with
   |true=>rw[h1l] at h5;exact mo_rng _ h5
   |false=>exact⟨le_dec rfl,le_dec rfl⟩
  have hF:qf (yU ys) (yV ys) (yX ys) (sG ys)=true:=by
   rw[eK,eW,eD]
   cases h2l:aU 2 (av ys) with
   |true=>rw[h2l,eM'] at h4;exact od_ok _ _ h4
   |false=>exact ft_first _ hM.1 hM.2
  have hC:iq (yY ys) (yZ ys)=true:=by
   rw[eA,eB]
   cases h3l:aU 3 (av ys) with
   |true=>rw[h3l] at h3;exact P7 _ h3
   |false=>rfl
  have hL:1≤ys.length:=by
   unfold sD at hH
   cases ys with
   |nil=>cases hH
   |cons a t=>simp
  refine⟨?_,?_,by rw[eY];omega,by rw[eY];omega,by omega,hM.2⟩
  ·rw[Fs,eY]
   exact⟨⟨by omega,by omega⟩,hF,hC⟩
  ·unfold JY
   rw[sT]
   cases ha:ai (ieq (yY ys) 0) (ieq (yZ ys) 0) with
   |false=>
    have:3<av ys:=by
     by_cases hq:3<av ys
     ·exact hq
     ·rw[eA,eB,bD (by omega)] at ha;cases ha
    rw[aA] at this;show 4≤ys.length;omega
   |true=>
    cases hb:ai (ieq (yU ys) 0) (ai (ieq (yV ys) 0) (ieq (yX ys) 1)) with
    |false=>
     have:2<av ys:=by
      by_cases hq:2<av ys
      ·exact hq
      ·rw[eK,eW,eD,bD (by omega)] at hb;cases hb
     rw[aA] at this;show 3≤ys.length;omega
    |true=>
     cases hc:ieq (sG ys) 1 with
     |false=>
      have:1<av ys:=by
       by_cases hq:1<av ys
       ·exact hq
       ·rw[eM,bD (by omega)] at hc;cases hc
      rw[aA] at this;show 2≤ys.length;omega
     |true=>show 1≤ys.length;exact hL
theorem rl_right (s:List UInt8) (h:Oj s=0):(sel (ieq (Xd s) 0) (ieq (xC s) 0&&seq (UW s) []) (sel (ieq (Xd s) 1) (ak (-10800) (xC s)&&(ak (xC s) 10800&&seq (UW s) [])) (sel (ieq (Xd s) 2) (ieq (xC s) 0&&ieq (dZ (UW s)) 0) false)))=true∧(UW s).length≤64∧-10800≤xC s∧xC s≤10800:=by
 rw[sW] at h;rw[gP,gQ,gT]
 cases h1:seq s [45] with
 |true=>exact⟨rfl,Nat.le_of_ble_eq_true rfl,le_dec rfl,le_dec rfl⟩
 |false=>
  rw[h1,sF] at h
  cases h2:E7 s with
  |true=>
   rw[h2,sT] at h;rw[gH] at h;rw[gV]
   cases h3:ieq (lH s) 0 with
   |false=>rw[h3] at h;rw[show lH s=0 from h] at h3;cases h3
   |true=>
    rw[h3,sT] at h
    cases h4:ak (-10800) (eX s) with
    |false=>rw[h4] at h;cases h
    |true=>
     rw[h4,sT] at h
     cases h5:ak (eX s) 10800 with
     |false=>rw[h5] at h;cases h
     |true=>
      rw[ay] at h4 h5;refine⟨?_,Nat.le_of_ble_eq_true rfl,h4,h5⟩;show(ak (-10800) (eX s)&&(ak (eX s) 10800&&seq [] []))=true;rw[bB h4,bB h5];rfl
  |false=>
   rw[h2,sF] at h;refine⟨?_,zq s h,le_dec rfl,le_dec rfl⟩;show(ieq 0 0&&ieq (dZ s) 0)=true;rw[h];rfl
theorem er_right (xs:List V) (hA:gB xs=true) (h:kT xs=0):z8 (RH xs) (UX xs) (RI xs) (Se xs) (Sf xs) (ED xs) (RJ xs) (RL xs) (UY xs) (UZ xs) (Ak xs) (Al xs) (Am xs)=true∧(Si (RH xs) (UX xs) (RI xs) (Se xs) (Sf xs) (ED xs) (RJ xs) (RL xs) (UY xs) (UZ xs) (Ak xs) (Al xs) (Am xs)).length≤xs.length∧
  (Se xs).length≤64∧(Sf xs).length≤16∧(-54000≤RH xs∧RH xs≤54000)∧(-10800≤RI xs∧RI xs≤10800)∧(-32767≤RJ xs∧RJ xs≤32767)∧(0≤RL xs∧RL xs≤12):=by
 have h3: ¬av xs<3:=fun hh=>by unfold kT at h;rw[bE hh] at h;cases h
 have h7: ¬7<av xs:=fun hh=>by unfold kT at h;rw[bD (by omega),bE hh] at h;cases h
 obtain⟨l,rfl,_⟩:=wT xs hA;rw[aA,List.length_map] at h3 h7;match l,h3,h7,h with
 |[],h3,_,_=>exact absurd h3 (by simp)
 |[_],h3,_,_=>exact absurd h3 (by simp)
 |[_,_],h3,_,_=>exact absurd h3 (by simp)
 |a::b::c::t,_,h7,h=>
  rw[List.map_cons,List.map_cons,List.map_cons] at h⊢;have ht:(t.map V.str).length≤4:=by rw[List.length_map];simp only[List.length_cons] at h7;omega
  have hV:=erV_3 a b c (t.map V.str) h;rw[erE_3 a b c _ ht] at h;obtain⟨g1,h⟩:=Dv h;obtain⟨g2,h⟩:=Dv h;obtain⟨g3,g4⟩:=Dv h;unfold I6 at g1;obtain⟨w1,g1⟩:=Dv g1;have o1: -54000≤eX a:=by
   by_cases hh: -54000≤eX a
   ·exact hh
   ·rw[xQ (by omega)] at g1;cases g1
  have o2:eX a≤54000:=by
   by_cases hh:eX a≤54000
   ·exact hh
   ·rw[bB o1,xQ (by omega)] at g1;cases g1
  obtain⟨n1,n2,n3,n4,n5,n6⟩:=en_right _ g4;obtain⟨r1,r2,r3,r4⟩:=rl_right b g2;have q1:=Ns c g3;unfold LJ at hV;simp only[V.tup.injEq,List.cons.injEq,V.agg.injEq,V.str.injEq,V.int.injEq,V.bool.injEq,true_and,and_true] at hV;obtain⟨⟨e0,e1,e2,e3,e4,e5,e6,e7,e8,e9,e10,e11,e12⟩,_⟩:=hV;rw[e0,e1,e2,e3,e4,e5,e6,e7,e8,e9,e10,e11,e12];refine⟨?_,?_,r2,q1,⟨o1,o2⟩,⟨r3,r4⟩,⟨n3,n4⟩,⟨n5,n6⟩⟩
  ·rw[Nu]
   exact⟨⟨o1,o2⟩,g3,n1,r1⟩
  ·unfold Si
   simp only[List.length_cons];omega
noncomputable def eRdS:aG:=fun a=>match a with|[.sl 9 [.str] none xs]=>some (gB xs,.tup [.agg [.int .i64 (RH xs),.int .i64 (UX xs),.int .i64 (RI xs),.str (Se xs),.str (Sf xs),.bool (ED xs),.int .i64 (RJ xs),.int .i64 (RL xs),.int .i64 (UY xs),.int .i64 (UZ xs),.int .i64 (Ak xs),.int .i64 (Al xs),.int .i64 (Am xs)],.int .i64 (kT xs)])|_=>none
theorem eRdS_ok (xs:List V) (hc:gB xs=true):af eE 106 [.sl 9 [.str] none xs] (.tup [.agg [.int .i64 (RH xs),.int .i64 (UX xs),.int .i64 (RI xs),.str (Se xs),.str (Sf xs),.bool (ED xs),.int .i64 (RJ xs),.int .i64 (RL xs),.int .i64 (UY xs),.int .i64 (UZ xs),.int .i64 (Ak xs),.int .i64 (Al xs),.int .i64 (Am xs)],.int .i64 (kT xs)]):=UC xs hc
theorem er_inj (xs:List V) {o k v:Int} {r q:List UInt8} {h:Bool} {y m ok ow od c b e:Int} (hh:LJ xs=.tup [.agg [.int .i64 o,.int .i64 k,.int .i64 v,.str r,.str q,.bool h,.int .i64 y,.int .i64 m,.int .i64 ok,.int .i64 ow,.int .i64 od,.int .i64 c,.int .i64 b],.int .i64 e]):
  RH xs=o∧UX xs=k∧RI xs=v∧Se xs=r∧Sf xs=q∧ED xs=h∧RJ xs=y∧RL xs=m∧UY xs=ok∧UZ xs=ow∧Ak xs=od∧Al xs=c∧Am xs=b∧kT xs=e:=by
 unfold LJ at hh;simp only[V.tup.injEq,List.cons.injEq,V.agg.injEq,V.str.injEq,V.int.injEq,V.bool.injEq,true_and,and_true] at hh;obtain⟨⟨h0,h1,h2,h3,h4,h5,h6,h7,h8,h9,h10,h11,h12⟩,he⟩:=hh;exact⟨h0,h1,h2,h3,h4,h5,h6,h7,h8,h9,h10,h11,h12,he⟩
end Nt.Ev.YtplklcejbmfgdaaGreatDoor
