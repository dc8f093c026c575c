/-
  Era: equations of functions, as the evaluator prints them. Eras: what the program's functions and the document's answer. Era2: equations of functions, as the evaluator prints them. Eras: how they are written. Eras: there and back, in plain terms. EraLaw: equations of functions, as the evaluator prints them. Eras: the two statements.
-/
import Derived.Test.YtplklcejbmfgdaaGreatDoorMM
set_option linter.unusedVariables false
set_option linter.unusedSimpArgs false
set_option linter.unusedSectionVars false
namespace Nt.Ev.YtplklcejbmfgdaaGreatDoor
set_option maxRecDepth 100000
open Go Nt.Num Go.Proofs.YtplklcejbmfgdaaGreatDoor
variable [mJ]
open Nt.Civil
abbrev eZ:V:=(V.agg [V.int .i64 0,V.int .i64 0,V.int .i64 0,V.str [],V.str [],V.bool false,V.int .i64 0,V.int .i64 0,V.int .i64 0,V.int .i64 0,V.int .i64 0,V.int .i64 0,V.int .i64 0])
noncomputable def Ye:V:=.rptr [.int .i64,.int .i64,.int .i64] (.agg [.int .i64 0,.int .i64 0,.int .i64 1]) 0
noncomputable def eE:Env:=⟨Go.Proofs.Tryz.prog,fun g=>bif g==0 then some Ye else bif g==2 then some Bd else bif g==1 then some Ka else bif g==4 then some Px else bif g==3 then some (.rptr [.int .i64] (.int .i64 mJ.val) 0) else none⟩
noncomputable def eNrS:aF:=fun a=>match a with|[.str s]=>some (ai (aj s) 900,.tup [.int .i64 (gW s),.int .i64 (nrW s)])|_=>none
noncomputable def eNtS:aF:=fun a=>match a with|[.int .i64 n]=>some (ak (ai (-9223372036854775808) n) (ai n 9223372036854775807),.str (text n))|_=>none
noncomputable def eChS:aF:=fun a=>match a with|[.str s]=>some (ai (aj s) 900,.int .i64 (jG s))|_=>none
noncomputable def eS0:List (Nat×aF):=(173,eNrS)::(63,eNtS)::(45,eChS)::(16,JE)::(39,Av)::(157,Rs)::(159,Rt)::(161,Ru)::(148,Rv)::(58,TG)::(59,TH)::(40,TI)::(60,TJ)::(61,TK)::[]
def K4:List UInt8→Bool|[]=>false|[c]=>decide (48≤c.toNat)&&decide (c.toNat≤57)|c::d::_=>(decide (48≤c.toNat)&&decide (c.toNat≤57))||(c==45&&(decide (48≤d.toNat)&&decide (d.toNat≤57)))
def rlP (s:List UInt8):Int×Int×List UInt8×Int:=if s=[45] then(0,0,[],0) else if K4 s=true then(1,svI s,[],svW s) else(2,0,s,fF s)
def Wd (s:List UInt8):Int:=(rlP s).1
def OT (s:List UInt8):Int:=(rlP s).2.1
def Tk (s:List UInt8):List UInt8:=(rlP s).2.2.1
def Ld (s:List UInt8):Int:=(rlP s).2.2.2
noncomputable def eNumS:aF:=fun a=>match a with|[.str s]=>some (ai (aj s) 900,.bool (K4 s))|_=>none
noncomputable def eS1:List (Nat×aF):=(172,eNumS)::eS0
def en0 (ys:List V):Int:=sel (ieq (nrW (rg ys 0)) 0) (sel (ai (gW (rg ys 0)) (-32767)) 1 (sel (ai 32767 (gW (rg ys 0))) 1 0)) (nrW (rg ys 0))
def GK (ys:List V):Int:=sel (ieq (en0 ys) 0) (sel (aT 1 (av ys)) (pX (rg ys 1)) 0) (en0 ys)
def p9 (ys:List V):Int:=sel (ieq (en0 ys) 0) (sel (aT 1 (av ys)) (vD (rg ys 1)) 1) 1
def GL (ys:List V):Int:=sel (ieq (GK ys) 0) (sel (aT 2 (av ys)) (odE (rg ys 2) (p9 ys)) 0) (GK ys)
def rY (ys:List V) (f:List UInt8→Int→Int) (z:Int):Int:=sel (ieq (GK ys) 0) (sel (aT 2 (av ys)) (f (rg ys 2) (p9 ys)) z) z
def K5 (ys:List V):Int:=sel (ieq (GL ys) 0) (sel (aT 3 (av ys)) (Bq (rg ys 3)) 0) (GL ys)
def vJ (ys:List V) (f:List UInt8→Int):Int:=sel (ieq (GL ys) 0) (sel (aT 3 (av ys)) (f (rg ys 3)) 0) 0
def sS (ys:List V):Bool:=aG (ieq (av ys) 0)
def Br (ys:List V):Int:=sel (sS ys) (gW (rg ys 0)) 0
def sU (ys:List V):Int:=sel (sS ys) (p9 ys) 0
def Bt (ys:List V):Int:=sel (sS ys) (rY ys odK 0) 0
def Bu (ys:List V):Int:=sel (sS ys) (rY ys odW 0) 0
def Bv (ys:List V):Int:=sel (sS ys) (rY ys odD 1) 0
def Bw (ys:List V):Int:=sel (sS ys) (vJ ys V5) 0
def Bz (ys:List V):Int:=sel (sS ys) (vJ ys V6) 0
def BA (ys:List V):Int:=sel (sS ys) (K5 ys) 0
noncomputable def eNoS:aF:=fun a=>match a with|[.str s]=>some (false,.int .i64 0)|_=>none
noncomputable def eSn:List (Nat×aF):=(148,eNoS)::[]
theorem ZJ (F:Nat) (s:List UInt8) (K:V→Option V):
 cr eE (bV eE eS0 F 4) F 172 [V.str s] K=
 let C:=aj [45];let D:=K (V.bool false);let H:=ak (ai 0 0) (aT 0 (aj s));let A:=sel (aG (seq s [])) (sel H (sel (ai 48 (sat s 0)) (sel H (K (V.bool (ai (sat s 0) 57))) none) D) none) D;let B:=dF s C (aj s);let E:=ak (ai 0 C) (ai C (aj s));let G:=ak (ai 0 0) (aT 0 (aj B));sel (ai C (aj s)) (sel E (sel (seq (dF s 0 C) [45]) (sel E (sel (aG (seq B [])) (sel G (sel (ai 48 (sat B 0)) (sel G (K (V.bool (ai (sat B 0) 57))) none) D) none) D) none) A) none) A:=by kernel_rfl
theorem IU (F:Nat) (xs:List V) (K:V→Option V):
 cr eE (bV eE eSn F 10) F 106 [V.sl 9 [Kd.str] none xs] K=
 sel (aG (ai 3 (av xs))) (K (V.tup [eZ,V.int .i64 5])) (sel (aG (ai (av xs) 7)) (K (V.tup [eZ,V.int .i64 6])) (sel (ak (ai 0 0) (aT 0 (av xs))) none none)):=by kernel_rfl
theorem Gz (a0 a1 a2:List UInt8) (K:V→Option V):
 cr eE (bV eE eS1 9 10) 9 106 [V.sl 9 [Kd.str] none [V.str a0,V.str a1,V.str a2]] K=
 let A:=V.int .i64 0;let B:=K (V.tup [eZ,V.int .i64 1]);let C:=K (V.tup [eZ,V.int .i64 (jG a2)]);let D:=aG (ieq (jG a2) 0);let E:=V.int .i64 (eU a0);let F:=ai (aj a2) 900;let G:=V.bool false;let H:=V.str a2;let I:=ai (aj a1) 900;sel (ai (aj a0) 900) (sel (aG (ieq (lK a0) 0)) (K (V.tup [eZ,V.int .i64 (lK a0)])) (sel (ai (-54000) (eU a0)) (sel (aG (ai (eU a0) 54000)) B (sel (seq a1 [45]) (sel F (sel D C (K (V.tup [V.agg [E,A,A,V.str [],H,G,A,A,A,A,A,A,A],A]))) none) (sel I (sel (K4 a1) (sel I (sel (aG (ieq (lK a1) 0)) (K (V.tup [eZ,V.int .i64 (lK a1)])) (sel (ai (-10800) (eU a1)) (sel (aG (ai (eU a1) 10800)) B (sel F (sel D C (K (V.tup [V.agg [E,V.int .i64 1,V.int .i64 (eU a1),V.str [],H,G,A,A,A,A,A,A,A],A]))) none)) B)) none) (sel (ai (aj a1) 1000) (sel (aG (ieq (fF a1) 0)) (K (V.tup [eZ,V.int .i64 (fF a1)])) (sel F (sel D C (K (V.tup [V.agg [E,V.int .i64 2,A,V.str a1,H,G,A,A,A,A,A,A,A],A]))) none)) none)) none))) B)) none:=by kernel_rfl
theorem GA (a0 a1 a2 a3:List UInt8) (K:V→Option V):
 cr eE (bV eE eS1 9 10) 9 106 [V.sl 9 [Kd.str] none [V.str a0,V.str a1,V.str a2,V.str a3]] K=
 let B:=V.int .i64 0;let C:=V.int .i64 1;let D:=K (V.tup [eZ,V.int .i64 (jG a2)]);let E:=K (V.tup [eZ,V.int .i64 (nrW a3)]);let F:=aG (aT (gW a3) 32767);let G:=aG (ieq (jG a2) 0);let H:=aG (ieq (nrW a3) 0);let I:=aT (-32767) (gW a3);let J:=V.int .i64 (eU a0);let L:=V.int .i64 (gW a3);let M:=ai (aj a2) 900;let N:=ai (aj a3) 900;let O:=V.bool true;let P:=V.str a2;let Q:=ai (aj a1) 900;let A:=K (V.tup [eZ,C]);sel (ai (aj a0) 900) (sel (aG (ieq (lK a0) 0)) (K (V.tup [eZ,V.int .i64 (lK a0)])) (sel (ai (-54000) (eU a0)) (sel (aG (ai (eU a0) 54000)) A (sel (seq a1 [45]) (sel M (sel G D (sel N (sel H E (sel I (sel F A (K (V.tup [V.agg [J,B,B,V.str [],P,O,L,C,B,B,C,B,B],B]))) A)) none)) none) (sel Q (sel (K4 a1) (sel Q (sel (aG (ieq (lK a1) 0)) (K (V.tup [eZ,V.int .i64 (lK a1)])) (sel (ai (-10800) (eU a1)) (sel (aG (ai (eU a1) 10800)) A (sel M (sel G D (sel N (sel H E (sel I (sel F A (K (V.tup [V.agg [J,C,V.int .i64 (eU a1),V.str [],P,O,L,C,B,B,C,B,B],B]))) A)) none)) none)) A)) none) (sel (ai (aj a1) 1000) (sel (aG (ieq (fF a1) 0)) (K (V.tup [eZ,V.int .i64 (fF a1)])) (sel M (sel G D (sel N (sel H E (sel I (sel F A (K (V.tup [V.agg [J,V.int .i64 2,B,V.str a1,P,O,L,C,B,B,C,B,B],B]))) A)) none)) none)) none)) none))) A)) none:=by kernel_rfl
theorem GD (a0 a1 a2 a3 a4:List UInt8) (K:V→Option V):
 cr eE (bV eE eS1 9 10) 9 106 [V.sl 9 [Kd.str] none [V.str a0,V.str a1,V.str a2,V.str a3,V.str a4]] K=
 let B:=V.int .i64 0;let C:=K (V.tup [eZ,V.int .i64 (jG a2)]);let D:=K (V.tup [eZ,V.int .i64 (nrW a3)]);let E:=K (V.tup [eZ,V.int .i64 (pX a4)]);let F:=aG (aT (gW a3) 32767);let G:=V.int .i64 1;let H:=aG (ieq (jG a2) 0);let I:=aG (ieq (nrW a3) 0);let J:=aT (-32767) (gW a3);let L:=aG (ieq (pX a4) 0);let M:=V.int .i64 (eU a0);let N:=V.int .i64 (gW a3);let O:=V.int .i64 (vD a4);let P:=ai (aj a2) 900;let Q:=ai (aj a3) 900;let R:=ai (aj a4) 900;let S:=V.bool true;let T:=V.str a2;let U:=ai (aj a1) 900;let A:=K (V.tup [eZ,G]);sel (ai (aj a0) 900) (sel (aG (ieq (lK a0) 0)) (K (V.tup [eZ,V.int .i64 (lK a0)])) (sel (ai (-54000) (eU a0)) (sel (aG (ai (eU a0) 54000)) A (sel (seq a1 [45]) (sel P (sel H C (sel Q (sel I D (sel J (sel F A (sel R (sel L E (K (V.tup [V.agg [M,B,B,V.str [],T,S,N,O,B,B,G,B,B],B]))) none)) A)) none)) none) (sel U (sel (K4 a1) (sel U (sel (aG (ieq (lK a1) 0)) (K (V.tup [eZ,V.int .i64 (lK a1)])) (sel (ai (-10800) (eU a1)) (sel (aG (ai (eU a1) 10800)) A (sel P (sel H C (sel Q (sel I D (sel J (sel F A (sel R (sel L E (K (V.tup [V.agg [M,G,V.int .i64 (eU a1),V.str [],T,S,N,O,B,B,G,B,B],B]))) none)) A)) none)) none)) A)) none) (sel (ai (aj a1) 1000) (sel (aG (ieq (fF a1) 0)) (K (V.tup [eZ,V.int .i64 (fF a1)])) (sel P (sel H C (sel Q (sel I D (sel J (sel F A (sel R (sel L E (K (V.tup [V.agg [M,V.int .i64 2,B,V.str a1,T,S,N,O,B,B,G,B,B],B]))) none)) A)) none)) none)) none)) none))) A)) none:=by kernel_rfl
theorem GG (a0 a1 a2 a3 a4 a5:List UInt8) (K:V→Option V):
 cr eE (bV eE eS1 9 10) 9 106 [V.sl 9 [Kd.str] none [V.str a0,V.str a1,V.str a2,V.str a3,V.str a4,V.str a5]] K=
 let A:=K (V.tup [eZ,V.int .i64 1]);let B:=V.int .i64 0;let C:=aG (rQ (sK a5) (jo a5) (sM a5) (vD a4));let D:=K (V.tup [eZ,V.int .i64 (jG a2)]);let E:=K (V.tup [eZ,V.int .i64 (nrW a3)]);let F:=K (V.tup [eZ,V.int .i64 (pX a4)]);let G:=K (V.tup [eZ,V.int .i64 (sQ a5)]);let H:=aG (aT (gW a3) 32767);let I:=aG (ieq (jG a2) 0);let J:=aG (ieq (nrW a3) 0);let L:=aT (-32767) (gW a3);let M:=aG (ieq (pX a4) 0);let N:=aG (ieq (sQ a5) 0);let O:=V.int .i64 (jo a5);let P:=V.int .i64 (eU a0);let Q:=V.int .i64 (gW a3);let R:=V.int .i64 (vD a4);let S:=V.int .i64 (sK a5);let T:=V.int .i64 (sM a5);let U:=ai (aj a2) 900;let W:=ai (aj a3) 900;let X:=ai (aj a4) 900;let Y:=ai (aj a5) 900;let Z:=V.bool true;sel (ai (aj a0) 900) (sel (aG (ieq (lK a0) 0)) (K (V.tup [eZ,V.int .i64 (lK a0)])) (sel (ai (-54000) (eU a0)) (sel (aG (ai (eU a0) 54000)) A (sel (seq a1 [45]) (sel U (sel I D (sel W (sel J E (sel L (sel H A (sel X (sel M F (sel Y (sel N G (sel C A (K (V.tup [V.agg [P,B,B,V.str [],V.str a2,Z,Q,R,S,O,T,B,B],B])))) none)) none)) A)) none)) none) (sel (ai (aj a1) 900) (sel (K4 a1) (sel (ai (aj a1) 900) (sel (aG (ieq (lK a1) 0)) (K (V.tup [eZ,V.int .i64 (lK a1)])) (sel (ai (-10800) (eU a1)) (sel (aG (ai (eU a1) 10800)) A (sel U (sel I D (sel W (sel J E (sel L (sel H A (sel X (sel M F (sel Y (sel N G (sel C A (K (V.tup [V.agg [P,V.int .i64 1,V.int .i64 (eU a1),V.str [],V.str a2,Z,Q,R,S,O,T,B,B],B])))) none)) none)) A)) none)) none)) A)) none) (sel (ai (aj a1) 1000) (sel (aG (ieq (fF a1) 0)) (K (V.tup [eZ,V.int .i64 (fF a1)])) (sel U (sel I D (sel W (sel J E (sel L (sel H A (sel X (sel M F (sel Y (sel N G (sel C A (K (V.tup [V.agg [P,V.int .i64 2,B,V.str a1,V.str a2,Z,Q,R,S,O,T,B,B],B])))) none)) none)) A)) none)) none)) none)) none))) A)) none:=by kernel_rfl
theorem GH (a0 a1 a2 a3 a4 a5 a6:List UInt8) (K:V→Option V):
 cr eE (bV eE eS1 9 10) 9 106 [V.sl 9 [Kd.str] none [V.str a0,V.str a1,V.str a2,V.str a3,V.str a4,V.str a5,V.str a6]] K=
 let A:=K (V.tup [eZ,V.int .i64 1]);let B:=aG (rQ (sK a5) (jo a5) (sM a5) (vD a4));let C:=K (V.tup [eZ,V.int .i64 (jG a2)]);let D:=K (V.tup [eZ,V.int .i64 (nrW a3)]);let E:=K (V.tup [eZ,V.int .i64 (pX a4)]);let F:=K (V.tup [eZ,V.int .i64 (sQ a5)]);let G:=K (V.tup [eZ,V.int .i64 (Bq a6)]);let H:=V.int .i64 0;let I:=aG (aT (gW a3) 32767);let J:=aG (ieq (jG a2) 0);let L:=aG (ieq (nrW a3) 0);let M:=aT (-32767) (gW a3);let N:=aG (ieq (pX a4) 0);let O:=aG (ieq (sQ a5) 0);let P:=aG (ieq (Bq a6) 0);let Q:=V.int .i64 (jo a5);let R:=V.int .i64 (eU a0);let S:=V.int .i64 (gW a3);let T:=V.int .i64 (vD a4);let U:=V.int .i64 (sK a5);let W:=V.int .i64 (sM a5);let X:=V.int .i64 (V5 a6);let Y:=V.int .i64 (V6 a6);let Z:=ai (aj a2) 900;let Aa:=ai (aj a3) 900;let Ab:=ai (aj a4) 900;let Ac:=ai (aj a5) 900;let Ad:=ai (aj a6) 900;let Ae:=V.bool true;sel (ai (aj a0) 900) (sel (aG (ieq (lK a0) 0)) (K (V.tup [eZ,V.int .i64 (lK a0)])) (sel (ai (-54000) (eU a0)) (sel (aG (ai (eU a0) 54000)) A (sel (seq a1 [45]) (sel Z (sel J C (sel Aa (sel L D (sel M (sel I A (sel Ab (sel N E (sel Ac (sel O F (sel B A (sel Ad (sel P G (K (V.tup [V.agg [R,H,H,V.str [],V.str a2,Ae,S,T,U,Q,W,X,Y],H]))) none))) none)) none)) A)) none)) none) (sel (ai (aj a1) 900) (sel (K4 a1) (sel (ai (aj a1) 900) (sel (aG (ieq (lK a1) 0)) (K (V.tup [eZ,V.int .i64 (lK a1)])) (sel (ai (-10800) (eU a1)) (sel (aG (ai (eU a1) 10800)) A (sel Z (sel J C (sel Aa (sel L D (sel M (sel I A (sel Ab (sel N E (sel Ac (sel O F (sel B A (sel Ad (sel P G (K (V.tup [V.agg [R,V.int .i64 1,V.int .i64 (eU a1),V.str [],V.str a2,Ae,S,T,U,Q,W,X,Y],H]))) none))) none)) none)) A)) none)) none)) A)) none) (sel (ai (aj a1) 1000) (sel (aG (ieq (fF a1) 0)) (K (V.tup [eZ,V.int .i64 (fF a1)])) (sel Z (sel J C (sel Aa (sel L D (sel M (sel I A (sel Ab (sel N E (sel Ac (sel O F (sel B A (sel Ad (sel P G (K (V.tup [V.agg [R,V.int .i64 2,H,V.str a1,V.str a2,Ae,S,T,U,Q,W,X,Y],H]))) none))) none)) none)) A)) none)) none)) none)) none))) A)) none:=by kernel_rfl
open Go.RowKit Nt
theorem iY:sO eE:=⟨by kernel_rfl,by kernel_rfl⟩
theorem xZ {f:Nat} {args:List V} {r:V} (h:af zE f args r):af eE f args r:=af.env (E:=zE) rfl (fun n v h=>by
 show(bif n==0 then some Ye else zE.glob n)=some v
 cases e:n==0 with
 |true=>
  obtain rfl:n=0:=by simpa using e
  have:zE.glob 0=none:=by kernel_rfl
  rw[this] at h;cases h
 |false=>exact h) h
theorem eNrS_ok (s:List UInt8) (hc:ai (aj s) 900=true):af eE 173 [.str s] (.tup [.int .i64 (gW s),.int .i64 (nrW s)]):=xZ (toZ (J7 s (by have:=qZ hc;omega)))
theorem Sz (n:Int) (hc:ak (ai (-9223372036854775808) n) (ai n 9223372036854775807)=true):af eE 63 [.int .i64 n] (.str (text n)):=xZ (toZ (y9 n (Em hc)))
theorem SA (s:List UInt8) (hc:ai (aj s) 900=true):af eE 45 [.str s] (.int .i64 (jG s)):=xZ (WA (IR s (xu hc)))
theorem Yf:bq eE eS0:=by
 unfold eS0;refine bq.cons (fun args r h=>?_) (bq.cons (fun args r h=>?_) (bq.cons (fun args r h=>?_) (bq.cons (fun args r h=>?_) (bq.cons (fun args r h=>?_) (bq.cons (fun args r h=>?_) (bq.cons (fun args r h=>?_) (bq.cons (fun args r h=>?_) (bq.cons (fun args r h=>?_) (bq.cons (fun args r h=>?_) (bq.cons (fun args r h=>?_) (bq.cons (fun args r h=>?_) (bq.cons (fun args r h=>?_) (bq.cons (fun args r h=>?_) bq.nil)))))))))))));all_goals (revert h;intro h;first|unfold eNrS at h|unfold eNtS at h|unfold eChS at h|unfold JE at h|unfold Av at h|unfold Rs at h|unfold Rt at h|unfold Ru at h|unfold Rv at h|unfold TG at h|unfold TH at h|unfold TI at h|unfold TJ at h|unfold TK at h)
 all_goals (split at h;rotate_left; · cases h)
 all_goals (simp only[Option.some.injEq,Prod.mk.injEq] at h;obtain⟨hc,rfl⟩:=h)
 ·exact eNrS_ok _ hc
 ·exact Sz _ hc
 ·exact SA _ hc
 ·exact xZ (Be _ hc)
 ·exact xZ (Bf _ _ _ _ rfl)
 ·exact xZ (MF _ hc)
 ·exact xZ (MG _ hc)
 ·exact xZ (MH _ hc)
 ·exact xZ (MI _ hc)
 ·exact xZ (Kc _ _ _ rfl)
 ·exact xZ (Ke _ _ rfl)
 ·exact xZ (Kg _ _ rfl)
 ·exact xZ (Kh _ hc)
 ·exact xZ (Ki _ hc)
theorem eNoS_ok (s:List UInt8) (hc:false=true):af eE 148 [.str s] (.int .i64 0):=by cases hc
theorem Yg:bq eE eSn:=by
 unfold eSn;refine bq.cons (fun args r h=>?_) bq.nil;all_goals (revert h;intro h;first|unfold eNoS at h)
 all_goals (split at h;rotate_left; · cases h)
 all_goals (simp only[Option.some.injEq,Prod.mk.injEq] at h;obtain⟨hc,rfl⟩:=h)
 ·exact eNoS_ok _ hc
theorem Xh (c:UInt8) (t:List UInt8):sat (c::t) 0=((c.toNat:Nat):Int):=rfl
theorem ZK (s:List UInt8) (hc:ai (aj s) 900=true):af eE 172 [.str s] (.bool (K4 s)):=by
 refine ah iY Yf 5 4 ?_
 (rw[ZJ];(conv=>zeta))
 have one:aj [45]=1:=rfl;rw[one];rcases s with _|⟨c,_|⟨d,t⟩⟩
 ·rfl
 ·
  have l1:ai 1 (aj [c])=true:=rfl;have l2:ak (ai 0 1) true=true:=rfl;have l3:dF [c] 0 1=[c]:=rfl;have l4:dF [c] 1 (aj [c])=[]:=rfl;have l5:ak (ai 0 0) (aT 0 (aj [c]))=true:=rfl;have l6:seq [c] []=false:=rfl;have e1:seq [c] [45]=(c==45):=by rw[Bool.eq_iff_iff,dI,beq_iff_eq];simp
  have e2:ai 48 ((c.toNat:Nat):Int)=decide (48≤c.toNat):=En c 48;have e3:ai ((c.toNat:Nat):Int) 57=decide (c.toNat≤57):=yO c 57;rw[l1,l2,l3,l4,l5,l6,Xh,e1,e2,e3];show _=some (V.bool (decide (48≤c.toNat)&&decide (c.toNat≤57)))
  cases h45:c==45 with
  |true=>
   have:c=45:=by simpa using h45
   subst this;rfl
  |false=>cases decide (48≤c.toNat)<;>cases decide (c.toNat≤57)<;>rfl
 ·
  rw[aA,aB] at hc;have l1:ai 1 (aj (c::d::t))=true:=bF (by rw[aB,List.length_cons,List.length_cons];omega);have l2:ak (ai 0 1) true=true:=rfl;have l3:dF (c::d::t) 0 1=[c]:=rfl;have l4:dF (c::d::t) 1 (aj (c::d::t))=d::t:=by
   unfold dF aj;show List.take (((c::d::t).length:Int).toNat-1) (d::t)=d::t;rw[List.take_of_length_le];simp;omega
  have l5:seq (d::t) []=false:=rfl;have l6:seq (c::d::t) []=false:=rfl;have l7:ak (ai 0 0) (aT 0 (aj (d::t)))=true:=by rw[bD (by rw[aB,List.length_cons];omega)];rfl
  have l8:ak (ai 0 0) (aT 0 (aj (c::d::t)))=true:=by rw[bD (by rw[aB,List.length_cons];omega)];rfl
  rw[l1,l2,l3,l4,l5,l6,l7,l8,Xh,Xh];have e1:seq [c] [45]=(c==45):=by rw[Bool.eq_iff_iff,dI,beq_iff_eq];simp
  have e2: ∀x:UInt8,ai 48 ((x.toNat:Nat):Int)=decide (48≤x.toNat):=fun x=>En x 48
  have e3: ∀x:UInt8,ai ((x.toNat:Nat):Int) 57=decide (x.toNat≤57):=fun x=>yO x 57
  rw[e1,e2,e2,e3,e3];show _=some (V.bool ((decide (48≤c.toNat)&&decide (c.toNat≤57))||(c==45&&(decide (48≤d.toNat)&&decide (d.toNat≤57)))))
  cases hc45:c==45 with
  |true=>
   have:c=45:=by simpa using hc45
   subst this
   cases decide (48≤d.toNat)<;>cases decide (d.toNat≤57)<;>rfl
  |false=>cases decide (48≤c.toNat)<;>cases decide (c.toNat≤57)<;>cases decide (48≤d.toNat)<;>cases decide (d.toNat≤57)<;>rfl
theorem u6 (s:List UInt8):Ld s=sel (seq s [45]) 0 (sel (K4 s) (svW s) (fF s)):=by
 unfold Ld rlP;simp only[bJ,dI]
 (repeat' split)<;>rfl
theorem gX (s:List UInt8):Wd s=sel (seq s [45]) 0 (sel (K4 s) 1 2):=by
 unfold Wd rlP;simp only[bJ,dI]
 (repeat' split)<;>rfl
theorem gZ (s:List UInt8):OT s=sel (seq s [45]) 0 (sel (K4 s) (svI s) 0):=by
 unfold OT rlP;simp only[bJ,dI]
 (repeat' split)<;>rfl
theorem ic (s:List UInt8):Tk s=sel (seq s [45]) [] (sel (K4 s) [] s):=by
 unfold Tk rlP;simp only[bJ,dI]
 (repeat' split)<;>rfl
theorem ig (s:List UInt8):svI s=sel (ieq (lK s) 0) (sel (ai (-10800) (eU s)) (sel (ai (eU s) 10800) (eU s) 0) 0) (eU s):=by
 unfold svI svP;simp only[bJ,aK,aA];by_cases h:lK s=0
 ·rw[if_pos h,if_pos h]
  by_cases h1: -10800≤eU s
  ·rw[if_pos h1]
   by_cases h2:eU s≤10800
   ·rw[if_pos h2,if_neg (by omega)]
   ·rw[if_neg h2,if_pos (by omega)]
  ·rw[if_neg h1,if_pos (by omega)]
 ·rw[if_neg h,if_neg h]
theorem jL (s:List UInt8) (m:Int):odK s m=sel (ieq (sQ s) 0) (sel (rQ (sK s) (jo s) (sM s) m) (sK s) 0) (sK s):=by
 unfold odK odP;simp only[bJ,aK]
 (repeat' split)<;>rfl
theorem jM (s:List UInt8) (m:Int):odW s m=sel (ieq (sQ s) 0) (sel (rQ (sK s) (jo s) (sM s) m) (jo s) 0) (jo s):=by
 unfold odW odP;simp only[bJ,aK]
 (repeat' split)<;>rfl
theorem jN (s:List UInt8) (m:Int):odD s m=sel (ieq (sQ s) 0) (sel (rQ (sK s) (jo s) (sM s) m) (sM s) 0) (sM s):=by
 unfold odD odP;simp only[bJ,aK]
 (repeat' split)<;>rfl
theorem Eo (a b:Int):aT a b=aG (ai b a):=by
 unfold aT ai aG;rw[Bool.eq_iff_iff,decide_eq_true_eq,Bool.not_eq_true',decide_eq_false_iff_not];omega
theorem Dr:ak true true=true:=rfl
theorem Ep:bq eE eS1:=by
 unfold eS1;refine bq.cons (fun args r h=>?_) Yf;all_goals (revert h;intro h;first|unfold eNumS at h)
 all_goals (split at h;rotate_left; · cases h)
 all_goals (simp only[Option.some.injEq,Prod.mk.injEq] at h;obtain⟨hc,rfl⟩:=h)
 ·exact ZK _ hc
def GM (s:List UInt8):Int:=sel (ieq (lK s) 0) (sel (ai (-54000) (eU s)) (sel (ai (eU s) 54000) 0 1) 1) (lK s)
def lM (xs:List V):Int:=sel (aT (av xs) 3) 5 (sel (aT 7 (av xs)) 6 (sel (ieq (GM (rg xs 0)) 0) (sel (ieq (Ld (rg xs 1)) 0) (sel (ieq (jG (rg xs 2)) 0) (BA (dL xs 3 (av xs))) (jG (rg xs 2))) (Ld (rg xs 1))) (GM (rg xs 0))))
def OU (xs:List V):Int:=sel (ieq (lM xs) 0) (eU (rg xs 0)) 0
def Tm (xs:List V):Int:=sel (ieq (lM xs) 0) (Wd (rg xs 1)) 0
def OV (xs:List V):Int:=sel (ieq (lM xs) 0) (OT (rg xs 1)) 0
def Q5 (xs:List V):List UInt8:=sel (ieq (lM xs) 0) (Tk (rg xs 1)) []
def Q6 (xs:List V):List UInt8:=sel (ieq (lM xs) 0) (rg xs 2) []
def F6 (xs:List V):Bool:=sel (ieq (lM xs) 0) (sS (dL xs 3 (av xs))) false
def OW (xs:List V):Int:=sel (ieq (lM xs) 0) (Br (dL xs 3 (av xs))) 0
def OX (xs:List V):Int:=sel (ieq (lM xs) 0) (sU (dL xs 3 (av xs))) 0
def Tn (xs:List V):Int:=sel (ieq (lM xs) 0) (Bt (dL xs 3 (av xs))) 0
def Tp (xs:List V):Int:=sel (ieq (lM xs) 0) (Bu (dL xs 3 (av xs))) 0
def Ag (xs:List V):Int:=sel (ieq (lM xs) 0) (Bv (dL xs 3 (av xs))) 0
def Ah (xs:List V):Int:=sel (ieq (lM xs) 0) (Bw (dL xs 3 (av xs))) 0
def Ai (xs:List V):Int:=sel (ieq (lM xs) 0) (Bz (dL xs 3 (av xs))) 0
def Ov (xs:List V):V:=.tup [.agg [.int .i64 (OU xs),.int .i64 (Tm xs),.int .i64 (OV xs),.str (Q5 xs),.str (Q6 xs),.bool (F6 xs),.int .i64 (OW xs),.int .i64 (OX xs),.int .i64 (Tn xs),.int .i64 (Tp xs),.int .i64 (Ag xs),.int .i64 (Ah xs),.int .i64 (Ai xs)],.int .i64 (lM xs)]
def erW (xs:List V) (x0 x1 x2:Int) (x3 x4:List UInt8) (x5:Bool) (x6 x7 x8 x9 x10 De Df:Int):V:=.tup [.agg [.int .i64 (sel (ieq (lM xs) 0) x0 0),.int .i64 (sel (ieq (lM xs) 0) x1 0),.int .i64 (sel (ieq (lM xs) 0) x2 0),.str (sel (ieq (lM xs) 0) x3 []),.str (sel (ieq (lM xs) 0) x4 []),.bool (sel (ieq (lM xs) 0) x5 false),.int .i64 (sel (ieq (lM xs) 0) x6 0),.int .i64 (sel (ieq (lM xs) 0) x7 0),.int .i64 (sel (ieq (lM xs) 0) x8 0),.int .i64 (sel (ieq (lM xs) 0) x9 0),.int .i64 (sel (ieq (lM xs) 0) x10 0),.int .i64 (sel (ieq (lM xs) 0) De 0),.int .i64 (sel (ieq (lM xs) 0) Df 0)],.int .i64 (lM xs)]
theorem kK (xs:List V) (x0 x1 x2:Int) (x3 x4:List UInt8) (x5:Bool) (x6 x7 x8 x9 x10 De Df:Int) (h:lM xs=0):erW xs x0 x1 x2 x3 x4 x5 x6 x7 x8 x9 x10 De Df=.tup [.agg [.int .i64 x0,.int .i64 x1,.int .i64 x2,.str x3,.str x4,.bool x5,.int .i64 x6,.int .i64 x7,.int .i64 x8,.int .i64 x9,.int .i64 x10,.int .i64 De,.int .i64 Df],.int .i64 0]:=by
 unfold erW;rw[h];rfl
theorem aQ (xs:List V) {e:Int} (h:lM xs=e) (he:ieq e 0=false):Ov xs=.tup [.agg [.int .i64 0,.int .i64 0,.int .i64 0,.str [],.str [],.bool false,.int .i64 0,.int .i64 0,.int .i64 0,.int .i64 0,.int .i64 0,.int .i64 0,.int .i64 0],.int .i64 e]:=by
 unfold Ov OU Tm OV Q5 Q6 F6 OW OX Tn Tp Ag Ah Ai;rw[h,he];rfl
set_option maxHeartbeats 2000000 in
theorem Vt (a0 a1 a2:List UInt8) (h0:ai (aj a0) 900=true) (h1:ai (aj a1) 900=true) (h2:ai (aj a2) 900=true):af eE 106 [.sl 9 [.str] none [.str a0,.str a1,.str a2]] (Ov [.str a0,.str a1,.str a2]):=by
 refine ah iY Ep 9 10 ?_
 (rw[Gz];(conv=>zeta))
 have g1:lM [.str a0,.str a1,.str a2]=sel (ieq (GM a0) 0) (sel (ieq (Ld a1) 0) (sel (ieq (jG a2) 0) (BA []) (jG a2)) (Ld a1)) (GM a0):=rfl;have gY:Ov [.str a0,.str a1,.str a2]=erW [.str a0,.str a1,.str a2] (eU a0) (Wd a1) (OT a1) (Tk a1) a2 (sS []) (Br []) (sU []) (Bt []) (Bu []) (Bv []) (Bw []) (Bz []):=rfl;have z1:ieq 1 0=false:=rfl;have z0:ieq 0 0=true:=rfl;have b0:aG true=false:=rfl;have b1:aG false=true:=rfl;have gE:BA []=0:=rfl;simp only[h0,h1,h2,Eo,sT];have hT:=g1;simp only[GM,u6,gN,gE,sT,sF,z0,z1,b0,b1] at hT
 cases e0:ieq (lK a0) 0 with
 |false=>simp only[e0,sT,sF,z0,z1,b0,b1] at hT⊢;rw[aQ _ hT e0]
 |true=>
 simp only[e0,sT,sF,z0,z1,b0,b1] at hT⊢
 cases e1:ai (-54000) (eU a0) with
 |false=>simp only[e1,sT,sF,z0,z1,b0,b1] at hT⊢;rw[aQ _ hT rfl]
 |true=>
 simp only[e1,sT,sF,z0,z1,b0,b1] at hT⊢
 cases e2:ai (eU a0) 54000 with
 |false=>simp only[e2,sT,sF,z0,z1,b0,b1] at hT⊢;rw[aQ _ hT rfl]
 |true=>
 simp only[e2,sT,sF,z0,z1,b0,b1] at hT⊢
 cases e3:seq a1 [45] with
 |true=>
  simp only[e3,sT,sF,z0,z1,b0,b1] at hT⊢
  cases ec:ieq (jG a2) 0 with
  |false=>simp only[ec,sT,sF,z0,z1,b0,b1] at hT⊢;rw[aQ _ hT ec]
  |true=>
  simp only[ec,sT,sF,z0,z1,b0,b1] at hT⊢;have c0:jG a2=0:=by rw[aK] at ec;exact ec
  rw[gY,kK _ _ _ _ _ _ _ _ _ _ _ _ _ _ (by first|exact hT|(rw[hT];first|rfl|assumption))];simp only[gX,gZ,ic,gN,ig,gE,e0,e1,e2,e3,ec,c0,sT,sF,z0,z1,b0,b1];rfl
 |false=>
 cases e4:K4 a1 with
 |true=>
  simp only[e3,e4,sT,sF,z0,z1,b0,b1] at hT⊢
  cases e5:ieq (lK a1) 0 with
  |false=>simp only[e5,sT,sF,z0,z1,b0,b1] at hT⊢;rw[aQ _ hT e5]
  |true=>
  simp only[e5,sT,sF,z0,z1,b0,b1] at hT⊢
  cases e6:ai (-10800) (eU a1) with
  |false=>simp only[e6,sT,sF,z0,z1,b0,b1] at hT⊢;rw[aQ _ hT rfl]
  |true=>
  simp only[e6,sT,sF,z0,z1,b0,b1] at hT⊢
  cases e7:ai (eU a1) 10800 with
  |false=>simp only[e7,sT,sF,z0,z1,b0,b1] at hT⊢;rw[aQ _ hT rfl]
  |true=>
  simp only[e7,sT,sF,z0,z1,b0,b1] at hT⊢
  cases ec:ieq (jG a2) 0 with
  |false=>simp only[ec,sT,sF,z0,z1,b0,b1] at hT⊢;rw[aQ _ hT ec]
  |true=>
  simp only[ec,sT,sF,z0,z1,b0,b1] at hT⊢;have c0:jG a2=0:=by rw[aK] at ec;exact ec
  rw[gY,kK _ _ _ _ _ _ _ _ _ _ _ _ _ _ (by first|exact hT|(rw[hT];first|rfl|assumption))];simp only[gX,gZ,ic,gN,ig,gE,e0,e1,e2,e3,e4,e5,e6,e7,ec,c0,sT,sF,z0,z1,b0,b1];rfl
 |false=>
 simp only[e3,e4,xu h1,sT,sF,z0,z1,b0,b1] at hT⊢
 cases e5:ieq (fF a1) 0 with
 |false=>simp only[e5,sT,sF,z0,z1,b0,b1] at hT⊢;rw[aQ _ hT e5]
 |true=>
 simp only[e5,sT,sF,z0,z1,b0,b1] at hT⊢;have q0:fF a1=0:=by rw[aK] at e5;exact e5
 cases ec:ieq (jG a2) 0 with
 |false=>simp only[ec,sT,sF,z0,z1,b0,b1] at hT⊢;rw[aQ _ hT ec]
 |true=>
 simp only[ec,sT,sF,z0,z1,b0,b1] at hT⊢;have c0:jG a2=0:=by rw[aK] at ec;exact ec
 rw[gY,kK _ _ _ _ _ _ _ _ _ _ _ _ _ _ (by first|exact hT|(rw[hT];first|rfl|assumption))];simp only[gX,gZ,ic,gN,ig,gE,e0,e1,e2,e3,e4,e5,q0,ec,c0,sT,sF,z0,z1,b0,b1];rfl
set_option maxHeartbeats 2000000 in
theorem Vu (a0 a1 a2 a3:List UInt8) (h0:ai (aj a0) 900=true) (h1:ai (aj a1) 900=true) (h2:ai (aj a2) 900=true) (h3:ai (aj a3) 900=true):af eE 106 [.sl 9 [.str] none [.str a0,.str a1,.str a2,.str a3]] (Ov [.str a0,.str a1,.str a2,.str a3]):=by
 refine ah iY Ep 9 10 ?_
 (rw[GA];(conv=>zeta))
 have g1:lM [.str a0,.str a1,.str a2,.str a3]=sel (ieq (GM a0) 0) (sel (ieq (Ld a1) 0) (sel (ieq (jG a2) 0) (BA [.str a3]) (jG a2)) (Ld a1)) (GM a0):=rfl;have gY:Ov [.str a0,.str a1,.str a2,.str a3]=erW [.str a0,.str a1,.str a2,.str a3] (eU a0) (Wd a1) (OT a1) (Tk a1) a2 (sS [.str a3]) (Br [.str a3]) (sU [.str a3]) (Bt [.str a3]) (Bu [.str a3]) (Bv [.str a3]) (Bw [.str a3]) (Bz [.str a3]):=rfl;have z1:ieq 1 0=false:=rfl;have z0:ieq 0 0=true:=rfl;have b0:aG true=false:=rfl;have b1:aG false=true:=rfl;have r3:rg [.str a3] 0=a3:=rfl;have hl:av [.str a3]=1:=rfl;simp only[h0,h1,h2,h3,Eo,sT];have hT:=g1;simp only[GM,u6,gN,BA,K5,GL,GK,en0,p9,sS,r3,hl,show ieq 1 0=false from rfl,show aT 1 1=false from rfl,show aT 2 1=false from rfl,show aT 3 1=false from rfl,jw,sT,sF,z0,z1,b0,b1] at hT
 cases e0:ieq (lK a0) 0 with
 |false=>simp only[e0,sT,sF,z0,z1,b0,b1] at hT⊢;rw[aQ _ hT e0]
 |true=>
 simp only[e0,sT,sF,z0,z1,b0,b1] at hT⊢
 cases e1:ai (-54000) (eU a0) with
 |false=>simp only[e1,sT,sF,z0,z1,b0,b1] at hT⊢;rw[aQ _ hT rfl]
 |true=>
 simp only[e1,sT,sF,z0,z1,b0,b1] at hT⊢
 cases e2:ai (eU a0) 54000 with
 |false=>simp only[e2,sT,sF,z0,z1,b0,b1] at hT⊢;rw[aQ _ hT rfl]
 |true=>
 simp only[e2,sT,sF,z0,z1,b0,b1] at hT⊢
 cases e3:seq a1 [45] with
 |true=>
  simp only[e3,sT,sF,z0,z1,b0,b1] at hT⊢
  cases ec:ieq (jG a2) 0 with
  |false=>simp only[ec,sT,sF,z0,z1,b0,b1] at hT⊢;rw[aQ _ hT ec]
  |true=>
  simp only[ec,sT,sF,z0,z1,b0,b1] at hT⊢;have c0:jG a2=0:=by rw[aK] at ec;exact ec
  cases en:ieq (nrW a3) 0 with
  |false=>simp only[en,sT,sF,z0,z1,b0,b1] at hT⊢;rw[aQ _ hT en]
  |true=>
  simp only[en,sT,sF,z0,z1,b0,b1] at hT⊢
  cases ey:ai (gW a3) (-32767) with
  |true=>simp only[ey,sT,sF,z0,z1,b0,b1] at hT⊢;rw[aQ _ hT rfl]
  |false=>
  simp only[ey,sT,sF,z0,z1,b0,b1] at hT⊢
  cases ez:ai 32767 (gW a3) with
  |true=>simp only[ez,sT,sF,z0,z1,b0,b1] at hT⊢;rw[aQ _ hT rfl]
  |false=>
  simp only[ez,sT,sF,z0,z1,b0,b1] at hT⊢;have n0:nrW a3=0:=by rw[aK] at en;exact en
  rw[gY,kK _ _ _ _ _ _ _ _ _ _ _ _ _ _ (by first|exact hT|(rw[hT];first|rfl|assumption))];simp only[gX,gZ,ic,gN,ig,Br,sU,Bt,Bu,Bv,Bw,Bz,vJ,rY,jL,jM,jN,BA,K5,GL,GK,en0,p9,sS,r3,hl,show ieq 1 0=false from rfl,show aT 1 1=false from rfl,show aT 2 1=false from rfl,show aT 3 1=false from rfl,jw,e0,e1,e2,e3,ec,c0,en,ey,ez,n0,sT,sF,z0,z1,b0,b1]
 |false=>
 cases e4:K4 a1 with
 |true=>
  simp only[e3,e4,sT,sF,z0,z1,b0,b1] at hT⊢
  cases e5:ieq (lK a1) 0 with
  |false=>simp only[e5,sT,sF,z0,z1,b0,b1] at hT⊢;rw[aQ _ hT e5]
  |true=>
  simp only[e5,sT,sF,z0,z1,b0,b1] at hT⊢
  cases e6:ai (-10800) (eU a1) with
  |false=>simp only[e6,sT,sF,z0,z1,b0,b1] at hT⊢;rw[aQ _ hT rfl]
  |true=>
  simp only[e6,sT,sF,z0,z1,b0,b1] at hT⊢
  cases e7:ai (eU a1) 10800 with
  |false=>simp only[e7,sT,sF,z0,z1,b0,b1] at hT⊢;rw[aQ _ hT rfl]
  |true=>
  simp only[e7,sT,sF,z0,z1,b0,b1] at hT⊢
  cases ec:ieq (jG a2) 0 with
  |false=>simp only[ec,sT,sF,z0,z1,b0,b1] at hT⊢;rw[aQ _ hT ec]
  |true=>
  simp only[ec,sT,sF,z0,z1,b0,b1] at hT⊢;have c0:jG a2=0:=by rw[aK] at ec;exact ec
  cases en:ieq (nrW a3) 0 with
  |false=>simp only[en,sT,sF,z0,z1,b0,b1] at hT⊢;rw[aQ _ hT en]
  |true=>
  simp only[en,sT,sF,z0,z1,b0,b1] at hT⊢
  cases ey:ai (gW a3) (-32767) with
  |true=>simp only[ey,sT,sF,z0,z1,b0,b1] at hT⊢;rw[aQ _ hT rfl]
  |false=>
  simp only[ey,sT,sF,z0,z1,b0,b1] at hT⊢
  cases ez:ai 32767 (gW a3) with
  |true=>simp only[ez,sT,sF,z0,z1,b0,b1] at hT⊢;rw[aQ _ hT rfl]
  |false=>
  simp only[ez,sT,sF,z0,z1,b0,b1] at hT⊢;have n0:nrW a3=0:=by rw[aK] at en;exact en
  rw[gY,kK _ _ _ _ _ _ _ _ _ _ _ _ _ _ (by first|exact hT|(rw[hT];first|rfl|assumption))];simp only[gX,gZ,ic,gN,ig,Br,sU,Bt,Bu,Bv,Bw,Bz,vJ,rY,jL,jM,jN,BA,K5,GL,GK,en0,p9,sS,r3,hl,show ieq 1 0=false from rfl,show aT 1 1=false from rfl,show aT 2 1=false from rfl,show aT 3 1=false from rfl,jw,e0,e1,e2,e3,e4,e5,e6,e7,ec,c0,en,ey,ez,n0,sT,sF,z0,z1,b0,b1]
 |false=>
 simp only[e3,e4,xu h1,sT,sF,z0,z1,b0,b1] at hT⊢
 cases e5:ieq (fF a1) 0 with
 |false=>simp only[e5,sT,sF,z0,z1,b0,b1] at hT⊢;rw[aQ _ hT e5]
 |true=>
 simp only[e5,sT,sF,z0,z1,b0,b1] at hT⊢;have q0:fF a1=0:=by rw[aK] at e5;exact e5
 cases ec:ieq (jG a2) 0 with
 |false=>simp only[ec,sT,sF,z0,z1,b0,b1] at hT⊢;rw[aQ _ hT ec]
 |true=>
 simp only[ec,sT,sF,z0,z1,b0,b1] at hT⊢;have c0:jG a2=0:=by rw[aK] at ec;exact ec
 cases en:ieq (nrW a3) 0 with
 |false=>simp only[en,sT,sF,z0,z1,b0,b1] at hT⊢;rw[aQ _ hT en]
 |true=>
 simp only[en,sT,sF,z0,z1,b0,b1] at hT⊢
 cases ey:ai (gW a3) (-32767) with
 |true=>simp only[ey,sT,sF,z0,z1,b0,b1] at hT⊢;rw[aQ _ hT rfl]
 |false=>
 simp only[ey,sT,sF,z0,z1,b0,b1] at hT⊢
 cases ez:ai 32767 (gW a3) with
 |true=>simp only[ez,sT,sF,z0,z1,b0,b1] at hT⊢;rw[aQ _ hT rfl]
 |false=>
 simp only[ez,sT,sF,z0,z1,b0,b1] at hT⊢;have n0:nrW a3=0:=by rw[aK] at en;exact en
 rw[gY,kK _ _ _ _ _ _ _ _ _ _ _ _ _ _ (by first|exact hT|(rw[hT];first|rfl|assumption))];simp only[gX,gZ,ic,gN,ig,Br,sU,Bt,Bu,Bv,Bw,Bz,vJ,rY,jL,jM,jN,BA,K5,GL,GK,en0,p9,sS,r3,hl,show ieq 1 0=false from rfl,show aT 1 1=false from rfl,show aT 2 1=false from rfl,show aT 3 1=false from rfl,jw,e0,e1,e2,e3,e4,e5,q0,ec,c0,en,ey,ez,n0,sT,sF,z0,z1,b0,b1]
set_option maxHeartbeats 2000000 in
theorem Vv (a0 a1 a2 a3 a4:List UInt8) (h0:ai (aj a0) 900=true) (h1:ai (aj a1) 900=true) (h2:ai (aj a2) 900=true) (h3:ai (aj a3) 900=true) (h4:ai (aj a4) 900=true):af eE 106 [.sl 9 [.str] none [.str a0,.str a1,.str a2,.str a3,.str a4]] (Ov [.str a0,.str a1,.str a2,.str a3,.str a4]):=by
 refine ah iY Ep 9 10 ?_
 (rw[GD];(conv=>zeta))
 have g1:lM [.str a0,.str a1,.str a2,.str a3,.str a4]=sel (ieq (GM a0) 0) (sel (ieq (Ld a1) 0) (sel (ieq (jG a2) 0) (BA [.str a3,.str a4]) (jG a2)) (Ld a1)) (GM a0):=rfl;have gY:Ov [.str a0,.str a1,.str a2,.str a3,.str a4]=erW [.str a0,.str a1,.str a2,.str a3,.str a4] (eU a0) (Wd a1) (OT a1) (Tk a1) a2 (sS [.str a3,.str a4]) (Br [.str a3,.str a4]) (sU [.str a3,.str a4]) (Bt [.str a3,.str a4]) (Bu [.str a3,.str a4]) (Bv [.str a3,.str a4]) (Bw [.str a3,.str a4]) (Bz [.str a3,.str a4]):=rfl;have z1:ieq 1 0=false:=rfl;have z0:ieq 0 0=true:=rfl;have b0:aG true=false:=rfl;have b1:aG false=true:=rfl;have r3:rg [.str a3,.str a4] 0=a3:=rfl;have r4:rg [.str a3,.str a4] 1=a4:=rfl;have hl:av [.str a3,.str a4]=2:=rfl;simp only[h0,h1,h2,h3,h4,Eo,sT];have hT:=g1;simp only[GM,u6,gN,BA,K5,GL,GK,en0,p9,sS,r3,r4,hl,show ieq 2 0=false from rfl,show aT 1 2=true from rfl,show aT 2 2=false from rfl,show aT 3 2=false from rfl,jw,sT,sF,z0,z1,b0,b1] at hT
 cases e0:ieq (lK a0) 0 with
 |false=>simp only[e0,sT,sF,z0,z1,b0,b1] at hT⊢;rw[aQ _ hT e0]
 |true=>
 simp only[e0,sT,sF,z0,z1,b0,b1] at hT⊢
 cases e1:ai (-54000) (eU a0) with
 |false=>simp only[e1,sT,sF,z0,z1,b0,b1] at hT⊢;rw[aQ _ hT rfl]
 |true=>
 simp only[e1,sT,sF,z0,z1,b0,b1] at hT⊢
 cases e2:ai (eU a0) 54000 with
 |false=>simp only[e2,sT,sF,z0,z1,b0,b1] at hT⊢;rw[aQ _ hT rfl]
 |true=>
 simp only[e2,sT,sF,z0,z1,b0,b1] at hT⊢
 cases e3:seq a1 [45] with
 |true=>
  simp only[e3,sT,sF,z0,z1,b0,b1] at hT⊢
  cases ec:ieq (jG a2) 0 with
  |false=>simp only[ec,sT,sF,z0,z1,b0,b1] at hT⊢;rw[aQ _ hT ec]
  |true=>
  simp only[ec,sT,sF,z0,z1,b0,b1] at hT⊢;have c0:jG a2=0:=by rw[aK] at ec;exact ec
  cases en:ieq (nrW a3) 0 with
  |false=>simp only[en,sT,sF,z0,z1,b0,b1] at hT⊢;rw[aQ _ hT en]
  |true=>
  simp only[en,sT,sF,z0,z1,b0,b1] at hT⊢
  cases ey:ai (gW a3) (-32767) with
  |true=>simp only[ey,sT,sF,z0,z1,b0,b1] at hT⊢;rw[aQ _ hT rfl]
  |false=>
  simp only[ey,sT,sF,z0,z1,b0,b1] at hT⊢
  cases ez:ai 32767 (gW a3) with
  |true=>simp only[ez,sT,sF,z0,z1,b0,b1] at hT⊢;rw[aQ _ hT rfl]
  |false=>
  simp only[ez,sT,sF,z0,z1,b0,b1] at hT⊢
  cases em:ieq (pX a4) 0 with
  |false=>simp only[em,sT,sF,z0,z1,b0,b1] at hT⊢;rw[aQ _ hT em]
  |true=>
  simp only[em,sT,sF,z0,z1,b0,b1] at hT⊢;have m0:pX a4=0:=by rw[aK] at em;exact em
  have n0:nrW a3=0:=by rw[aK] at en;exact en
  rw[gY,kK _ _ _ _ _ _ _ _ _ _ _ _ _ _ (by first|exact hT|(rw[hT];first|rfl|assumption))];simp only[gX,gZ,ic,gN,ig,Br,sU,Bt,Bu,Bv,Bw,Bz,vJ,rY,jL,jM,jN,BA,K5,GL,GK,en0,p9,sS,r3,r4,hl,show ieq 2 0=false from rfl,show aT 1 2=true from rfl,show aT 2 2=false from rfl,show aT 3 2=false from rfl,jw,e0,e1,e2,e3,ec,c0,en,ey,ez,em,m0,n0,sT,sF,z0,z1,b0,b1]
 |false=>
 cases e4:K4 a1 with
 |true=>
  simp only[e3,e4,sT,sF,z0,z1,b0,b1] at hT⊢
  cases e5:ieq (lK a1) 0 with
  |false=>simp only[e5,sT,sF,z0,z1,b0,b1] at hT⊢;rw[aQ _ hT e5]
  |true=>
  simp only[e5,sT,sF,z0,z1,b0,b1] at hT⊢
  cases e6:ai (-10800) (eU a1) with
  |false=>simp only[e6,sT,sF,z0,z1,b0,b1] at hT⊢;rw[aQ _ hT rfl]
  |true=>
  simp only[e6,sT,sF,z0,z1,b0,b1] at hT⊢
  cases e7:ai (eU a1) 10800 with
  |false=>simp only[e7,sT,sF,z0,z1,b0,b1] at hT⊢;rw[aQ _ hT rfl]
  |true=>
  simp only[e7,sT,sF,z0,z1,b0,b1] at hT⊢
  cases ec:ieq (jG a2) 0 with
  |false=>simp only[ec,sT,sF,z0,z1,b0,b1] at hT⊢;rw[aQ _ hT ec]
  |true=>
  simp only[ec,sT,sF,z0,z1,b0,b1] at hT⊢;have c0:jG a2=0:=by rw[aK] at ec;exact ec
  cases en:ieq (nrW a3) 0 with
  |false=>simp only[en,sT,sF,z0,z1,b0,b1] at hT⊢;rw[aQ _ hT en]
  |true=>
  simp only[en,sT,sF,z0,z1,b0,b1] at hT⊢
  cases ey:ai (gW a3) (-32767) with
  |true=>simp only[ey,sT,sF,z0,z1,b0,b1] at hT⊢;rw[aQ _ hT rfl]
  |false=>
  simp only[ey,sT,sF,z0,z1,b0,b1] at hT⊢
  cases ez:ai 32767 (gW a3) with
  |true=>simp only[ez,sT,sF,z0,z1,b0,b1] at hT⊢;rw[aQ _ hT rfl]
  |false=>
  simp only[ez,sT,sF,z0,z1,b0,b1] at hT⊢
  cases em:ieq (pX a4) 0 with
  |false=>simp only[em,sT,sF,z0,z1,b0,b1] at hT⊢;rw[aQ _ hT em]
  |true=>
  simp only[em,sT,sF,z0,z1,b0,b1] at hT⊢;have m0:pX a4=0:=by rw[aK] at em;exact em
  have n0:nrW a3=0:=by rw[aK] at en;exact en
  rw[gY,kK _ _ _ _ _ _ _ _ _ _ _ _ _ _ (by first|exact hT|(rw[hT];first|rfl|assumption))];simp only[gX,gZ,ic,gN,ig,Br,sU,Bt,Bu,Bv,Bw,Bz,vJ,rY,jL,jM,jN,BA,K5,GL,GK,en0,p9,sS,r3,r4,hl,show ieq 2 0=false from rfl,show aT 1 2=true from rfl,show aT 2 2=false from rfl,show aT 3 2=false from rfl,jw,e0,e1,e2,e3,e4,e5,e6,e7,ec,c0,en,ey,ez,em,m0,n0,sT,sF,z0,z1,b0,b1]
 |false=>
 simp only[e3,e4,xu h1,sT,sF,z0,z1,b0,b1] at hT⊢
 cases e5:ieq (fF a1) 0 with
 |false=>simp only[e5,sT,sF,z0,z1,b0,b1] at hT⊢;rw[aQ _ hT e5]
 |true=>
 simp only[e5,sT,sF,z0,z1,b0,b1] at hT⊢;have q0:fF a1=0:=by rw[aK] at e5;exact e5
 cases ec:ieq (jG a2) 0 with
 |false=>simp only[ec,sT,sF,z0,z1,b0,b1] at hT⊢;rw[aQ _ hT ec]
 |true=>
 simp only[ec,sT,sF,z0,z1,b0,b1] at hT⊢;have c0:jG a2=0:=by rw[aK] at ec;exact ec
 cases en:ieq (nrW a3) 0 with
 |false=>simp only[en,sT,sF,z0,z1,b0,b1] at hT⊢;rw[aQ _ hT en]
 |true=>
 simp only[en,sT,sF,z0,z1,b0,b1] at hT⊢
 cases ey:ai (gW a3) (-32767) with
 |true=>simp only[ey,sT,sF,z0,z1,b0,b1] at hT⊢;rw[aQ _ hT rfl]
 |false=>
 simp only[ey,sT,sF,z0,z1,b0,b1] at hT⊢
 cases ez:ai 32767 (gW a3) with
 |true=>simp only[ez,sT,sF,z0,z1,b0,b1] at hT⊢;rw[aQ _ hT rfl]
 |false=>
 simp only[ez,sT,sF,z0,z1,b0,b1] at hT⊢
 cases em:ieq (pX a4) 0 with
 |false=>simp only[em,sT,sF,z0,z1,b0,b1] at hT⊢;rw[aQ _ hT em]
 |true=>
 simp only[em,sT,sF,z0,z1,b0,b1] at hT⊢;have m0:pX a4=0:=by rw[aK] at em;exact em
 have n0:nrW a3=0:=by rw[aK] at en;exact en
 rw[gY,kK _ _ _ _ _ _ _ _ _ _ _ _ _ _ (by first|exact hT|(rw[hT];first|rfl|assumption))];simp only[gX,gZ,ic,gN,ig,Br,sU,Bt,Bu,Bv,Bw,Bz,vJ,rY,jL,jM,jN,BA,K5,GL,GK,en0,p9,sS,r3,r4,hl,show ieq 2 0=false from rfl,show aT 1 2=true from rfl,show aT 2 2=false from rfl,show aT 3 2=false from rfl,jw,e0,e1,e2,e3,e4,e5,q0,ec,c0,en,ey,ez,em,m0,n0,sT,sF,z0,z1,b0,b1]
set_option maxHeartbeats 2000000 in
theorem Vw (a0 a1 a2 a3 a4 a5:List UInt8) (h0:ai (aj a0) 900=true) (h1:ai (aj a1) 900=true) (h2:ai (aj a2) 900=true) (h3:ai (aj a3) 900=true) (h4:ai (aj a4) 900=true) (h5:ai (aj a5) 900=true):af eE 106 [.sl 9 [.str] none [.str a0,.str a1,.str a2,.str a3,.str a4,.str a5]] (Ov [.str a0,.str a1,.str a2,.str a3,.str a4,.str a5]):=by
 refine ah iY Ep 9 10 ?_
 (rw[GG];(conv=>zeta))
 have g1:lM [.str a0,.str a1,.str a2,.str a3,.str a4,.str a5]=sel (ieq (GM a0) 0) (sel (ieq (Ld a1) 0) (sel (ieq (jG a2) 0) (BA [.str a3,.str a4,.str a5]) (jG a2)) (Ld a1)) (GM a0):=rfl;have gY:Ov [.str a0,.str a1,.str a2,.str a3,.str a4,.str a5]=erW [.str a0,.str a1,.str a2,.str a3,.str a4,.str a5] (eU a0) (Wd a1) (OT a1) (Tk a1) a2 (sS [.str a3,.str a4,.str a5]) (Br [.str a3,.str a4,.str a5]) (sU [.str a3,.str a4,.str a5]) (Bt [.str a3,.str a4,.str a5]) (Bu [.str a3,.str a4,.str a5]) (Bv [.str a3,.str a4,.str a5]) (Bw [.str a3,.str a4,.str a5]) (Bz [.str a3,.str a4,.str a5]):=rfl;have z1:ieq 1 0=false:=rfl;have z0:ieq 0 0=true:=rfl;have b0:aG true=false:=rfl;have b1:aG false=true:=rfl;have r3:rg [.str a3,.str a4,.str a5] 0=a3:=rfl;have r4:rg [.str a3,.str a4,.str a5] 1=a4:=rfl;have r5:rg [.str a3,.str a4,.str a5] 2=a5:=rfl;have hl:av [.str a3,.str a4,.str a5]=3:=rfl;simp only[h0,h1,h2,h3,h4,h5,Eo,sT];have hT:=g1;simp only[GM,u6,gN,BA,K5,GL,GK,en0,p9,sS,r3,r4,r5,hl,show ieq 3 0=false from rfl,show aT 1 3=true from rfl,show aT 2 3=true from rfl,show aT 3 3=false from rfl,jw,sT,sF,z0,z1,b0,b1] at hT
 cases e0:ieq (lK a0) 0 with
 |false=>simp only[e0,sT,sF,z0,z1,b0,b1] at hT⊢;rw[aQ _ hT e0]
 |true=>
 simp only[e0,sT,sF,z0,z1,b0,b1] at hT⊢
 cases e1:ai (-54000) (eU a0) with
 |false=>simp only[e1,sT,sF,z0,z1,b0,b1] at hT⊢;rw[aQ _ hT rfl]
 |true=>
 simp only[e1,sT,sF,z0,z1,b0,b1] at hT⊢
 cases e2:ai (eU a0) 54000 with
 |false=>simp only[e2,sT,sF,z0,z1,b0,b1] at hT⊢;rw[aQ _ hT rfl]
 |true=>
 simp only[e2,sT,sF,z0,z1,b0,b1] at hT⊢
 cases e3:seq a1 [45] with
 |true=>
  simp only[e3,sT,sF,z0,z1,b0,b1] at hT⊢
  cases ec:ieq (jG a2) 0 with
  |false=>simp only[ec,sT,sF,z0,z1,b0,b1] at hT⊢;rw[aQ _ hT ec]
  |true=>
  simp only[ec,sT,sF,z0,z1,b0,b1] at hT⊢;have c0:jG a2=0:=by rw[aK] at ec;exact ec
  cases en:ieq (nrW a3) 0 with
  |false=>simp only[en,sT,sF,z0,z1,b0,b1] at hT⊢;rw[aQ _ hT en]
  |true=>
  simp only[en,sT,sF,z0,z1,b0,b1] at hT⊢
  cases ey:ai (gW a3) (-32767) with
  |true=>simp only[ey,sT,sF,z0,z1,b0,b1] at hT⊢;rw[aQ _ hT rfl]
  |false=>
  simp only[ey,sT,sF,z0,z1,b0,b1] at hT⊢
  cases ez:ai 32767 (gW a3) with
  |true=>simp only[ez,sT,sF,z0,z1,b0,b1] at hT⊢;rw[aQ _ hT rfl]
  |false=>
  simp only[ez,sT,sF,z0,z1,b0,b1] at hT⊢
  cases em:ieq (pX a4) 0 with
  |false=>simp only[em,sT,sF,z0,z1,b0,b1] at hT⊢;rw[aQ _ hT em]
  |true=>
  simp only[em,sT,sF,z0,z1,b0,b1] at hT⊢
  cases ed:ieq (sQ a5) 0 with
  |false=>simp only[ed,sT,sF,z0,z1,b0,b1] at hT⊢;rw[aQ _ hT ed]
  |true=>
  simp only[ed,sT,sF,z0,z1,b0,b1] at hT⊢
  cases ef:rQ (sK a5) (jo a5) (sM a5) (vD a4) with
  |false=>simp only[ef,sT,sF,z0,z1,b0,b1] at hT⊢;rw[aQ _ hT rfl]
  |true=>
  simp only[ef,sT,sF,z0,z1,b0,b1] at hT⊢;have m0:pX a4=0:=by rw[aK] at em;exact em
  have n0:nrW a3=0:=by rw[aK] at en;exact en
  rw[gY,kK _ _ _ _ _ _ _ _ _ _ _ _ _ _ (by first|exact hT|(rw[hT];first|rfl|assumption))];simp only[gX,gZ,ic,gN,ig,Br,sU,Bt,Bu,Bv,Bw,Bz,vJ,rY,jL,jM,jN,BA,K5,GL,GK,en0,p9,sS,r3,r4,r5,hl,show ieq 3 0=false from rfl,show aT 1 3=true from rfl,show aT 2 3=true from rfl,show aT 3 3=false from rfl,jw,e0,e1,e2,e3,ec,c0,en,ey,ez,em,ed,ef,m0,n0,sT,sF,z0,z1,b0,b1]
 |false=>
 cases e4:K4 a1 with
 |true=>
  simp only[e3,e4,sT,sF,z0,z1,b0,b1] at hT⊢
  cases e5:ieq (lK a1) 0 with
  |false=>simp only[e5,sT,sF,z0,z1,b0,b1] at hT⊢;rw[aQ _ hT e5]
  |true=>
  simp only[e5,sT,sF,z0,z1,b0,b1] at hT⊢
  cases e6:ai (-10800) (eU a1) with
  |false=>simp only[e6,sT,sF,z0,z1,b0,b1] at hT⊢;rw[aQ _ hT rfl]
  |true=>
  simp only[e6,sT,sF,z0,z1,b0,b1] at hT⊢
  cases e7:ai (eU a1) 10800 with
  |false=>simp only[e7,sT,sF,z0,z1,b0,b1] at hT⊢;rw[aQ _ hT rfl]
  |true=>
  simp only[e7,sT,sF,z0,z1,b0,b1] at hT⊢
  cases ec:ieq (jG a2) 0 with
  |false=>simp only[ec,sT,sF,z0,z1,b0,b1] at hT⊢;rw[aQ _ hT ec]
  |true=>
  simp only[ec,sT,sF,z0,z1,b0,b1] at hT⊢;have c0:jG a2=0:=by rw[aK] at ec;exact ec
  cases en:ieq (nrW a3) 0 with
  |false=>simp only[en,sT,sF,z0,z1,b0,b1] at hT⊢;rw[aQ _ hT en]
  |true=>
  simp only[en,sT,sF,z0,z1,b0,b1] at hT⊢
  cases ey:ai (gW a3) (-32767) with
  |true=>simp only[ey,sT,sF,z0,z1,b0,b1] at hT⊢;rw[aQ _ hT rfl]
  |false=>
  simp only[ey,sT,sF,z0,z1,b0,b1] at hT⊢
  cases ez:ai 32767 (gW a3) with
  |true=>simp only[ez,sT,sF,z0,z1,b0,b1] at hT⊢;rw[aQ _ hT rfl]
  |false=>
  simp only[ez,sT,sF,z0,z1,b0,b1] at hT⊢
  cases em:ieq (pX a4) 0 with
  |false=>simp only[em,sT,sF,z0,z1,b0,b1] at hT⊢;rw[aQ _ hT em]
  |true=>
  simp only[em,sT,sF,z0,z1,b0,b1] at hT⊢
  cases ed:ieq (sQ a5) 0 with
  |false=>simp only[ed,sT,sF,z0,z1,b0,b1] at hT⊢;rw[aQ _ hT ed]
  |true=>
  simp only[ed,sT,sF,z0,z1,b0,b1] at hT⊢
  cases ef:rQ (sK a5) (jo a5) (sM a5) (vD a4) with
  |false=>simp only[ef,sT,sF,z0,z1,b0,b1] at hT⊢;rw[aQ _ hT rfl]
  |true=>
  simp only[ef,sT,sF,z0,z1,b0,b1] at hT⊢;have m0:pX a4=0:=by rw[aK] at em;exact em
  have n0:nrW a3=0:=by rw[aK] at en;exact en
  rw[gY,kK _ _ _ _ _ _ _ _ _ _ _ _ _ _ (by first|exact hT|(rw[hT];first|rfl|assumption))];simp only[gX,gZ,ic,gN,ig,Br,sU,Bt,Bu,Bv,Bw,Bz,vJ,rY,jL,jM,jN,BA,K5,GL,GK,en0,p9,sS,r3,r4,r5,hl,show ieq 3 0=false from rfl,show aT 1 3=true from rfl,show aT 2 3=true from rfl,show aT 3 3=false from rfl,jw,e0,e1,e2,e3,e4,e5,e6,e7,ec,c0,en,ey,ez,em,ed,ef,m0,n0,sT,sF,z0,z1,b0,b1]
 |false=>
 simp only[e3,e4,xu h1,sT,sF,z0,z1,b0,b1] at hT⊢
 cases e5:ieq (fF a1) 0 with
 |false=>simp only[e5,sT,sF,z0,z1,b0,b1] at hT⊢;rw[aQ _ hT e5]
 |true=>
 simp only[e5,sT,sF,z0,z1,b0,b1] at hT⊢;have q0:fF a1=0:=by rw[aK] at e5;exact e5
 cases ec:ieq (jG a2) 0 with
 |false=>simp only[ec,sT,sF,z0,z1,b0,b1] at hT⊢;rw[aQ _ hT ec]
 |true=>
 simp only[ec,sT,sF,z0,z1,b0,b1] at hT⊢;have c0:jG a2=0:=by rw[aK] at ec;exact ec
 cases en:ieq (nrW a3) 0 with
 |false=>simp only[en,sT,sF,z0,z1,b0,b1] at hT⊢;rw[aQ _ hT en]
 |true=>
 simp only[en,sT,sF,z0,z1,b0,b1] at hT⊢
 cases ey:ai (gW a3) (-32767) with
 |true=>simp only[ey,sT,sF,z0,z1,b0,b1] at hT⊢;rw[aQ _ hT rfl]
 |false=>
 simp only[ey,sT,sF,z0,z1,b0,b1] at hT⊢
 cases ez:ai 32767 (gW a3) with
 |true=>simp only[ez,sT,sF,z0,z1,b0,b1] at hT⊢;rw[aQ _ hT rfl]
 |false=>
 simp only[ez,sT,sF,z0,z1,b0,b1] at hT⊢
 cases em:ieq (pX a4) 0 with
 |false=>simp only[em,sT,sF,z0,z1,b0,b1] at hT⊢;rw[aQ _ hT em]
 |true=>
 simp only[em,sT,sF,z0,z1,b0,b1] at hT⊢
 cases ed:ieq (sQ a5) 0 with
 |false=>simp only[ed,sT,sF,z0,z1,b0,b1] at hT⊢;rw[aQ _ hT ed]
 |true=>
 simp only[ed,sT,sF,z0,z1,b0,b1] at hT⊢
 cases ef:rQ (sK a5) (jo a5) (sM a5) (vD a4) with
 |false=>simp only[ef,sT,sF,z0,z1,b0,b1] at hT⊢;rw[aQ _ hT rfl]
 |true=>
 simp only[ef,sT,sF,z0,z1,b0,b1] at hT⊢;have m0:pX a4=0:=by rw[aK] at em;exact em
 have n0:nrW a3=0:=by rw[aK] at en;exact en
 rw[gY,kK _ _ _ _ _ _ _ _ _ _ _ _ _ _ (by first|exact hT|(rw[hT];first|rfl|assumption))];simp only[gX,gZ,ic,gN,ig,Br,sU,Bt,Bu,Bv,Bw,Bz,vJ,rY,jL,jM,jN,BA,K5,GL,GK,en0,p9,sS,r3,r4,r5,hl,show ieq 3 0=false from rfl,show aT 1 3=true from rfl,show aT 2 3=true from rfl,show aT 3 3=false from rfl,jw,e0,e1,e2,e3,e4,e5,q0,ec,c0,en,ey,ez,em,ed,ef,m0,n0,sT,sF,z0,z1,b0,b1]
set_option maxHeartbeats 2000000 in
theorem Vx (a0 a1 a2 a3 a4 a5 a6:List UInt8) (h0:ai (aj a0) 900=true) (h1:ai (aj a1) 900=true) (h2:ai (aj a2) 900=true) (h3:ai (aj a3) 900=true) (h4:ai (aj a4) 900=true) (h5:ai (aj a5) 900=true) (h6:ai (aj a6) 900=true):af eE 106 [.sl 9 [.str] none [.str a0,.str a1,.str a2,.str a3,.str a4,.str a5,.str a6]] (Ov [.str a0,.str a1,.str a2,.str a3,.str a4,.str a5,.str a6]):=by
 refine ah iY Ep 9 10 ?_
 (rw[GH];(conv=>zeta))
 have g1:lM [.str a0,.str a1,.str a2,.str a3,.str a4,.str a5,.str a6]=sel (ieq (GM a0) 0) (sel (ieq (Ld a1) 0) (sel (ieq (jG a2) 0) (BA [.str a3,.str a4,.str a5,.str a6]) (jG a2)) (Ld a1)) (GM a0):=rfl;have gY:Ov [.str a0,.str a1,.str a2,.str a3,.str a4,.str a5,.str a6]=erW [.str a0,.str a1,.str a2,.str a3,.str a4,.str a5,.str a6] (eU a0) (Wd a1) (OT a1) (Tk a1) a2 (sS [.str a3,.str a4,.str a5,.str a6]) (Br [.str a3,.str a4,.str a5,.str a6]) (sU [.str a3,.str a4,.str a5,.str a6]) (Bt [.str a3,.str a4,.str a5,.str a6]) (Bu [.str a3,.str a4,.str a5,.str a6]) (Bv [.str a3,.str a4,.str a5,.str a6]) (Bw [.str a3,.str a4,.str a5,.str a6]) (Bz [.str a3,.str a4,.str a5,.str a6]):=rfl;have z1:ieq 1 0=false:=rfl;have z0:ieq 0 0=true:=rfl;have b0:aG true=false:=rfl;have b1:aG false=true:=rfl;have r3:rg [.str a3,.str a4,.str a5,.str a6] 0=a3:=rfl;have r4:rg [.str a3,.str a4,.str a5,.str a6] 1=a4:=rfl;have r5:rg [.str a3,.str a4,.str a5,.str a6] 2=a5:=rfl;have r6:rg [.str a3,.str a4,.str a5,.str a6] 3=a6:=rfl;have hl:av [.str a3,.str a4,.str a5,.str a6]=4:=rfl;simp only[h0,h1,h2,h3,h4,h5,h6,Eo,sT];have hT:=g1;simp only[GM,u6,gN,BA,K5,GL,GK,en0,p9,sS,r3,r4,r5,r6,hl,show ieq 4 0=false from rfl,show aT 1 4=true from rfl,show aT 2 4=true from rfl,show aT 3 4=true from rfl,jw,sT,sF,z0,z1,b0,b1] at hT
 cases e0:ieq (lK a0) 0 with
 |false=>simp only[e0,sT,sF,z0,z1,b0,b1] at hT⊢;rw[aQ _ hT e0]
 |true=>
 simp only[e0,sT,sF,z0,z1,b0,b1] at hT⊢
 cases e1:ai (-54000) (eU a0) with
 |false=>simp only[e1,sT,sF,z0,z1,b0,b1] at hT⊢;rw[aQ _ hT rfl]
 |true=>
 simp only[e1,sT,sF,z0,z1,b0,b1] at hT⊢
 cases e2:ai (eU a0) 54000 with
 |false=>simp only[e2,sT,sF,z0,z1,b0,b1] at hT⊢;rw[aQ _ hT rfl]
 |true=>
 simp only[e2,sT,sF,z0,z1,b0,b1] at hT⊢
 cases e3:seq a1 [45] with
 |true=>
  simp only[e3,sT,sF,z0,z1,b0,b1] at hT⊢
  cases ec:ieq (jG a2) 0 with
  |false=>simp only[ec,sT,sF,z0,z1,b0,b1] at hT⊢;rw[aQ _ hT ec]
  |true=>
  simp only[ec,sT,sF,z0,z1,b0,b1] at hT⊢;have c0:jG a2=0:=by rw[aK] at ec;exact ec
  cases en:ieq (nrW a3) 0 with
  |false=>simp only[en,sT,sF,z0,z1,b0,b1] at hT⊢;rw[aQ _ hT en]
  |true=>
  simp only[en,sT,sF,z0,z1,b0,b1] at hT⊢
  cases ey:ai (gW a3) (-32767) with
  |true=>simp only[ey,sT,sF,z0,z1,b0,b1] at hT⊢;rw[aQ _ hT rfl]
  |false=>
  simp only[ey,sT,sF,z0,z1,b0,b1] at hT⊢
  cases ez:ai 32767 (gW a3) with
  |true=>simp only[ez,sT,sF,z0,z1,b0,b1] at hT⊢;rw[aQ _ hT rfl]
  |false=>
  simp only[ez,sT,sF,z0,z1,b0,b1] at hT⊢
  cases em:ieq (pX a4) 0 with
  |false=>simp only[em,sT,sF,z0,z1,b0,b1] at hT⊢;rw[aQ _ hT em]
  |true=>
  simp only[em,sT,sF,z0,z1,b0,b1] at hT⊢
  cases ed:ieq (sQ a5) 0 with
  |false=>simp only[ed,sT,sF,z0,z1,b0,b1] at hT⊢;rw[aQ _ hT ed]
  |true=>
  simp only[ed,sT,sF,z0,z1,b0,b1] at hT⊢
  cases ef:rQ (sK a5) (jo a5) (sM a5) (vD a4) with
  |false=>simp only[ef,sT,sF,z0,z1,b0,b1] at hT⊢;rw[aQ _ hT rfl]
  |true=>
  simp only[ef,sT,sF,z0,z1,b0,b1] at hT⊢
  cases ek:ieq (Bq a6) 0 with
  |false=>simp only[ek,sT,sF,z0,z1,b0,b1] at hT⊢;rw[aQ _ hT ek]
  |true=>
  simp only[ek,sT,sF,z0,z1,b0,b1] at hT⊢;have k0:Bq a6=0:=by rw[aK] at ek;exact ek
  have m0:pX a4=0:=by rw[aK] at em;exact em
  have n0:nrW a3=0:=by rw[aK] at en;exact en
  rw[gY,kK _ _ _ _ _ _ _ _ _ _ _ _ _ _ (by first|exact hT|(rw[hT];first|rfl|assumption))];simp only[gX,gZ,ic,gN,ig,Br,sU,Bt,Bu,Bv,Bw,Bz,vJ,rY,jL,jM,jN,BA,K5,GL,GK,en0,p9,sS,r3,r4,r5,r6,hl,show ieq 4 0=false from rfl,show aT 1 4=true from rfl,show aT 2 4=true from rfl,show aT 3 4=true from rfl,jw,e0,e1,e2,e3,ec,c0,en,ey,ez,em,ed,ef,ek,k0,m0,n0,sT,sF,z0,z1,b0,b1]
 |false=>
 cases e4:K4 a1 with
 |true=>
  simp only[e3,e4,sT,sF,z0,z1,b0,b1] at hT⊢
  cases e5:ieq (lK a1) 0 with
  |false=>simp only[e5,sT,sF,z0,z1,b0,b1] at hT⊢;rw[aQ _ hT e5]
  |true=>
  simp only[e5,sT,sF,z0,z1,b0,b1] at hT⊢
  cases e6:ai (-10800) (eU a1) with
  |false=>simp only[e6,sT,sF,z0,z1,b0,b1] at hT⊢;rw[aQ _ hT rfl]
  |true=>
  simp only[e6,sT,sF,z0,z1,b0,b1] at hT⊢
  cases e7:ai (eU a1) 10800 with
  |false=>simp only[e7,sT,sF,z0,z1,b0,b1] at hT⊢;rw[aQ _ hT rfl]
  |true=>
  simp only[e7,sT,sF,z0,z1,b0,b1] at hT⊢
  cases ec:ieq (jG a2) 0 with
  |false=>simp only[ec,sT,sF,z0,z1,b0,b1] at hT⊢;rw[aQ _ hT ec]
  |true=>
  simp only[ec,sT,sF,z0,z1,b0,b1] at hT⊢;have c0:jG a2=0:=by rw[aK] at ec;exact ec
  cases en:ieq (nrW a3) 0 with
  |false=>simp only[en,sT,sF,z0,z1,b0,b1] at hT⊢;rw[aQ _ hT en]
  |true=>
  simp only[en,sT,sF,z0,z1,b0,b1] at hT⊢
  cases ey:ai (gW a3) (-32767) with
  |true=>simp only[ey,sT,sF,z0,z1,b0,b1] at hT⊢;rw[aQ _ hT rfl]
  |false=>
  simp only[ey,sT,sF,z0,z1,b0,b1] at hT⊢
  cases ez:ai 32767 (gW a3) with
  |true=>simp only[ez,sT,sF,z0,z1,b0,b1] at hT⊢;rw[aQ _ hT rfl]
  |false=>
  simp only[ez,sT,sF,z0,z1,b0,b1] at hT⊢
  cases em:ieq (pX a4) 0 with
  |false=>simp only[em,sT,sF,z0,z1,b0,b1] at hT⊢;rw[aQ _ hT em]
  |true=>
  simp only[em,sT,sF,z0,z1,b0,b1] at hT⊢
  cases ed:ieq (sQ a5) 0 with
  |false=>simp only[ed,sT,sF,z0,z1,b0,b1] at hT⊢;rw[aQ _ hT ed]
  |true=>
  simp only[ed,sT,sF,z0,z1,b0,b1] at hT⊢
  cases ef:rQ (sK a5) (jo a5) (sM a5) (vD a4) with
  |false=>simp only[ef,sT,sF,z0,z1,b0,b1] at hT⊢;rw[aQ _ hT rfl]
  |true=>
  simp only[ef,sT,sF,z0,z1,b0,b1] at hT⊢
  cases ek:ieq (Bq a6) 0 with
  |false=>simp only[ek,sT,sF,z0,z1,b0,b1] at hT⊢;rw[aQ _ hT ek]
  |true=>
  simp only[ek,sT,sF,z0,z1,b0,b1] at hT⊢;have k0:Bq a6=0:=by rw[aK] at ek;exact ek
  have m0:pX a4=0:=by rw[aK] at em;exact em
  have n0:nrW a3=0:=by rw[aK] at en;exact en
  rw[gY,kK _ _ _ _ _ _ _ _ _ _ _ _ _ _ (by first|exact hT|(rw[hT];first|rfl|assumption))];simp only[gX,gZ,ic,gN,ig,Br,sU,Bt,Bu,Bv,Bw,Bz,vJ,rY,jL,jM,jN,BA,K5,GL,GK,en0,p9,sS,r3,r4,r5,r6,hl,show ieq 4 0=false from rfl,show aT 1 4=true from rfl,show aT 2 4=true from rfl,show aT 3 4=true from rfl,jw,e0,e1,e2,e3,e4,e5,e6,e7,ec,c0,en,ey,ez,em,ed,ef,ek,k0,m0,n0,sT,sF,z0,z1,b0,b1]
 |false=>
 simp only[e3,e4,xu h1,sT,sF,z0,z1,b0,b1] at hT⊢
 cases e5:ieq (fF a1) 0 with
 |false=>simp only[e5,sT,sF,z0,z1,b0,b1] at hT⊢;rw[aQ _ hT e5]
 |true=>
 simp only[e5,sT,sF,z0,z1,b0,b1] at hT⊢;have q0:fF a1=0:=by rw[aK] at e5;exact e5
 cases ec:ieq (jG a2) 0 with
 |false=>simp only[ec,sT,sF,z0,z1,b0,b1] at hT⊢;rw[aQ _ hT ec]
 |true=>
 simp only[ec,sT,sF,z0,z1,b0,b1] at hT⊢;have c0:jG a2=0:=by rw[aK] at ec;exact ec
 cases en:ieq (nrW a3) 0 with
 |false=>simp only[en,sT,sF,z0,z1,b0,b1] at hT⊢;rw[aQ _ hT en]
 |true=>
 simp only[en,sT,sF,z0,z1,b0,b1] at hT⊢
 cases ey:ai (gW a3) (-32767) with
 |true=>simp only[ey,sT,sF,z0,z1,b0,b1] at hT⊢;rw[aQ _ hT rfl]
 |false=>
 simp only[ey,sT,sF,z0,z1,b0,b1] at hT⊢
 cases ez:ai 32767 (gW a3) with
 |true=>simp only[ez,sT,sF,z0,z1,b0,b1] at hT⊢;rw[aQ _ hT rfl]
 |false=>
 simp only[ez,sT,sF,z0,z1,b0,b1] at hT⊢
 cases em:ieq (pX a4) 0 with
 |false=>simp only[em,sT,sF,z0,z1,b0,b1] at hT⊢;rw[aQ _ hT em]
 |true=>
 simp only[em,sT,sF,z0,z1,b0,b1] at hT⊢
 cases ed:ieq (sQ a5) 0 with
 |false=>simp only[ed,sT,sF,z0,z1,b0,b1] at hT⊢;rw[aQ _ hT ed]
 |true=>
 simp only[ed,sT,sF,z0,z1,b0,b1] at hT⊢
 cases ef:rQ (sK a5) (jo a5) (sM a5) (vD a4) with
 |false=>simp only[ef,sT,sF,z0,z1,b0,b1] at hT⊢;rw[aQ _ hT rfl]
 |true=>
 simp only[ef,sT,sF,z0,z1,b0,b1] at hT⊢
 cases ek:ieq (Bq a6) 0 with
 |false=>simp only[ek,sT,sF,z0,z1,b0,b1] at hT⊢;rw[aQ _ hT ek]
 |true=>
 simp only[ek,sT,sF,z0,z1,b0,b1] at hT⊢;have k0:Bq a6=0:=by rw[aK] at ek;exact ek
 have m0:pX a4=0:=by rw[aK] at em;exact em
 have n0:nrW a3=0:=by rw[aK] at en;exact en
 rw[gY,kK _ _ _ _ _ _ _ _ _ _ _ _ _ _ (by first|exact hT|(rw[hT];first|rfl|assumption))];simp only[gX,gZ,ic,gN,ig,Br,sU,Bt,Bu,Bv,Bw,Bz,vJ,rY,jL,jM,jN,BA,K5,GL,GK,en0,p9,sS,r3,r4,r5,r6,hl,show ieq 4 0=false from rfl,show aT 1 4=true from rfl,show aT 2 4=true from rfl,show aT 3 4=true from rfl,jw,e0,e1,e2,e3,e4,e5,q0,ec,c0,en,ey,ez,em,ed,ef,ek,k0,m0,n0,sT,sF,z0,z1,b0,b1]
theorem QJ (xs:List V) (h:iN xs=true):af eE 106 [.sl 9 [.str] none xs] (Ov xs):=by
 by_cases h1:av xs<3
 ·refine ah iY Yg 5 10 ?_
  rw[IU,ay (by first|exact bD h1|(rw[bP,aA];omega)),aQ xs (e:=5) (by unfold lM;rw[bD h1];rfl) rfl]
 by_cases h2:7<av xs
 ·refine ah iY Yg 5 10 ?_
  rw[IU,aU (by first|exact bB (by omega)|(rw[bF (show 3≤av xs by omega)];rfl)),ay (by first|exact bD h2|(rw[bP,aA];omega)),aQ xs (e:=6) (by unfold lM;rw[bB (by omega),bD h2];rfl) rfl]
 obtain⟨l,rfl,ha⟩:=vz xs h;rw[aD,List.length_map] at h1 h2;match l,h1,h2,ha with
 |[],h1,_,_=>exact absurd h1 (by simp)
 |[_],h1,_,_=>exact absurd h1 (by simp)
 |[_,_],h1,_,_=>exact absurd h1 (by simp)
 |[a0,a1,a2],_,_,ha=>exact Vt a0 a1 a2 (ha _ (by simp)) (ha _ (by simp)) (ha _ (by simp))
 |[a0,a1,a2,a3],_,_,ha=>exact Vu a0 a1 a2 a3 (ha _ (by simp)) (ha _ (by simp)) (ha _ (by simp)) (ha _ (by simp))
 |[a0,a1,a2,a3,a4],_,_,ha=>exact Vv a0 a1 a2 a3 a4 (ha _ (by simp)) (ha _ (by simp)) (ha _ (by simp)) (ha _ (by simp)) (ha _ (by simp))
 |[a0,a1,a2,a3,a4,a5],_,_,ha=>exact Vw a0 a1 a2 a3 a4 a5 (ha _ (by simp)) (ha _ (by simp)) (ha _ (by simp)) (ha _ (by simp)) (ha _ (by simp)) (ha _ (by simp))
 |[a0,a1,a2,a3,a4,a5,a6],_,_,ha=>exact Vx a0 a1 a2 a3 a4 a5 a6 (ha _ (by simp)) (ha _ (by simp)) (ha _ (by simp)) (ha _ (by simp)) (ha _ (by simp)) (ha _ (by simp)) (ha _ (by simp))
 |_::_::_::_::_::_::_::_::_,_,h2,_=>exact absurd h2 (by simp;omega)
def enR (h:Bool) (y m ok ow od c b:Int):Bool:=sel h (aT (-32767) y&&(aT y 32767&&(rQ ok ow od m&&iP c b))) (ak (ieq y 0) (ak (ieq m 0) (ak (ak (ieq ok 0) (ak (ieq ow 0) (ieq od 0))) (ak (ieq c 0) (ieq b 0)))))
def Wl (o k v:Int) (r q:List UInt8) (h:Bool) (y m ok ow od c b:Int):Bool:=ai (-54000) o&&(ai o 54000&&(ieq (jG q) 0&&(enR h y m ok ow od c b&&sel (ieq k 0) (ieq v 0&&seq r []) (sel (ieq k 1) (ai (-10800) v&&(ai v 10800&&seq r [])) (sel (ieq k 2) (ieq v 0&&ieq (fF r) 0) false)))))
def efM (k v:Int) (r:List UInt8):List UInt8:=sel (ieq k 0) [45] (sel (ieq k 1) (amT v) r)
def efT (h:Bool) (y m ok ow od c b:Int):List V:=sel h (sel (ak (ieq c 0) (ieq b 0)) (sel (ak (ieq ok 0) (ak (ieq ow 0) (ieq od 1))) (sel (ieq m 1) [.str (text y)] [.str (text y),.str (moT m)]) [.str (text y),.str (moT m),.str (O7 ok ow od)]) [.str (text y),.str (moT m),.str (O7 ok ow od),.str (tcT c b)]) []
def efL (o k v:Int) (r q:List UInt8) (h:Bool) (y m ok ow od c b:Int):List V:=.str (amT o)::.str (efM k v r)::.str q::efT h y m ok ow od c b
theorem le_dec {a b:Int} (h:decide (a≤b)=true):a≤b:=of_decide_eq_true h
theorem erq_len (q:List UInt8) (h:jG q=0):q.length≤16:=by
 unfold jG at h;by_cases h1:16<q.length
 ·rw[if_pos h1] at h;cases h
 ·omega
theorem enR_iff (y m ok ow od c b:Int):(enR true y m ok ow od c b=true)=((-32767<y∧y<32767)∧(rQ ok ow od m=true∧iP c b=true)):=by
 unfold enR;rw[sT,Bool.and_eq_true,Bool.and_eq_true,Bool.and_eq_true,bf,bf];apply propext
 constructor
 ·rintro⟨a,b,c,d⟩;exact⟨⟨a,b⟩,c,d⟩
 ·rintro⟨⟨a,b⟩,c,d⟩;exact⟨a,b,c,d⟩
theorem rg_0 (v:V) (l:List V):rg (v::l) 0=aR (ax v 0):=rfl
theorem erR_iff (o k v:Int) (r q:List UInt8) (h:Bool) (y m ok ow od c b:Int):(Wl o k v r q h y m ok ow od c b=true)=((-54000≤o∧o≤54000)∧(jG q=0∧(enR h y m ok ow od c b=true∧(sel (ieq k 0) (ieq v 0&&seq r []) (sel (ieq k 1) (ai (-10800) v&&(ai v 10800&&seq r [])) (sel (ieq k 2) (ieq v 0&&ieq (fF r) 0) false)))=true))):=by
 unfold Wl;rw[Bool.and_eq_true,Bool.and_eq_true,Bool.and_eq_true,Bool.and_eq_true,aA,aA,aK];apply propext
 constructor
 ·rintro⟨a,b,c,d⟩;exact⟨⟨a,b⟩,c,d⟩
 ·rintro⟨⟨a,b⟩,c,d⟩;exact⟨a,b,c,d⟩
theorem Yh (a b c:V) (t:List V):dL (a::b::c::t) 3 (av (a::b::c::t))=t:=by
 unfold dL av;show List.take ((((a::b::c::t).length:Nat):Int).toNat-3) t=t;rw[List.take_of_length_le];simp;omega
theorem erE_3 (a b c:List UInt8) (t:List V) (ht:t.length≤4):lM (.str a::.str b::.str c::t)=sel (ieq (GM a) 0) (sel (ieq (Ld b) 0) (sel (ieq (jG c) 0) (BA t) (jG c)) (Ld b)) (GM a):=by
 unfold lM;rw[Yh,bB (by rw[aD];simp;omega),bB (by rw[aD];simp;omega)];rfl
theorem erV_3 (a b c:List UInt8) (t:List V) (h:lM (.str a::.str b::.str c::t)=0):Ov (.str a::.str b::.str c::t)=.tup [.agg [.int .i64 (eU a),.int .i64 (Wd b),.int .i64 (OT b),.str (Tk b),.str c,.bool (sS t),.int .i64 (Br t),.int .i64 (sU t),.int .i64 (Bt t),.int .i64 (Bu t),.int .i64 (Bv t),.int .i64 (Bw t),.int .i64 (Bz t)],.int .i64 0]:=by
 unfold Ov OU Tm OV Q5 Q6 F6 OW OX Tn Tp Ag Ah Ai;rw[h,Yh];rfl
theorem mo_rng (s:List UInt8) (h:pX s=0):1≤vD s∧vD s≤12:=by
 have h':qo s OB=0:=h;have:=za s OB (by decide) h';have e:(OB.length:Int)=12:=rfl;unfold vD;rw[if_pos h'];omega
theorem ZL (m:Int) (h1:1≤m) (h2:m≤12):rQ 0 0 1 m=true:=by
 obtain rfl|rfl|rfl|rfl|rfl|rfl|rfl|rfl|rfl|rfl|rfl|rfl:m=1∨m=2∨m=3∨m=4∨m=5∨m=6∨m=7∨m=8∨m=9∨m=10∨m=11∨m=12:=by omega
 all_goals decide+kernel
theorem od_ok (s:List UInt8) (m:Int) (h:odE s m=0):rQ (odK s m) (odW s m) (odD s m) m=true:=by
 rw[jw] at h;rw[jL,jM,jN]
 cases h1:ieq (sQ s) 0 with
 |false=>rw[h1] at h;rw[show sQ s=0 from h] at h1;cases h1
 |true=>
  rw[h1] at h
  cases h2:rQ (sK s) (jo s) (sM s) m with
  |false=>rw[h2] at h;cases h
  |true=>exact h2
theorem BL {a c:Int} (h:sel (ieq a 0) c a=0):a=0∧c=0:=by
 by_cases ha:a=0
 ·rw[bn ha] at h;exact⟨ha,h⟩
 ·rw[cO ha] at h;exact absurd h ha
theorem ZM (ys:List V) (h:BA ys=0):enR (sS ys) (Br ys) (sU ys) (Bt ys) (Bu ys) (Bv ys) (Bw ys) (Bz ys)=true∧(efT (sS ys) (Br ys) (sU ys) (Bt ys) (Bu ys) (Bv ys) (Bw ys) (Bz ys)).length≤ys.length∧-32767≤Br ys∧Br ys≤32767∧0≤sU ys∧sU ys≤12:=by
 cases hH:sS ys with
 |false=>
  unfold Br sU Bt Bu Bv Bw Bz;rw[hH];exact⟨rfl,Nat.zero_le _,le_dec rfl,le_dec rfl,le_dec rfl,le_dec rfl⟩
 |true=>
  unfold BA at h;rw[hH,sT] at h;unfold K5 at h;obtain⟨h2,h3⟩:=BL h;have h2':=h2;unfold GL at h2;obtain⟨h1,h4⟩:=BL h2;have h1':=h1;unfold GK at h1;obtain⟨h0,h5⟩:=BL h1;have h0':=h0;unfold en0 at h0;obtain⟨w0,h6⟩:=BL h0;have y1: ¬gW (rg ys 0)≤ -32767:=fun hh=>by rw[bF hh] at h6;cases h6
  have y2: ¬32767≤gW (rg ys 0):=fun hh=>by rw[vY (by omega),bF hh] at h6;cases h6
  have z: ∀{a:Int},a=0→ieq a 0=true:=fun h=>bn h
  have eY:Br ys=gW (rg ys 0):=by unfold Br;rw[hH];rfl
  have eM:sU ys=sel (aT 1 (av ys)) (vD (rg ys 1)) 1:=by unfold sU p9;rw[hH,z h0'];rfl
  have eM':p9 ys=sU ys:=by unfold sU;rw[hH];rfl
  have eK:Bt ys=sel (aT 2 (av ys)) (odK (rg ys 2) (sU ys)) 0:=by unfold Bt rY;rw[hH,z h1',eM'];rfl
  have eW:Bu ys=sel (aT 2 (av ys)) (odW (rg ys 2) (sU ys)) 0:=by unfold Bu rY;rw[hH,z h1',eM'];rfl
  have eD:Bv ys=sel (aT 2 (av ys)) (odD (rg ys 2) (sU ys)) 1:=by unfold Bv rY;rw[hH,z h1',eM'];rfl
  have eA:Bw ys=sel (aT 3 (av ys)) (V5 (rg ys 3)) 0:=by unfold Bw vJ;rw[hH,z h2'];rfl
  have eB:Bz ys=sel (aT 3 (av ys)) (V6 (rg ys 3)) 0:=by unfold Bz vJ;rw[hH,z h2'];rfl
  have hM:1≤sU ys∧sU ys≤12:=by
   rw[eM]
   cases h1l:aT 1 (av ys) with
   |true=>rw[h1l] at h5;exact mo_rng _ h5
   |false=>exact⟨le_dec rfl,le_dec rfl⟩
  have hF:rQ (Bt ys) (Bu ys) (Bv ys) (sU ys)=true:=by
   rw[eK,eW,eD]
   cases h2l:aT 2 (av ys) with
   |true=>rw[h2l,eM'] at h4;exact od_ok _ _ h4
   |false=>exact ZL _ hM.1 hM.2
  have hC:iP (Bw ys) (Bz ys)=true:=by
   rw[eA,eB]
   cases h3l:aT 3 (av ys) with
   |true=>rw[h3l] at h3;exact MO _ h3
   |false=>rfl
  have hL:1≤ys.length:=by
   unfold sS at hH
   cases ys with
   |nil=>cases hH
   |cons a t=>simp
  refine⟨?_,?_,by rw[eY];omega,by rw[eY];omega,by omega,hM.2⟩
  ·rw[enR_iff,eY]
   exact⟨⟨by omega,by omega⟩,hF,hC⟩
  ·unfold efT
   rw[sT]
   cases ha:ak (ieq (Bw ys) 0) (ieq (Bz ys) 0) with
   |false=>
    have:3<av ys:=by
     by_cases hq:3<av ys
     ·exact hq
     ·rw[eA,eB,bB (by omega)] at ha;cases ha
    rw[aD] at this;show 4≤ys.length;omega
   |true=>
    cases hb:ak (ieq (Bt ys) 0) (ak (ieq (Bu ys) 0) (ieq (Bv ys) 1)) with
    |false=>
     have:2<av ys:=by
      by_cases hq:2<av ys
      ·exact hq
      ·rw[eK,eW,eD,bB (by omega)] at hb;cases hb
     rw[aD] at this;show 3≤ys.length;omega
    |true=>
     cases hc:ieq (sU ys) 1 with
     |false=>
      have:1<av ys:=by
       by_cases hq:1<av ys
       ·exact hq
       ·rw[eM,bB (by omega)] at hc;cases hc
      rw[aD] at this;show 2≤ys.length;omega
     |true=>show 1≤ys.length;exact hL
theorem ZN (s:List UInt8) (h:Ld s=0):(sel (ieq (Wd s) 0) (ieq (OT s) 0&&seq (Tk s) []) (sel (ieq (Wd s) 1) (ai (-10800) (OT s)&&(ai (OT s) 10800&&seq (Tk s) [])) (sel (ieq (Wd s) 2) (ieq (OT s) 0&&ieq (fF (Tk s)) 0) false)))=true∧(Tk s).length≤64∧-10800≤OT s∧OT s≤10800:=by
 rw[u6] at h;rw[gX,gZ,ic]
 cases h1:seq s [45] with
 |true=>exact⟨rfl,Nat.le_of_ble_eq_true rfl,le_dec rfl,le_dec rfl⟩
 |false=>
  rw[h1,sF] at h
  cases h2:K4 s with
  |true=>
   rw[h2,sT] at h;rw[gN] at h;rw[ig]
   cases h3:ieq (lK s) 0 with
   |false=>rw[h3] at h;rw[show lK s=0 from h] at h3;cases h3
   |true=>
    rw[h3,sT] at h
    cases h4:ai (-10800) (eU s) with
    |false=>rw[h4] at h;cases h
    |true=>
     rw[h4,sT] at h
     cases h5:ai (eU s) 10800 with
     |false=>rw[h5] at h;cases h
     |true=>
      rw[aA] at h4 h5;refine⟨?_,Nat.le_of_ble_eq_true rfl,h4,h5⟩;show(ai (-10800) (eU s)&&(ai (eU s) 10800&&seq [] []))=true;rw[bF h4,bF h5];rfl
  |false=>
   rw[h2,sF] at h;refine⟨?_,XV s h,le_dec rfl,le_dec rfl⟩;show(ieq 0 0&&ieq (fF s) 0)=true;rw[h];rfl
theorem ZO (xs:List V) (hA:iN xs=true) (h:lM xs=0):Wl (OU xs) (Tm xs) (OV xs) (Q5 xs) (Q6 xs) (F6 xs) (OW xs) (OX xs) (Tn xs) (Tp xs) (Ag xs) (Ah xs) (Ai xs)=true∧(efL (OU xs) (Tm xs) (OV xs) (Q5 xs) (Q6 xs) (F6 xs) (OW xs) (OX xs) (Tn xs) (Tp xs) (Ag xs) (Ah xs) (Ai xs)).length≤xs.length∧
  (Q5 xs).length≤64∧(Q6 xs).length≤16∧(-54000≤OU xs∧OU xs≤54000)∧(-10800≤OV xs∧OV xs≤10800)∧(-32767≤OW xs∧OW xs≤32767)∧(0≤OX xs∧OX xs≤12):=by
 have h3: ¬av xs<3:=fun hh=>by unfold lM at h;rw[bD hh] at h;cases h
 have h7: ¬7<av xs:=fun hh=>by unfold lM at h;rw[bB (by omega),bD hh] at h;cases h
 obtain⟨l,rfl,_⟩:=vz xs hA;rw[aD,List.length_map] at h3 h7;match l,h3,h7,h with
 |[],h3,_,_=>exact absurd h3 (by simp)
 |[_],h3,_,_=>exact absurd h3 (by simp)
 |[_,_],h3,_,_=>exact absurd h3 (by simp)
 |a::b::c::t,_,h7,h=>
  rw[List.map_cons,List.map_cons,List.map_cons] at h⊢;have ht:(t.map V.str).length≤4:=by rw[List.length_map];simp only[List.length_cons] at h7;omega
  have hV:=erV_3 a b c (t.map V.str) h;rw[erE_3 a b c _ ht] at h;obtain⟨g1,h⟩:=BL h;obtain⟨g2,h⟩:=BL h;obtain⟨g3,g4⟩:=BL h;unfold GM at g1;obtain⟨w1,g1⟩:=BL g1;have o1: -54000≤eU a:=by
   by_cases hh: -54000≤eU a
   ·exact hh
   ·rw[vY (by omega)] at g1;cases g1
  have o2:eU a≤54000:=by
   by_cases hh:eU a≤54000
   ·exact hh
   ·rw[bF o1,vY (by omega)] at g1;cases g1
  obtain⟨n1,n2,n3,n4,n5,n6⟩:=ZM _ g4;obtain⟨r1,r2,r3,r4⟩:=ZN b g2;have q1:=erq_len c g3;unfold Ov at hV;simp only[V.tup.injEq,List.cons.injEq,V.agg.injEq,V.str.injEq,V.int.injEq,V.bool.injEq,true_and,and_true] at hV;obtain⟨⟨e0,e1,e2,e3,e4,e5,e6,e7,e8,e9,e10,e11,e12⟩,_⟩:=hV;rw[e0,e1,e2,e3,e4,e5,e6,e7,e8,e9,e10,e11,e12];refine⟨?_,?_,r2,q1,⟨o1,o2⟩,⟨r3,r4⟩,⟨n3,n4⟩,⟨n5,n6⟩⟩
  ·rw[erR_iff]
   exact⟨⟨o1,o2⟩,g3,n1,r1⟩
  ·unfold efL
   simp only[List.length_cons];omega
noncomputable def eRdS:aF:=fun a=>match a with|[.sl 9 [.str] none xs]=>some (iN xs,.tup [.agg [.int .i64 (OU xs),.int .i64 (Tm xs),.int .i64 (OV xs),.str (Q5 xs),.str (Q6 xs),.bool (F6 xs),.int .i64 (OW xs),.int .i64 (OX xs),.int .i64 (Tn xs),.int .i64 (Tp xs),.int .i64 (Ag xs),.int .i64 (Ah xs),.int .i64 (Ai xs)],.int .i64 (lM xs)])|_=>none
theorem eRdS_ok (xs:List V) (hc:iN xs=true):af eE 106 [.sl 9 [.str] none xs] (.tup [.agg [.int .i64 (OU xs),.int .i64 (Tm xs),.int .i64 (OV xs),.str (Q5 xs),.str (Q6 xs),.bool (F6 xs),.int .i64 (OW xs),.int .i64 (OX xs),.int .i64 (Tn xs),.int .i64 (Tp xs),.int .i64 (Ag xs),.int .i64 (Ah xs),.int .i64 (Ai xs)],.int .i64 (lM xs)]):=QJ xs hc
end Nt.Ev.YtplklcejbmfgdaaGreatDoor
