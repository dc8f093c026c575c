/-
  Era: equations of functions, as the evaluator prints them. Eras: what the program's functions and the document's answer.
-/
import Derived.Test.YtjcencojgajgdaaGreatDoorMM
set_option linter.all false
set_option maxRecDepth 100000
namespace Nt.Ev.YtjcencojgajgdaaGreatDoor
open Go Nt.Num Go.Proofs.YtjcencojgajgdaaGreatDoor
variable [kH]
open Nt.Civil
abbrev eZ:V:=(V.agg [V.int .i64 0,V.int .i64 0,V.int .i64 0,V.str [],V.str [],V.bool false,V.int .i64 0,V.int .i64 0,V.int .i64 0,V.int .i64 0,V.int .i64 0,V.int .i64 0,V.int .i64 0])
noncomputable def firstV:V:=.rptr [.int .i64,.int .i64,.int .i64] (.agg [.int .i64 0,.int .i64 0,.int .i64 1]) 0
noncomputable def eE:Env:=⟨Go.Proofs.Tryz.prog,fun g=>bif g==1 then some firstV else bif g==2 then some DT else bif g==0 then some OT else bif g==4 then some U9 else bif g==3 then some (.rptr [.int .i64] (.int .i64 kH.val) 0) else none⟩
noncomputable def eNrS:aD:=fun a=>match a with|[.str s]=>some (ax (aB s) 900,.tup [.int .i64 (iF s),.int .i64 (nrW s)])|_=>none
noncomputable def eNtS:aD:=fun a=>match a with|[.int .i64 n]=>some (ak (ax (-9223372036854775808) n) (ax n 9223372036854775807),.str (text n))|_=>none
noncomputable def eChS:aD:=fun a=>match a with|[.str s]=>some (ax (aB s) 900,.int .i64 (iX s))|_=>none
noncomputable def eS0:List (Nat×aD):=(170,eNrS)::(52,eNtS)::(83,eChS)::(42,NT)::(48,Db)::(150,Xw)::(152,Xx)::(154,Xy)::(141,Xz)::(33,ZL)::(34,ZM)::(49,ZN)::(35,ZO)::(37,ZQ)::[]
def F5:af→Bool|[]=>false|[c]=>decide (48≤c.toNat)&&decide (c.toNat≤57)|c::d::_=>(decide (48≤c.toNat)&&decide (c.toNat≤57))||(c==45&&(decide (48≤d.toNat)&&decide (d.toNat≤57)))
def rlP (s:af):Int×Int×af×Int:=if s=[45] then(0,0,[],0) else if F5 s=true then(1,svI s,[],svW s) else(2,0,s,dK s)
def ZD (s:af):Int:=(rlP s).1
def Ar (s:af):Int:=(rlP s).2.1
def Xa (s:af):af:=(rlP s).2.2.1
def Qk (s:af):Int:=(rlP s).2.2.2
noncomputable def eNumS:aD:=fun a=>match a with|[.str s]=>some (ax (aB s) 900,.bool (F5 s))|_=>none
noncomputable def eS1:List (Nat×aD):=(169,eNumS)::eS0
def en0 (ys:ah):Int:=sel (ieq (nrW (rg ys 0)) 0) (sel (ax (iF (rg ys 0)) (-32767)) 1 (sel (ax 32767 (iF (rg ys 0))) 1 0)) (nrW (rg ys 0))
def F6 (ys:ah):Int:=sel (ieq (en0 ys) 0) (sel (aR 1 (ay ys)) (qj (rg ys 1)) 0) (en0 ys)
def nS (ys:ah):Int:=sel (ieq (en0 ys) 0) (sel (aR 1 (ay ys)) (ve (rg ys 1)) 1) 1
def F7 (ys:ah):Int:=sel (ieq (F6 ys) 0) (sel (aR 2 (ay ys)) (odE (rg ys 2) (nS ys)) 0) (F6 ys)
def qy (ys:ah) (f:af→Int→Int) (z:Int):Int:=sel (ieq (F6 ys) 0) (sel (aR 2 (ay ys)) (f (rg ys 2) (nS ys)) z) z
def Kj (ys:ah):Int:=sel (ieq (F7 ys) 0) (sel (aR 3 (ay ys)) (yZ (rg ys 3)) 0) (F7 ys)
def rC (ys:ah) (f:af→Int):Int:=sel (ieq (F7 ys) 0) (sel (aR 3 (ay ys)) (f (rg ys 3)) 0) 0
def sW (ys:ah):Bool:=aL (ieq (ay ys) 0)
def y5 (ys:ah):Int:=sel (sW ys) (iF (rg ys 0)) 0
def sZ (ys:ah):Int:=sel (sW ys) (nS ys) 0
def y7 (ys:ah):Int:=sel (sW ys) (qy ys odK 0) 0
def y8 (ys:ah):Int:=sel (sW ys) (qy ys odW 0) 0
def y9 (ys:ah):Int:=sel (sW ys) (qy ys odD 1) 0
def za (ys:ah):Int:=sel (sW ys) (rC ys Qx) 0
def ze (ys:ah):Int:=sel (sW ys) (rC ys Qy) 0
def zf (ys:ah):Int:=sel (sW ys) (Kj ys) 0
noncomputable def eNoS:aD:=fun a=>match a with|[.str s]=>some (false,.int .i64 0)|_=>none
noncomputable def eSn:List (Nat×aD):=(141,eNoS)::[]
theorem eNum_top (F s) (K:V→Option V):
 bE eE (bC eE eS0 F 4) F 169 [V.str s] K=
 let C:=aB [45];let D:=K (V.bool false);let H:=ak (ax 0 0) (aR 0 (aB s));let A:=sel (aL (seq s [])) (sel H (sel (ax 48 (sat s 0)) (sel H (K (V.bool (ax (sat s 0) 57))) none) D) none) D;let B:=dQ s C (aB s);let E:=ak (ax 0 C) (ax C (aB s));let G:=ak (ax 0 0) (aR 0 (aB B));sel (ax C (aB s)) (sel E (sel (seq (dQ s 0 C) [45]) (sel E (sel (aL (seq B [])) (sel G (sel (ax 48 (sat B 0)) (sel G (K (V.bool (ax (sat B 0) 57))) none) D) none) D) none) A) none) A:=by kernel_rfl
theorem MS (F xs) (K:V→Option V):
 bE eE (bC eE eSn F 10) F 94 [V.sl 9 [Kd.str] none xs] K=
 sel (aL (ax 3 (ay xs))) (K (V.tup [eZ,V.int .i64 5])) (sel (aL (ax (ay xs) 7)) (K (V.tup [eZ,V.int .i64 6])) (sel (ak (ax 0 0) (aR 0 (ay xs))) none none)):=by kernel_rfl
theorem KW (b a c) (K:V→Option V):
 bE eE (bC eE eS1 9 10) 9 94 [V.sl 9 [Kd.str] none [V.str b,V.str a,V.str c]] K=
 let A:=V.int .i64 0;let B:=K (V.tup [eZ,V.int .i64 1]);let C:=K (V.tup [eZ,V.int .i64 (iX c)]);let D:=aL (ieq (iX c) 0);let E:=V.int .i64 (fH b);let F:=ax (aB c) 900;let G:=V.bool false;let H:=V.str c;let I:=ax (aB a) 900;sel (ax (aB b) 900) (sel (aL (ieq (lN b) 0)) (K (V.tup [eZ,V.int .i64 (lN b)])) (sel (ax (-54000) (fH b)) (sel (aL (ax (fH b) 54000)) B (sel (seq a [45]) (sel F (sel D C (K (V.tup [V.agg [E,A,A,V.str [],H,G,A,A,A,A,A,A,A],A]))) none) (sel I (sel (F5 a) (sel I (sel (aL (ieq (lN a) 0)) (K (V.tup [eZ,V.int .i64 (lN a)])) (sel (ax (-10800) (fH a)) (sel (aL (ax (fH a) 10800)) B (sel F (sel D C (K (V.tup [V.agg [E,V.int .i64 1,V.int .i64 (fH a),V.str [],H,G,A,A,A,A,A,A,A],A]))) none)) B)) none) (sel (ax (aB a) 1000) (sel (aL (ieq (dK a) 0)) (K (V.tup [eZ,V.int .i64 (dK a)])) (sel F (sel D C (K (V.tup [V.agg [E,V.int .i64 2,A,V.str a,H,G,A,A,A,A,A,A,A],A]))) none)) none)) none))) B)) none:=by kernel_rfl
theorem KY (b a d c) (K:V→Option V):
 bE eE (bC eE eS1 9 10) 9 94 [V.sl 9 [Kd.str] none [V.str b,V.str a,V.str d,V.str c]] K=
 let B:=V.int .i64 0;let C:=V.int .i64 1;let D:=K (V.tup [eZ,V.int .i64 (iX d)]);let E:=K (V.tup [eZ,V.int .i64 (nrW c)]);let F:=aL (aR (iF c) 32767);let G:=aL (ieq (iX d) 0);let H:=aL (ieq (nrW c) 0);let I:=aR (-32767) (iF c);let J:=V.int .i64 (fH b);let L:=V.int .i64 (iF c);let M:=ax (aB d) 900;let N:=ax (aB c) 900;let O:=V.bool true;let P:=V.str d;let Q:=ax (aB a) 900;let A:=K (V.tup [eZ,C]);sel (ax (aB b) 900) (sel (aL (ieq (lN b) 0)) (K (V.tup [eZ,V.int .i64 (lN b)])) (sel (ax (-54000) (fH b)) (sel (aL (ax (fH b) 54000)) A (sel (seq a [45]) (sel M (sel G D (sel N (sel H E (sel I (sel F A (K (V.tup [V.agg [J,B,B,V.str [],P,O,L,C,B,B,C,B,B],B]))) A)) none)) none) (sel Q (sel (F5 a) (sel Q (sel (aL (ieq (lN a) 0)) (K (V.tup [eZ,V.int .i64 (lN a)])) (sel (ax (-10800) (fH a)) (sel (aL (ax (fH a) 10800)) A (sel M (sel G D (sel N (sel H E (sel I (sel F A (K (V.tup [V.agg [J,C,V.int .i64 (fH a),V.str [],P,O,L,C,B,B,C,B,B],B]))) A)) none)) none)) A)) none) (sel (ax (aB a) 1000) (sel (aL (ieq (dK a) 0)) (K (V.tup [eZ,V.int .i64 (dK a)])) (sel M (sel G D (sel N (sel H E (sel I (sel F A (K (V.tup [V.agg [J,V.int .i64 2,B,V.str a,P,O,L,C,B,B,C,B,B],B]))) A)) none)) none)) none)) none))) A)) none:=by kernel_rfl
theorem KZ (b a e c d) (K:V→Option V):
 bE eE (bC eE eS1 9 10) 9 94 [V.sl 9 [Kd.str] none [V.str b,V.str a,V.str e,V.str c,V.str d]] K=
 let B:=V.int .i64 0;let C:=K (V.tup [eZ,V.int .i64 (iX e)]);let D:=K (V.tup [eZ,V.int .i64 (nrW c)]);let E:=K (V.tup [eZ,V.int .i64 (qj d)]);let F:=aL (aR (iF c) 32767);let G:=V.int .i64 1;let H:=aL (ieq (iX e) 0);let I:=aL (ieq (nrW c) 0);let J:=aR (-32767) (iF c);let L:=aL (ieq (qj d) 0);let M:=V.int .i64 (fH b);let N:=V.int .i64 (iF c);let O:=V.int .i64 (ve d);let P:=ax (aB e) 900;let Q:=ax (aB c) 900;let R:=ax (aB d) 900;let S:=V.bool true;let T:=V.str e;let U:=ax (aB a) 900;let A:=K (V.tup [eZ,G]);sel (ax (aB b) 900) (sel (aL (ieq (lN b) 0)) (K (V.tup [eZ,V.int .i64 (lN b)])) (sel (ax (-54000) (fH b)) (sel (aL (ax (fH b) 54000)) A (sel (seq a [45]) (sel P (sel H C (sel Q (sel I D (sel J (sel F A (sel R (sel L E (K (V.tup [V.agg [M,B,B,V.str [],T,S,N,O,B,B,G,B,B],B]))) none)) A)) none)) none) (sel U (sel (F5 a) (sel U (sel (aL (ieq (lN a) 0)) (K (V.tup [eZ,V.int .i64 (lN a)])) (sel (ax (-10800) (fH a)) (sel (aL (ax (fH a) 10800)) A (sel P (sel H C (sel Q (sel I D (sel J (sel F A (sel R (sel L E (K (V.tup [V.agg [M,G,V.int .i64 (fH a),V.str [],T,S,N,O,B,B,G,B,B],B]))) none)) A)) none)) none)) A)) none) (sel (ax (aB a) 1000) (sel (aL (ieq (dK a) 0)) (K (V.tup [eZ,V.int .i64 (dK a)])) (sel P (sel H C (sel Q (sel I D (sel J (sel F A (sel R (sel L E (K (V.tup [V.agg [M,V.int .i64 2,B,V.str a,T,S,N,O,B,B,G,B,B],B]))) none)) A)) none)) none)) none)) none))) A)) none:=by kernel_rfl
theorem K3 (c a d e f b) (K:V→Option V):
 bE eE (bC eE eS1 9 10) 9 94 [V.sl 9 [Kd.str] none [V.str c,V.str a,V.str d,V.str e,V.str f,V.str b]] K=
 let A:=K (V.tup [eZ,V.int .i64 1]);let B:=V.int .i64 0;let C:=aL (qm (rq b) (iL b) (ru b) (ve f));let D:=K (V.tup [eZ,V.int .i64 (iX d)]);let E:=K (V.tup [eZ,V.int .i64 (nrW e)]);let F:=K (V.tup [eZ,V.int .i64 (qj f)]);let G:=K (V.tup [eZ,V.int .i64 (sU b)]);let H:=aL (aR (iF e) 32767);let I:=aL (ieq (iX d) 0);let J:=aL (ieq (nrW e) 0);let L:=aR (-32767) (iF e);let M:=aL (ieq (qj f) 0);let N:=aL (ieq (sU b) 0);let O:=V.int .i64 (iL b);let P:=V.int .i64 (fH c);let Q:=V.int .i64 (iF e);let R:=V.int .i64 (ve f);let S:=V.int .i64 (rq b);let T:=V.int .i64 (ru b);let U:=ax (aB d) 900;let W:=ax (aB e) 900;let X:=ax (aB f) 900;let Y:=ax (aB b) 900;let Z:=V.bool true;sel (ax (aB c) 900) (sel (aL (ieq (lN c) 0)) (K (V.tup [eZ,V.int .i64 (lN c)])) (sel (ax (-54000) (fH c)) (sel (aL (ax (fH c) 54000)) A (sel (seq a [45]) (sel U (sel I D (sel W (sel J E (sel L (sel H A (sel X (sel M F (sel Y (sel N G (sel C A (K (V.tup [V.agg [P,B,B,V.str [],V.str d,Z,Q,R,S,O,T,B,B],B])))) none)) none)) A)) none)) none) (sel (ax (aB a) 900) (sel (F5 a) (sel (ax (aB a) 900) (sel (aL (ieq (lN a) 0)) (K (V.tup [eZ,V.int .i64 (lN a)])) (sel (ax (-10800) (fH a)) (sel (aL (ax (fH a) 10800)) A (sel U (sel I D (sel W (sel J E (sel L (sel H A (sel X (sel M F (sel Y (sel N G (sel C A (K (V.tup [V.agg [P,V.int .i64 1,V.int .i64 (fH a),V.str [],V.str d,Z,Q,R,S,O,T,B,B],B])))) none)) none)) A)) none)) none)) A)) none) (sel (ax (aB a) 1000) (sel (aL (ieq (dK a) 0)) (K (V.tup [eZ,V.int .i64 (dK a)])) (sel U (sel I D (sel W (sel J E (sel L (sel H A (sel X (sel M F (sel Y (sel N G (sel C A (K (V.tup [V.agg [P,V.int .i64 2,B,V.str a,V.str d,Z,Q,R,S,O,T,B,B],B])))) none)) none)) A)) none)) none)) none)) none))) A)) none:=by kernel_rfl
theorem K4 (d a e c f b g) (K:V→Option V):
 bE eE (bC eE eS1 9 10) 9 94 [V.sl 9 [Kd.str] none [V.str d,V.str a,V.str e,V.str c,V.str f,V.str b,V.str g]] K=
 let A:=K (V.tup [eZ,V.int .i64 1]);let B:=aL (qm (rq b) (iL b) (ru b) (ve f));let C:=K (V.tup [eZ,V.int .i64 (iX e)]);let D:=K (V.tup [eZ,V.int .i64 (nrW c)]);let E:=K (V.tup [eZ,V.int .i64 (qj f)]);let F:=K (V.tup [eZ,V.int .i64 (sU b)]);let G:=K (V.tup [eZ,V.int .i64 (yZ g)]);let H:=V.int .i64 0;let I:=aL (aR (iF c) 32767);let J:=aL (ieq (iX e) 0);let L:=aL (ieq (nrW c) 0);let M:=aR (-32767) (iF c);let N:=aL (ieq (qj f) 0);let O:=aL (ieq (sU b) 0);let P:=aL (ieq (yZ g) 0);let Q:=V.int .i64 (iL b);let R:=V.int .i64 (fH d);let S:=V.int .i64 (iF c);let T:=V.int .i64 (ve f);let U:=V.int .i64 (rq b);let W:=V.int .i64 (ru b);let X:=V.int .i64 (Qx g);let Y:=V.int .i64 (Qy g);let Z:=ax (aB e) 900;let Aa:=ax (aB c) 900;let Ab:=ax (aB f) 900;let Ac:=ax (aB b) 900;let Ad:=ax (aB g) 900;let Ae:=V.bool true;sel (ax (aB d) 900) (sel (aL (ieq (lN d) 0)) (K (V.tup [eZ,V.int .i64 (lN d)])) (sel (ax (-54000) (fH d)) (sel (aL (ax (fH d) 54000)) A (sel (seq a [45]) (sel Z (sel J C (sel Aa (sel L D (sel M (sel I A (sel Ab (sel N E (sel Ac (sel O F (sel B A (sel Ad (sel P G (K (V.tup [V.agg [R,H,H,V.str [],V.str e,Ae,S,T,U,Q,W,X,Y],H]))) none))) none)) none)) A)) none)) none) (sel (ax (aB a) 900) (sel (F5 a) (sel (ax (aB a) 900) (sel (aL (ieq (lN a) 0)) (K (V.tup [eZ,V.int .i64 (lN a)])) (sel (ax (-10800) (fH a)) (sel (aL (ax (fH a) 10800)) A (sel Z (sel J C (sel Aa (sel L D (sel M (sel I A (sel Ab (sel N E (sel Ac (sel O F (sel B A (sel Ad (sel P G (K (V.tup [V.agg [R,V.int .i64 1,V.int .i64 (fH a),V.str [],V.str e,Ae,S,T,U,Q,W,X,Y],H]))) none))) none)) none)) A)) none)) none)) A)) none) (sel (ax (aB a) 1000) (sel (aL (ieq (dK a) 0)) (K (V.tup [eZ,V.int .i64 (dK a)])) (sel Z (sel J C (sel Aa (sel L D (sel M (sel I A (sel Ab (sel N E (sel Ac (sel O F (sel B A (sel Ad (sel P G (K (V.tup [V.agg [R,V.int .i64 2,H,V.str a,V.str e,Ae,S,T,U,Q,W,X,Y],H]))) none))) none)) none)) A)) none)) none)) none)) none))) A)) none:=by kernel_rfl
open Go.RowKit Nt
theorem iZ:uQ eE:=⟨by kernel_rfl,by kernel_rfl⟩
theorem Au {f:Nat} {args:ah} {r:V} (h:aj zE f args r):aj eE f args r:=aj.env (E:=zE) rfl (fun n v h=>by
 show(bif n==1 then some firstV else zE.glob n)=some v
 cases e:n==1 with
 |true=>
  obtain rfl:n=1:=by simpa using e
  have:zE.glob 1=none:=by kernel_rfl
  rw[this] at h;cases h
 |false=>exact h) h
theorem eNrS_ok (s:af) (a:ax (aB s) 900=true):aj eE 170 [.str s] (.tup [.int .i64 (iF s),.int .i64 (nrW s)]):=Au (toZ (OO s (by have:=tN a;omega)))
theorem Yy (n:Int) (a:ak (ax (-9223372036854775808) n) (ax n 9223372036854775807)=true):aj eE 52 [.int .i64 n] (.str (text n)):=Au (toZ (BA n (Im a)))
theorem Yz (s:af) (a:ax (aB s) 900=true):aj eE 83 [.str s] (.int .i64 (iX s)):=Au (toZf (DZ s (zy a)))
theorem eS0_ok:aZ eE eS0:=by
 unfold eS0;refine aZ.cons (fun args r h=>?_) (aZ.cons (fun args r h=>?_) (aZ.cons (fun args r h=>?_) (aZ.cons (fun args r h=>?_) (aZ.cons (fun args r h=>?_) (aZ.cons (fun args r h=>?_) (aZ.cons (fun args r h=>?_) (aZ.cons (fun args r h=>?_) (aZ.cons (fun args r h=>?_) (aZ.cons (fun args r h=>?_) (aZ.cons (fun args r h=>?_) (aZ.cons (fun args r h=>?_) (aZ.cons (fun args r h=>?_) (aZ.cons (fun args r h=>?_) aZ.nil)))))))))))));all_goals (revert h;intro h;first|unfold eNrS at h|unfold eNtS at h|unfold eChS at h|unfold NT at h|unfold Db at h|unfold Xw at h|unfold Xx at h|unfold Xy at h|unfold Xz at h|unfold ZL at h|unfold ZM at h|unfold ZN at h|unfold ZO at h|unfold ZQ at h)
 all_goals (split at h;rotate_left; · cases h)
 all_goals (simp only[aT,bP] at h;obtain⟨a,rfl⟩:=h)
 ·exact eNrS_ok _ a
 ·exact Yy _ a
 ·exact Yz _ a
 ·exact Au (DV _ a)
 ·exact Au (DW _ _ _ _ rfl)
 ·exact Au (RF _ a)
 ·exact Au (RG _ a)
 ·exact Au (RH _ a)
 ·exact Au (RI _ a)
 ·exact Au (OW _ _ _ rfl)
 ·exact Au (OX _ _ rfl)
 ·exact Au (OY _ _ rfl)
 ·exact Au (OZ _ a)
 exact Au (O0 _ a)
theorem eNoS_ok (s:af) (a:false=true):aj eE 141 [.str s] (.int .i64 0):=by cases a
theorem eSn_ok:aZ eE eSn:=by
 unfold eSn;refine aZ.cons (fun args r h=>?_) aZ.nil;all_goals (revert h;intro h;first|unfold eNoS at h)
 all_goals (split at h;rotate_left; · cases h)
 all_goals (simp only[aT,bP] at h;obtain⟨a,rfl⟩:=h)
 ·exact eNoS_ok _ a
theorem sat_0 (c:UInt8) (t:af):sat (c::t) 0=((c.toNat:Nat):Int):=rfl
theorem eNumS_ok (s:af) (o:ax (aB s) 900=true):aj eE 169 [.str s] (.bool (F5 s)):=by
 refine au iZ eS0_ok 5 4 ?_
 (rw[eNum_top];(conv=>zeta))
 have one:aB [45]=1:=rfl;rw[one];rcases s with _|⟨c,_|⟨d,t⟩⟩
 ·rfl
 ·
  have j:ax 1 (aB [c])=true:=rfl;have l2:ak (ax 0 1) true=true:=rfl;have l:dQ [c] 0 1=[c]:=rfl;have f:dQ [c] 1 (aB [c])=[]:=rfl;have h:ak (ax 0 0) (aR 0 (aB [c]))=true:=rfl;have k:seq [c] []=false:=rfl;have i:seq [c] [45]=(c==45):=by rw[uF,dx,iJ];simp
  have e:ax 48 ((c.toNat:Nat):Int)=decide (48≤c.toNat):=Io c 48;have b:ax ((c.toNat:Nat):Int) 57=decide (c.toNat≤57):=Be c 57;rw[j,l2,l,f,h,k,sat_0,i,e,b];show _=some (V.bool (decide (48≤c.toNat)&&decide (c.toNat≤57)))
  cases g:c==45 with
  |true=>
   have:c=45:=by simpa using g
   subst this;rfl
  |false=>cases decide (48≤c.toNat)<;>cases decide (c.toNat≤57)<;>rfl
 ·
  rw[aA,aJ] at o;have j:ax 1 (aB (c::d::t))=true:=bn (by rw[aJ,dN,dN];omega);have l2:ak (ax 0 1) true=true:=rfl;have l:dQ (c::d::t) 0 1=[c]:=rfl;have f:dQ (c::d::t) 1 (aB (c::d::t))=d::t:=by unfold dQ aB;show List.take (((c::d::t).length:Int).toNat-1) (d::t)=d::t;rw[Qe];simp;omega
  have h:seq (d::t) []=false:=rfl;have k:seq (c::d::t) []=false:=rfl;have m:ak (ax 0 0) (aR 0 (aB (d::t)))=true:=by rw[bu (by rw[aJ,dN];omega)];rfl
  have n:ak (ax 0 0) (aR 0 (aB (c::d::t)))=true:=by rw[bu (by rw[aJ,dN];omega)];rfl
  rw[j,l2,l,f,h,k,m,n,sat_0,sat_0];have i:seq [c] [45]=(c==45):=by rw[uF,dx,iJ];simp
  have e: ∀x:UInt8,ax 48 ((x.toNat:Nat):Int)=decide (48≤x.toNat):=fun x=>Io x 48
  have b: ∀x:UInt8,ax ((x.toNat:Nat):Int) 57=decide (x.toNat≤57):=fun x=>Be x 57
  rw[i,e,e,b,b];show _=some (V.bool ((decide (48≤c.toNat)&&decide (c.toNat≤57))||(c==45&&(decide (48≤d.toNat)&&decide (d.toNat≤57)))))
  cases a:c==45 with
  |true=>
   have:c=45:=by simpa using a
   subst this
   cases decide (48≤d.toNat)<;>cases decide (d.toNat≤57)<;>rfl
  |false=>cases decide (48≤c.toNat)<;>cases decide (c.toNat≤57)<;>cases decide (48≤d.toNat)<;>cases decide (d.toNat≤57)<;>rfl
theorem tY (s:af):Qk s=sel (seq s [45]) 0 (sel (F5 s) (svW s) (dK s)):=by
 unfold Qk rlP;simp only[bM,dx]
 (repeat' split)<;>rfl
theorem ic (s:af):ZD s=sel (seq s [45]) 0 (sel (F5 s) 1 2):=by
 unfold ZD rlP;simp only[bM,dx]
 (repeat' split)<;>rfl
theorem ig (s:af):Ar s=sel (seq s [45]) 0 (sel (F5 s) (svI s) 0):=by
 unfold Ar rlP;simp only[bM,dx]
 (repeat' split)<;>rfl
theorem iq (s:af):Xa s=sel (seq s [45]) [] (sel (F5 s) [] s):=by
 unfold Xa rlP;simp only[bM,dx]
 (repeat' split)<;>rfl
theorem iw (s:af):svI s=sel (ieq (lN s) 0) (sel (ax (-10800) (fH s)) (sel (ax (fH s) 10800) (fH s) 0) 0) (fH s):=by
 unfold svI svP;simp only[bM,aO,aA];by_cases h:lN s=0
 ·rw[if_pos h,if_pos h]
  by_cases a: -10800≤fH s
  ·rw[if_pos a]
   by_cases b:fH s≤10800
   ·rw[if_pos b,if_neg (by omega)]
   rw[if_neg b,if_pos (by omega)]
  rw[if_neg a,if_pos (by omega)]
 rw[if_neg h,if_neg h]
theorem jG (s:af) (m:Int):odK s m=sel (ieq (sU s) 0) (sel (qm (rq s) (iL s) (ru s) m) (rq s) 0) (rq s):=by
 unfold odK odP;simp only[bM,aO]
 (repeat' split)<;>rfl
theorem jH (s:af) (m:Int):odW s m=sel (ieq (sU s) 0) (sel (qm (rq s) (iL s) (ru s) m) (iL s) 0) (iL s):=by
 unfold odW odP;simp only[bM,aO]
 (repeat' split)<;>rfl
theorem jI (s:af) (m:Int):odD s m=sel (ieq (sU s) 0) (sel (qm (rq s) (iL s) (ru s) m) (ru s) 0) (ru s):=by
 unfold odD odP;simp only[bM,aO]
 (repeat' split)<;>rfl
theorem Ip (a b:Int):aR a b=aL (ax b a):=by unfold aR ax aL;rw[uF,lK,ac4,ab2];omega
theorem Iq:aZ eE eS1:=by
 unfold eS1;refine aZ.cons (fun args r h=>?_) eS0_ok;all_goals (revert h;intro h;first|unfold eNumS at h)
 all_goals (split at h;rotate_left; · cases h)
 all_goals (simp only[aT,bP] at h;obtain⟨a,rfl⟩:=h)
 ·exact eNumS_ok _ a
def Kk (s:af):Int:=sel (ieq (lN s) 0) (sel (ax (-54000) (fH s)) (sel (ax (fH s) 54000) 0 1) 1) (lN s)
def kT (xs:ah):Int:=sel (aR (ay xs) 3) 5 (sel (aR 7 (ay xs)) 6 (sel (ieq (Kk (rg xs 0)) 0) (sel (ieq (Qk (rg xs 1)) 0) (sel (ieq (iX (rg xs 2)) 0) (zf (fA xs 3 (ay xs))) (iX (rg xs 2))) (Qk (rg xs 1))) (Kk (rg xs 0))))
def T7 (xs:ah):Int:=sel (ieq (kT xs) 0) (fH (rg xs 0)) 0
def Xb (xs:ah):Int:=sel (ieq (kT xs) 0) (ZD (rg xs 1)) 0
def T8 (xs:ah):Int:=sel (ieq (kT xs) 0) (Ar (rg xs 1)) 0
def UA (xs:ah):af:=sel (ieq (kT xs) 0) (Xa (rg xs 1)) []
def UB (xs:ah):af:=sel (ieq (kT xs) 0) (rg xs 2) []
def FF (xs:ah):Bool:=sel (ieq (kT xs) 0) (sW (fA xs 3 (ay xs))) false
def T9 (xs:ah):Int:=sel (ieq (kT xs) 0) (y5 (fA xs 3 (ay xs))) 0
def Ua (xs:ah):Int:=sel (ieq (kT xs) 0) (sZ (fA xs 3 (ay xs))) 0
def Xc (xs:ah):Int:=sel (ieq (kT xs) 0) (y7 (fA xs 3 (ay xs))) 0
def Xd (xs:ah):Int:=sel (ieq (kT xs) 0) (y8 (fA xs 3 (ay xs))) 0
def Ay (xs:ah):Int:=sel (ieq (kT xs) 0) (y9 (fA xs 3 (ay xs))) 0
def Az (xs:ah):Int:=sel (ieq (kT xs) 0) (za (fA xs 3 (ay xs))) 0
def AA (xs:ah):Int:=sel (ieq (kT xs) 0) (ze (fA xs 3 (ay xs))) 0
def Np (xs:ah):V:=.tup [.agg [.int .i64 (T7 xs),.int .i64 (Xb xs),.int .i64 (T8 xs),.str (UA xs),.str (UB xs),.bool (FF xs),.int .i64 (T9 xs),.int .i64 (Ua xs),.int .i64 (Xc xs),.int .i64 (Xd xs),.int .i64 (Ay xs),.int .i64 (Az xs),.int .i64 (AA xs)],.int .i64 (kT xs)]
def erW (xs:ah) (d h l:Int) (i e:af) (m:Bool) (g k f j a c b:Int):V:=.tup [.agg [.int .i64 (sel (ieq (kT xs) 0) d 0),.int .i64 (sel (ieq (kT xs) 0) h 0),.int .i64 (sel (ieq (kT xs) 0) l 0),.str (sel (ieq (kT xs) 0) i []),.str (sel (ieq (kT xs) 0) e []),.bool (sel (ieq (kT xs) 0) m false),.int .i64 (sel (ieq (kT xs) 0) g 0),.int .i64 (sel (ieq (kT xs) 0) k 0),.int .i64 (sel (ieq (kT xs) 0) f 0),.int .i64 (sel (ieq (kT xs) 0) j 0),.int .i64 (sel (ieq (kT xs) 0) a 0),.int .i64 (sel (ieq (kT xs) 0) c 0),.int .i64 (sel (ieq (kT xs) 0) b 0)],.int .i64 (kT xs)]
theorem kY (xs:ah) (d i m:Int) (j e:af) (n:Bool) (g l f k a c b:Int) (h:kT xs=0):erW xs d i m j e n g l f k a c b=.tup [.agg [.int .i64 d,.int .i64 i,.int .i64 m,.str j,.str e,.bool n,.int .i64 g,.int .i64 l,.int .i64 f,.int .i64 k,.int .i64 a,.int .i64 c,.int .i64 b],.int .i64 0]:=by unfold erW;rw[h];rfl
theorem aY (xs:ah) {e:Int} (h:kT xs=e) (a:ieq e 0=false):Np xs=.tup [.agg [.int .i64 0,.int .i64 0,.int .i64 0,.str [],.str [],.bool false,.int .i64 0,.int .i64 0,.int .i64 0,.int .i64 0,.int .i64 0,.int .i64 0,.int .i64 0],.int .i64 e]:=by unfold Np T7 Xb T8 UA UB FF T9 Ua Xc Xd Ay Az AA;rw[h,a];rfl
theorem eQ:(∀{α:Type} (a b:α),sel true a b=a)∧(∀{α:Type} (a b:α),sel false a b=b)∧ieq 1 0=false∧ieq 0 0=true∧aL true=false∧aL false=true:=⟨fun _ _=>rfl,fun _ _=>rfl,rfl,rfl,rfl,rfl⟩
set_option maxHeartbeats 2000000 in
theorem aeP (a0 a1 a2:af) (h0:ax (aB a0) 900=true) (h1:ax (aB a1) 900=true) (h2:ax (aB a2) 900=true):aj eE 94 [.sl 9 [.str] none [.str a0,.str a1,.str a2]] (Np [.str a0,.str a1,.str a2]):=by
 refine au iZ Iq 9 10 ?_
 (rw[KW];(conv=>zeta))
 have g1:kT [.str a0,.str a1,.str a2]=sel (ieq (Kk a0) 0) (sel (ieq (Qk a1) 0) (sel (ieq (iX a2) 0) (zf []) (iX a2)) (Qk a1)) (Kk a0):=rfl;have gY:Np [.str a0,.str a1,.str a2]=erW [.str a0,.str a1,.str a2] (fH a0) (ZD a1) (Ar a1) (Xa a1) a2 (sW []) (y5 []) (sZ []) (y7 []) (y8 []) (y9 []) (za []) (ze []):=rfl;have z1:ieq 1 0=false:=rfl;have z0:ieq 0 0=true:=rfl;have b0:aL true=false:=rfl;have b1:aL false=true:=rfl;have gE:zf []=0:=rfl;simp only[h0,h1,h2,Ip,sT];have hT:=g1;simp only[Kk,tY,gP,gE,sT,sF,z0,z1,b0,b1] at hT
 cases e0:ieq (lN a0) 0<;>simp only[e0,eQ] at hT⊢
 ·rw[aY _ hT e0]
 cases e1:ax (-54000) (fH a0)<;>simp only[e1,eQ] at hT⊢
 ·rw[aY _ hT rfl]
 cases e2:ax (fH a0) 54000<;>simp only[e2,eQ] at hT⊢
 ·rw[aY _ hT rfl]
 cases e3:seq a1 [45] with
 |true=>
  simp only[e3,eQ] at hT⊢
  cases ec:ieq (iX a2) 0<;>simp only[ec,eQ] at hT⊢
  ·rw[aY _ hT ec]
  have c0:iX a2=0:=by rw[aO] at ec;exact ec
  rw[gY,kY _ _ _ _ _ _ _ _ _ _ _ _ _ _ (by first|exact hT|(rw[hT];first|rfl|assumption))];simp only[ic,ig,iq,gP,iw,gE,e0,e1,e2,e3,ec,c0,sT,sF,z0,z1,b0,b1];rfl
 |false=>
 cases e4:F5 a1 with
 |true=>
  simp only[e3,e4,eQ] at hT⊢
  cases e5:ieq (lN a1) 0<;>simp only[e5,eQ] at hT⊢
  ·rw[aY _ hT e5]
  cases e6:ax (-10800) (fH a1)<;>simp only[e6,eQ] at hT⊢
  ·rw[aY _ hT rfl]
  cases e7:ax (fH a1) 10800<;>simp only[e7,eQ] at hT⊢
  ·rw[aY _ hT rfl]
  cases ec:ieq (iX a2) 0<;>simp only[ec,eQ] at hT⊢
  ·rw[aY _ hT ec]
  have c0:iX a2=0:=by rw[aO] at ec;exact ec
  rw[gY,kY _ _ _ _ _ _ _ _ _ _ _ _ _ _ (by first|exact hT|(rw[hT];first|rfl|assumption))];simp only[ic,ig,iq,gP,iw,gE,e0,e1,e2,e3,e4,e5,e6,e7,ec,c0,sT,sF,z0,z1,b0,b1];rfl
 |false=>
 simp only[e3,e4,zy h1,eQ] at hT⊢
 cases e5:ieq (dK a1) 0<;>simp only[e5,eQ] at hT⊢
 ·rw[aY _ hT e5]
 have q0:dK a1=0:=by rw[aO] at e5;exact e5
 cases ec:ieq (iX a2) 0<;>simp only[ec,eQ] at hT⊢
 ·rw[aY _ hT ec]
 have c0:iX a2=0:=by rw[aO] at ec;exact ec
 rw[gY,kY _ _ _ _ _ _ _ _ _ _ _ _ _ _ (by first|exact hT|(rw[hT];first|rfl|assumption))];simp only[ic,ig,iq,gP,iw,gE,e0,e1,e2,e3,e4,e5,q0,ec,c0,sT,sF,z0,z1,b0,b1];rfl
set_option maxHeartbeats 2000000 in
theorem aeQ (a0 a1 a2 a3:af) (h0:ax (aB a0) 900=true) (h1:ax (aB a1) 900=true) (h2:ax (aB a2) 900=true) (h3:ax (aB a3) 900=true):aj eE 94 [.sl 9 [.str] none [.str a0,.str a1,.str a2,.str a3]] (Np [.str a0,.str a1,.str a2,.str a3]):=by
 refine au iZ Iq 9 10 ?_
 (rw[KY];(conv=>zeta))
 have g1:kT [.str a0,.str a1,.str a2,.str a3]=sel (ieq (Kk a0) 0) (sel (ieq (Qk a1) 0) (sel (ieq (iX a2) 0) (zf [.str a3]) (iX a2)) (Qk a1)) (Kk a0):=rfl;have gY:Np [.str a0,.str a1,.str a2,.str a3]=erW [.str a0,.str a1,.str a2,.str a3] (fH a0) (ZD a1) (Ar a1) (Xa a1) a2 (sW [.str a3]) (y5 [.str a3]) (sZ [.str a3]) (y7 [.str a3]) (y8 [.str a3]) (y9 [.str a3]) (za [.str a3]) (ze [.str a3]):=rfl;have z1:ieq 1 0=false:=rfl;have z0:ieq 0 0=true:=rfl;have b0:aL true=false:=rfl;have b1:aL false=true:=rfl;have r3:rg [.str a3] 0=a3:=rfl;have hl:ay [.str a3]=1:=rfl;simp only[h0,h1,h2,h3,Ip,sT];have hT:=g1;simp only[Kk,tY,gP,zf,Kj,F7,F6,en0,nS,sW,r3,hl,show ieq 1 0=false from rfl,show aR 1 1=false from rfl,show aR 2 1=false from rfl,show aR 3 1=false from rfl,jE,sT,sF,z0,z1,b0,b1] at hT
 cases e0:ieq (lN a0) 0<;>simp only[e0,eQ] at hT⊢
 ·rw[aY _ hT e0]
 cases e1:ax (-54000) (fH a0)<;>simp only[e1,eQ] at hT⊢
 ·rw[aY _ hT rfl]
 cases e2:ax (fH a0) 54000<;>simp only[e2,eQ] at hT⊢
 ·rw[aY _ hT rfl]
 cases e3:seq a1 [45] with
 |true=>
  simp only[e3,eQ] at hT⊢
  cases ec:ieq (iX a2) 0<;>simp only[ec,eQ] at hT⊢
  ·rw[aY _ hT ec]
  have c0:iX a2=0:=by rw[aO] at ec;exact ec
  cases en:ieq (nrW a3) 0<;>simp only[en,eQ] at hT⊢
  ·rw[aY _ hT en]
  cases ey:ax (iF a3) (-32767)<;>simp only[ey,eQ] at hT⊢
  rotate_left
  ·rw[aY _ hT rfl]
  cases ez:ax 32767 (iF a3)<;>simp only[ez,eQ] at hT⊢
  rotate_left
  ·rw[aY _ hT rfl]
  have n0:nrW a3=0:=by rw[aO] at en;exact en
  rw[gY,kY _ _ _ _ _ _ _ _ _ _ _ _ _ _ (by first|exact hT|(rw[hT];first|rfl|assumption))];simp only[ic,ig,iq,gP,iw,y5,sZ,y7,y8,y9,za,ze,rC,qy,jG,jH,jI,zf,Kj,F7,F6,en0,nS,sW,r3,hl,show ieq 1 0=false from rfl,show aR 1 1=false from rfl,show aR 2 1=false from rfl,show aR 3 1=false from rfl,jE,e0,e1,e2,e3,ec,c0,en,ey,ez,n0,sT,sF,z0,z1,b0,b1]
 |false=>
 cases e4:F5 a1 with
 |true=>
  simp only[e3,e4,eQ] at hT⊢
  cases e5:ieq (lN a1) 0<;>simp only[e5,eQ] at hT⊢
  ·rw[aY _ hT e5]
  cases e6:ax (-10800) (fH a1)<;>simp only[e6,eQ] at hT⊢
  ·rw[aY _ hT rfl]
  cases e7:ax (fH a1) 10800<;>simp only[e7,eQ] at hT⊢
  ·rw[aY _ hT rfl]
  cases ec:ieq (iX a2) 0<;>simp only[ec,eQ] at hT⊢
  ·rw[aY _ hT ec]
  have c0:iX a2=0:=by rw[aO] at ec;exact ec
  cases en:ieq (nrW a3) 0<;>simp only[en,eQ] at hT⊢
  ·rw[aY _ hT en]
  cases ey:ax (iF a3) (-32767)<;>simp only[ey,eQ] at hT⊢
  rotate_left
  ·rw[aY _ hT rfl]
  cases ez:ax 32767 (iF a3)<;>simp only[ez,eQ] at hT⊢
  rotate_left
  ·rw[aY _ hT rfl]
  have n0:nrW a3=0:=by rw[aO] at en;exact en
  rw[gY,kY _ _ _ _ _ _ _ _ _ _ _ _ _ _ (by first|exact hT|(rw[hT];first|rfl|assumption))];simp only[ic,ig,iq,gP,iw,y5,sZ,y7,y8,y9,za,ze,rC,qy,jG,jH,jI,zf,Kj,F7,F6,en0,nS,sW,r3,hl,show ieq 1 0=false from rfl,show aR 1 1=false from rfl,show aR 2 1=false from rfl,show aR 3 1=false from rfl,jE,e0,e1,e2,e3,e4,e5,e6,e7,ec,c0,en,ey,ez,n0,sT,sF,z0,z1,b0,b1]
 |false=>
 simp only[e3,e4,zy h1,eQ] at hT⊢
 cases e5:ieq (dK a1) 0<;>simp only[e5,eQ] at hT⊢
 ·rw[aY _ hT e5]
 have q0:dK a1=0:=by rw[aO] at e5;exact e5
 cases ec:ieq (iX a2) 0<;>simp only[ec,eQ] at hT⊢
 ·rw[aY _ hT ec]
 have c0:iX a2=0:=by rw[aO] at ec;exact ec
 cases en:ieq (nrW a3) 0<;>simp only[en,eQ] at hT⊢
 ·rw[aY _ hT en]
 cases ey:ax (iF a3) (-32767)<;>simp only[ey,eQ] at hT⊢
 rotate_left
 ·rw[aY _ hT rfl]
 cases ez:ax 32767 (iF a3)<;>simp only[ez,eQ] at hT⊢
 rotate_left
 ·rw[aY _ hT rfl]
 have n0:nrW a3=0:=by rw[aO] at en;exact en
 rw[gY,kY _ _ _ _ _ _ _ _ _ _ _ _ _ _ (by first|exact hT|(rw[hT];first|rfl|assumption))];simp only[ic,ig,iq,gP,iw,y5,sZ,y7,y8,y9,za,ze,rC,qy,jG,jH,jI,zf,Kj,F7,F6,en0,nS,sW,r3,hl,show ieq 1 0=false from rfl,show aR 1 1=false from rfl,show aR 2 1=false from rfl,show aR 3 1=false from rfl,jE,e0,e1,e2,e3,e4,e5,q0,ec,c0,en,ey,ez,n0,sT,sF,z0,z1,b0,b1]
set_option maxHeartbeats 2000000 in
theorem aeR (a0 a1 a2 a3 a4:af) (h0:ax (aB a0) 900=true) (h1:ax (aB a1) 900=true) (h2:ax (aB a2) 900=true) (h3:ax (aB a3) 900=true) (h4:ax (aB a4) 900=true):aj eE 94 [.sl 9 [.str] none [.str a0,.str a1,.str a2,.str a3,.str a4]] (Np [.str a0,.str a1,.str a2,.str a3,.str a4]):=by
 refine au iZ Iq 9 10 ?_
 (rw[KZ];(conv=>zeta))
 have g1:kT [.str a0,.str a1,.str a2,.str a3,.str a4]=sel (ieq (Kk a0) 0) (sel (ieq (Qk a1) 0) (sel (ieq (iX a2) 0) (zf [.str a3,.str a4]) (iX a2)) (Qk a1)) (Kk a0):=rfl;have gY:Np [.str a0,.str a1,.str a2,.str a3,.str a4]=erW [.str a0,.str a1,.str a2,.str a3,.str a4] (fH a0) (ZD a1) (Ar a1) (Xa a1) a2 (sW [.str a3,.str a4]) (y5 [.str a3,.str a4]) (sZ [.str a3,.str a4]) (y7 [.str a3,.str a4]) (y8 [.str a3,.str a4]) (y9 [.str a3,.str a4]) (za [.str a3,.str a4]) (ze [.str a3,.str a4]):=rfl;have z1:ieq 1 0=false:=rfl;have z0:ieq 0 0=true:=rfl;have b0:aL true=false:=rfl;have b1:aL false=true:=rfl;have r3:rg [.str a3,.str a4] 0=a3:=rfl;have r4:rg [.str a3,.str a4] 1=a4:=rfl;have hl:ay [.str a3,.str a4]=2:=rfl;simp only[h0,h1,h2,h3,h4,Ip,sT];have hT:=g1;simp only[Kk,tY,gP,zf,Kj,F7,F6,en0,nS,sW,r3,r4,hl,show ieq 2 0=false from rfl,show aR 1 2=true from rfl,show aR 2 2=false from rfl,show aR 3 2=false from rfl,jE,sT,sF,z0,z1,b0,b1] at hT
 cases e0:ieq (lN a0) 0<;>simp only[e0,eQ] at hT⊢
 ·rw[aY _ hT e0]
 cases e1:ax (-54000) (fH a0)<;>simp only[e1,eQ] at hT⊢
 ·rw[aY _ hT rfl]
 cases e2:ax (fH a0) 54000<;>simp only[e2,eQ] at hT⊢
 ·rw[aY _ hT rfl]
 cases e3:seq a1 [45] with
 |true=>
  simp only[e3,eQ] at hT⊢
  cases ec:ieq (iX a2) 0<;>simp only[ec,eQ] at hT⊢
  ·rw[aY _ hT ec]
  have c0:iX a2=0:=by rw[aO] at ec;exact ec
  cases en:ieq (nrW a3) 0<;>simp only[en,eQ] at hT⊢
  ·rw[aY _ hT en]
  cases ey:ax (iF a3) (-32767)<;>simp only[ey,eQ] at hT⊢
  rotate_left
  ·rw[aY _ hT rfl]
  cases ez:ax 32767 (iF a3)<;>simp only[ez,eQ] at hT⊢
  rotate_left
  ·rw[aY _ hT rfl]
  cases em:ieq (qj a4) 0<;>simp only[em,eQ] at hT⊢
  ·rw[aY _ hT em]
  have m0:qj a4=0:=by rw[aO] at em;exact em
  have n0:nrW a3=0:=by rw[aO] at en;exact en
  rw[gY,kY _ _ _ _ _ _ _ _ _ _ _ _ _ _ (by first|exact hT|(rw[hT];first|rfl|assumption))];simp only[ic,ig,iq,gP,iw,y5,sZ,y7,y8,y9,za,ze,rC,qy,jG,jH,jI,zf,Kj,F7,F6,en0,nS,sW,r3,r4,hl,show ieq 2 0=false from rfl,show aR 1 2=true from rfl,show aR 2 2=false from rfl,show aR 3 2=false from rfl,jE,e0,e1,e2,e3,ec,c0,en,ey,ez,em,m0,n0,sT,sF,z0,z1,b0,b1]
 |false=>
 cases e4:F5 a1 with
 |true=>
  simp only[e3,e4,eQ] at hT⊢
  cases e5:ieq (lN a1) 0<;>simp only[e5,eQ] at hT⊢
  ·rw[aY _ hT e5]
  cases e6:ax (-10800) (fH a1)<;>simp only[e6,eQ] at hT⊢
  ·rw[aY _ hT rfl]
  cases e7:ax (fH a1) 10800<;>simp only[e7,eQ] at hT⊢
  ·rw[aY _ hT rfl]
  cases ec:ieq (iX a2) 0<;>simp only[ec,eQ] at hT⊢
  ·rw[aY _ hT ec]
  have c0:iX a2=0:=by rw[aO] at ec;exact ec
  cases en:ieq (nrW a3) 0<;>simp only[en,eQ] at hT⊢
  ·rw[aY _ hT en]
  cases ey:ax (iF a3) (-32767)<;>simp only[ey,eQ] at hT⊢
  rotate_left
  ·rw[aY _ hT rfl]
  cases ez:ax 32767 (iF a3)<;>simp only[ez,eQ] at hT⊢
  rotate_left
  ·rw[aY _ hT rfl]
  cases em:ieq (qj a4) 0<;>simp only[em,eQ] at hT⊢
  ·rw[aY _ hT em]
  have m0:qj a4=0:=by rw[aO] at em;exact em
  have n0:nrW a3=0:=by rw[aO] at en;exact en
  rw[gY,kY _ _ _ _ _ _ _ _ _ _ _ _ _ _ (by first|exact hT|(rw[hT];first|rfl|assumption))];simp only[ic,ig,iq,gP,iw,y5,sZ,y7,y8,y9,za,ze,rC,qy,jG,jH,jI,zf,Kj,F7,F6,en0,nS,sW,r3,r4,hl,show ieq 2 0=false from rfl,show aR 1 2=true from rfl,show aR 2 2=false from rfl,show aR 3 2=false from rfl,jE,e0,e1,e2,e3,e4,e5,e6,e7,ec,c0,en,ey,ez,em,m0,n0,sT,sF,z0,z1,b0,b1]
 |false=>
 simp only[e3,e4,zy h1,eQ] at hT⊢
 cases e5:ieq (dK a1) 0<;>simp only[e5,eQ] at hT⊢
 ·rw[aY _ hT e5]
 have q0:dK a1=0:=by rw[aO] at e5;exact e5
 cases ec:ieq (iX a2) 0<;>simp only[ec,eQ] at hT⊢
 ·rw[aY _ hT ec]
 have c0:iX a2=0:=by rw[aO] at ec;exact ec
 cases en:ieq (nrW a3) 0<;>simp only[en,eQ] at hT⊢
 ·rw[aY _ hT en]
 cases ey:ax (iF a3) (-32767)<;>simp only[ey,eQ] at hT⊢
 rotate_left
 ·rw[aY _ hT rfl]
 cases ez:ax 32767 (iF a3)<;>simp only[ez,eQ] at hT⊢
 rotate_left
 ·rw[aY _ hT rfl]
 cases em:ieq (qj a4) 0<;>simp only[em,eQ] at hT⊢
 ·rw[aY _ hT em]
 have m0:qj a4=0:=by rw[aO] at em;exact em
 have n0:nrW a3=0:=by rw[aO] at en;exact en
 rw[gY,kY _ _ _ _ _ _ _ _ _ _ _ _ _ _ (by first|exact hT|(rw[hT];first|rfl|assumption))];simp only[ic,ig,iq,gP,iw,y5,sZ,y7,y8,y9,za,ze,rC,qy,jG,jH,jI,zf,Kj,F7,F6,en0,nS,sW,r3,r4,hl,show ieq 2 0=false from rfl,show aR 1 2=true from rfl,show aR 2 2=false from rfl,show aR 3 2=false from rfl,jE,e0,e1,e2,e3,e4,e5,q0,ec,c0,en,ey,ez,em,m0,n0,sT,sF,z0,z1,b0,b1]
set_option maxHeartbeats 2000000 in
theorem aeS (a0 a1 a2 a3 a4 a5:af) (h0:ax (aB a0) 900=true) (h1:ax (aB a1) 900=true) (h2:ax (aB a2) 900=true) (h3:ax (aB a3) 900=true) (h4:ax (aB a4) 900=true) (h5:ax (aB a5) 900=true):aj eE 94 [.sl 9 [.str] none [.str a0,.str a1,.str a2,.str a3,.str a4,.str a5]] (Np [.str a0,.str a1,.str a2,.str a3,.str a4,.str a5]):=by
 refine au iZ Iq 9 10 ?_
 (rw[K3];(conv=>zeta))
 have g1:kT [.str a0,.str a1,.str a2,.str a3,.str a4,.str a5]=sel (ieq (Kk a0) 0) (sel (ieq (Qk a1) 0) (sel (ieq (iX a2) 0) (zf [.str a3,.str a4,.str a5]) (iX a2)) (Qk a1)) (Kk a0):=rfl;have gY:Np [.str a0,.str a1,.str a2,.str a3,.str a4,.str a5]=erW [.str a0,.str a1,.str a2,.str a3,.str a4,.str a5] (fH a0) (ZD a1) (Ar a1) (Xa a1) a2 (sW [.str a3,.str a4,.str a5]) (y5 [.str a3,.str a4,.str a5]) (sZ [.str a3,.str a4,.str a5]) (y7 [.str a3,.str a4,.str a5]) (y8 [.str a3,.str a4,.str a5]) (y9 [.str a3,.str a4,.str a5]) (za [.str a3,.str a4,.str a5]) (ze [.str a3,.str a4,.str a5]):=rfl;have z1:ieq 1 0=false:=rfl;have z0:ieq 0 0=true:=rfl;have b0:aL true=false:=rfl;have b1:aL false=true:=rfl;have r3:rg [.str a3,.str a4,.str a5] 0=a3:=rfl;have r4:rg [.str a3,.str a4,.str a5] 1=a4:=rfl;have r5:rg [.str a3,.str a4,.str a5] 2=a5:=rfl;have hl:ay [.str a3,.str a4,.str a5]=3:=rfl;simp only[h0,h1,h2,h3,h4,h5,Ip,sT];have hT:=g1;simp only[Kk,tY,gP,zf,Kj,F7,F6,en0,nS,sW,r3,r4,r5,hl,show ieq 3 0=false from rfl,show aR 1 3=true from rfl,show aR 2 3=true from rfl,show aR 3 3=false from rfl,jE,sT,sF,z0,z1,b0,b1] at hT
 cases e0:ieq (lN a0) 0<;>simp only[e0,eQ] at hT⊢
 ·rw[aY _ hT e0]
 cases e1:ax (-54000) (fH a0)<;>simp only[e1,eQ] at hT⊢
 ·rw[aY _ hT rfl]
 cases e2:ax (fH a0) 54000<;>simp only[e2,eQ] at hT⊢
 ·rw[aY _ hT rfl]
 cases e3:seq a1 [45] with
 |true=>
  simp only[e3,eQ] at hT⊢
  cases ec:ieq (iX a2) 0<;>simp only[ec,eQ] at hT⊢
  ·rw[aY _ hT ec]
  have c0:iX a2=0:=by rw[aO] at ec;exact ec
  cases en:ieq (nrW a3) 0<;>simp only[en,eQ] at hT⊢
  ·rw[aY _ hT en]
  cases ey:ax (iF a3) (-32767)<;>simp only[ey,eQ] at hT⊢
  rotate_left
  ·rw[aY _ hT rfl]
  cases ez:ax 32767 (iF a3)<;>simp only[ez,eQ] at hT⊢
  rotate_left
  ·rw[aY _ hT rfl]
  cases em:ieq (qj a4) 0<;>simp only[em,eQ] at hT⊢
  ·rw[aY _ hT em]
  cases ed:ieq (sU a5) 0<;>simp only[ed,eQ] at hT⊢
  ·rw[aY _ hT ed]
  cases ef:qm (rq a5) (iL a5) (ru a5) (ve a4)<;>simp only[ef,eQ] at hT⊢
  ·rw[aY _ hT rfl]
  have m0:qj a4=0:=by rw[aO] at em;exact em
  have n0:nrW a3=0:=by rw[aO] at en;exact en
  rw[gY,kY _ _ _ _ _ _ _ _ _ _ _ _ _ _ (by first|exact hT|(rw[hT];first|rfl|assumption))];simp only[ic,ig,iq,gP,iw,y5,sZ,y7,y8,y9,za,ze,rC,qy,jG,jH,jI,zf,Kj,F7,F6,en0,nS,sW,r3,r4,r5,hl,show ieq 3 0=false from rfl,show aR 1 3=true from rfl,show aR 2 3=true from rfl,show aR 3 3=false from rfl,jE,e0,e1,e2,e3,ec,c0,en,ey,ez,em,ed,ef,m0,n0,sT,sF,z0,z1,b0,b1]
 |false=>
 cases e4:F5 a1 with
 |true=>
  simp only[e3,e4,eQ] at hT⊢
  cases e5:ieq (lN a1) 0<;>simp only[e5,eQ] at hT⊢
  ·rw[aY _ hT e5]
  cases e6:ax (-10800) (fH a1)<;>simp only[e6,eQ] at hT⊢
  ·rw[aY _ hT rfl]
  cases e7:ax (fH a1) 10800<;>simp only[e7,eQ] at hT⊢
  ·rw[aY _ hT rfl]
  cases ec:ieq (iX a2) 0<;>simp only[ec,eQ] at hT⊢
  ·rw[aY _ hT ec]
  have c0:iX a2=0:=by rw[aO] at ec;exact ec
  cases en:ieq (nrW a3) 0<;>simp only[en,eQ] at hT⊢
  ·rw[aY _ hT en]
  cases ey:ax (iF a3) (-32767)<;>simp only[ey,eQ] at hT⊢
  rotate_left
  ·rw[aY _ hT rfl]
  cases ez:ax 32767 (iF a3)<;>simp only[ez,eQ] at hT⊢
  rotate_left
  ·rw[aY _ hT rfl]
  cases em:ieq (qj a4) 0<;>simp only[em,eQ] at hT⊢
  ·rw[aY _ hT em]
  cases ed:ieq (sU a5) 0<;>simp only[ed,eQ] at hT⊢
  ·rw[aY _ hT ed]
  cases ef:qm (rq a5) (iL a5) (ru a5) (ve a4)<;>simp only[ef,eQ] at hT⊢
  ·rw[aY _ hT rfl]
  have m0:qj a4=0:=by rw[aO] at em;exact em
  have n0:nrW a3=0:=by rw[aO] at en;exact en
  rw[gY,kY _ _ _ _ _ _ _ _ _ _ _ _ _ _ (by first|exact hT|(rw[hT];first|rfl|assumption))];simp only[ic,ig,iq,gP,iw,y5,sZ,y7,y8,y9,za,ze,rC,qy,jG,jH,jI,zf,Kj,F7,F6,en0,nS,sW,r3,r4,r5,hl,show ieq 3 0=false from rfl,show aR 1 3=true from rfl,show aR 2 3=true from rfl,show aR 3 3=false from rfl,jE,e0,e1,e2,e3,e4,e5,e6,e7,ec,c0,en,ey,ez,em,ed,ef,m0,n0,sT,sF,z0,z1,b0,b1]
 |false=>
 simp only[e3,e4,zy h1,eQ] at hT⊢
 cases e5:ieq (dK a1) 0<;>simp only[e5,eQ] at hT⊢
 ·rw[aY _ hT e5]
 have q0:dK a1=0:=by rw[aO] at e5;exact e5
 cases ec:ieq (iX a2) 0<;>simp only[ec,eQ] at hT⊢
 ·rw[aY _ hT ec]
 have c0:iX a2=0:=by rw[aO] at ec;exact ec
 cases en:ieq (nrW a3) 0<;>simp only[en,eQ] at hT⊢
 ·rw[aY _ hT en]
 cases ey:ax (iF a3) (-32767)<;>simp only[ey,eQ] at hT⊢
 rotate_left
 ·rw[aY _ hT rfl]
 cases ez:ax 32767 (iF a3)<;>simp only[ez,eQ] at hT⊢
 rotate_left
 ·rw[aY _ hT rfl]
 cases em:ieq (qj a4) 0<;>simp only[em,eQ] at hT⊢
 ·rw[aY _ hT em]
 cases ed:ieq (sU a5) 0<;>simp only[ed,eQ] at hT⊢
 ·rw[aY _ hT ed]
 cases ef:qm (rq a5) (iL a5) (ru a5) (ve a4)<;>simp only[ef,eQ] at hT⊢
 ·rw[aY _ hT rfl]
 have m0:qj a4=0:=by rw[aO] at em;exact em
 have n0:nrW a3=0:=by rw[aO] at en;exact en
 rw[gY,kY _ _ _ _ _ _ _ _ _ _ _ _ _ _ (by first|exact hT|(rw[hT];first|rfl|assumption))];simp only[ic,ig,iq,gP,iw,y5,sZ,y7,y8,y9,za,ze,rC,qy,jG,jH,jI,zf,Kj,F7,F6,en0,nS,sW,r3,r4,r5,hl,show ieq 3 0=false from rfl,show aR 1 3=true from rfl,show aR 2 3=true from rfl,show aR 3 3=false from rfl,jE,e0,e1,e2,e3,e4,e5,q0,ec,c0,en,ey,ez,em,ed,ef,m0,n0,sT,sF,z0,z1,b0,b1]
set_option maxHeartbeats 2000000 in
theorem aeT (a0 a1 a2 a3 a4 a5 a6:af) (h0:ax (aB a0) 900=true) (h1:ax (aB a1) 900=true) (h2:ax (aB a2) 900=true) (h3:ax (aB a3) 900=true) (h4:ax (aB a4) 900=true) (h5:ax (aB a5) 900=true) (h6:ax (aB a6) 900=true):aj eE 94 [.sl 9 [.str] none [.str a0,.str a1,.str a2,.str a3,.str a4,.str a5,.str a6]] (Np [.str a0,.str a1,.str a2,.str a3,.str a4,.str a5,.str a6]):=by
 refine au iZ Iq 9 10 ?_
 (rw[K4];(conv=>zeta))
 have g1:kT [.str a0,.str a1,.str a2,.str a3,.str a4,.str a5,.str a6]=sel (ieq (Kk a0) 0) (sel (ieq (Qk a1) 0) (sel (ieq (iX a2) 0) (zf [.str a3,.str a4,.str a5,.str a6]) (iX a2)) (Qk a1)) (Kk a0):=rfl;have gY:Np [.str a0,.str a1,.str a2,.str a3,.str a4,.str a5,.str a6]=erW [.str a0,.str a1,.str a2,.str a3,.str a4,.str a5,.str a6] (fH a0) (ZD a1) (Ar a1) (Xa a1) a2 (sW [.str a3,.str a4,.str a5,.str a6]) (y5 [.str a3,.str a4,.str a5,.str a6]) (sZ [.str a3,.str a4,.str a5,.str a6]) (y7 [.str a3,.str a4,.str a5,.str a6]) (y8 [.str a3,.str a4,.str a5,.str a6]) (y9 [.str a3,.str a4,.str a5,.str a6]) (za [.str a3,.str a4,.str a5,.str a6]) (ze [.str a3,.str a4,.str a5,.str a6]):=rfl;have z1:ieq 1 0=false:=rfl;have z0:ieq 0 0=true:=rfl;have b0:aL true=false:=rfl;have b1:aL false=true:=rfl;have r3:rg [.str a3,.str a4,.str a5,.str a6] 0=a3:=rfl;have r4:rg [.str a3,.str a4,.str a5,.str a6] 1=a4:=rfl;have r5:rg [.str a3,.str a4,.str a5,.str a6] 2=a5:=rfl;have r6:rg [.str a3,.str a4,.str a5,.str a6] 3=a6:=rfl;have hl:ay [.str a3,.str a4,.str a5,.str a6]=4:=rfl;simp only[h0,h1,h2,h3,h4,h5,h6,Ip,sT];have hT:=g1;simp only[Kk,tY,gP,zf,Kj,F7,F6,en0,nS,sW,r3,r4,r5,r6,hl,show ieq 4 0=false from rfl,show aR 1 4=true from rfl,show aR 2 4=true from rfl,show aR 3 4=true from rfl,jE,sT,sF,z0,z1,b0,b1] at hT
 cases e0:ieq (lN a0) 0<;>simp only[e0,eQ] at hT⊢
 ·rw[aY _ hT e0]
 cases e1:ax (-54000) (fH a0)<;>simp only[e1,eQ] at hT⊢
 ·rw[aY _ hT rfl]
 cases e2:ax (fH a0) 54000<;>simp only[e2,eQ] at hT⊢
 ·rw[aY _ hT rfl]
 cases e3:seq a1 [45] with
 |true=>
  simp only[e3,eQ] at hT⊢
  cases ec:ieq (iX a2) 0<;>simp only[ec,eQ] at hT⊢
  ·rw[aY _ hT ec]
  have c0:iX a2=0:=by rw[aO] at ec;exact ec
  cases en:ieq (nrW a3) 0<;>simp only[en,eQ] at hT⊢
  ·rw[aY _ hT en]
  cases ey:ax (iF a3) (-32767)<;>simp only[ey,eQ] at hT⊢
  rotate_left
  ·rw[aY _ hT rfl]
  cases ez:ax 32767 (iF a3)<;>simp only[ez,eQ] at hT⊢
  rotate_left
  ·rw[aY _ hT rfl]
  cases em:ieq (qj a4) 0<;>simp only[em,eQ] at hT⊢
  ·rw[aY _ hT em]
  cases ed:ieq (sU a5) 0<;>simp only[ed,eQ] at hT⊢
  ·rw[aY _ hT ed]
  cases ef:qm (rq a5) (iL a5) (ru a5) (ve a4)<;>simp only[ef,eQ] at hT⊢
  ·rw[aY _ hT rfl]
  cases ek:ieq (yZ a6) 0<;>simp only[ek,eQ] at hT⊢
  ·rw[aY _ hT ek]
  have k0:yZ a6=0:=by rw[aO] at ek;exact ek
  have m0:qj a4=0:=by rw[aO] at em;exact em
  have n0:nrW a3=0:=by rw[aO] at en;exact en
  rw[gY,kY _ _ _ _ _ _ _ _ _ _ _ _ _ _ (by first|exact hT|(rw[hT];first|rfl|assumption))];simp only[ic,ig,iq,gP,iw,y5,sZ,y7,y8,y9,za,ze,rC,qy,jG,jH,jI,zf,Kj,F7,F6,en0,nS,sW,r3,r4,r5,r6,hl,show ieq 4 0=false from rfl,show aR 1 4=true from rfl,show aR 2 4=true from rfl,show aR 3 4=true from rfl,jE,e0,e1,e2,e3,ec,c0,en,ey,ez,em,ed,ef,ek,k0,m0,n0,sT,sF,z0,z1,b0,b1]
 |false=>
 cases e4:F5 a1 with
 |true=>
  simp only[e3,e4,eQ] at hT⊢
  cases e5:ieq (lN a1) 0<;>simp only[e5,eQ] at hT⊢
  ·rw[aY _ hT e5]
  cases e6:ax (-10800) (fH a1)<;>simp only[e6,eQ] at hT⊢
  ·rw[aY _ hT rfl]
  cases e7:ax (fH a1) 10800<;>simp only[e7,eQ] at hT⊢
  ·rw[aY _ hT rfl]
  cases ec:ieq (iX a2) 0<;>simp only[ec,eQ] at hT⊢
  ·rw[aY _ hT ec]
  have c0:iX a2=0:=by rw[aO] at ec;exact ec
  cases en:ieq (nrW a3) 0<;>simp only[en,eQ] at hT⊢
  ·rw[aY _ hT en]
  cases ey:ax (iF a3) (-32767)<;>simp only[ey,eQ] at hT⊢
  rotate_left
  ·rw[aY _ hT rfl]
  cases ez:ax 32767 (iF a3)<;>simp only[ez,eQ] at hT⊢
  rotate_left
  ·rw[aY _ hT rfl]
  cases em:ieq (qj a4) 0<;>simp only[em,eQ] at hT⊢
  ·rw[aY _ hT em]
  cases ed:ieq (sU a5) 0<;>simp only[ed,eQ] at hT⊢
  ·rw[aY _ hT ed]
  cases ef:qm (rq a5) (iL a5) (ru a5) (ve a4)<;>simp only[ef,eQ] at hT⊢
  ·rw[aY _ hT rfl]
  cases ek:ieq (yZ a6) 0<;>simp only[ek,eQ] at hT⊢
  ·rw[aY _ hT ek]
  have k0:yZ a6=0:=by rw[aO] at ek;exact ek
  have m0:qj a4=0:=by rw[aO] at em;exact em
  have n0:nrW a3=0:=by rw[aO] at en;exact en
  rw[gY,kY _ _ _ _ _ _ _ _ _ _ _ _ _ _ (by first|exact hT|(rw[hT];first|rfl|assumption))];simp only[ic,ig,iq,gP,iw,y5,sZ,y7,y8,y9,za,ze,rC,qy,jG,jH,jI,zf,Kj,F7,F6,en0,nS,sW,r3,r4,r5,r6,hl,show ieq 4 0=false from rfl,show aR 1 4=true from rfl,show aR 2 4=true from rfl,show aR 3 4=true from rfl,jE,e0,e1,e2,e3,e4,e5,e6,e7,ec,c0,en,ey,ez,em,ed,ef,ek,k0,m0,n0,sT,sF,z0,z1,b0,b1]
 |false=>
 simp only[e3,e4,zy h1,eQ] at hT⊢
 cases e5:ieq (dK a1) 0<;>simp only[e5,eQ] at hT⊢
 ·rw[aY _ hT e5]
 have q0:dK a1=0:=by rw[aO] at e5;exact e5
 cases ec:ieq (iX a2) 0<;>simp only[ec,eQ] at hT⊢
 ·rw[aY _ hT ec]
 have c0:iX a2=0:=by rw[aO] at ec;exact ec
 cases en:ieq (nrW a3) 0<;>simp only[en,eQ] at hT⊢
 ·rw[aY _ hT en]
 cases ey:ax (iF a3) (-32767)<;>simp only[ey,eQ] at hT⊢
 rotate_left
 ·rw[aY _ hT rfl]
 cases ez:ax 32767 (iF a3)<;>simp only[ez,eQ] at hT⊢
 rotate_left
 ·rw[aY _ hT rfl]
 cases em:ieq (qj a4) 0<;>simp only[em,eQ] at hT⊢
 ·rw[aY _ hT em]
 cases ed:ieq (sU a5) 0<;>simp only[ed,eQ] at hT⊢
 ·rw[aY _ hT ed]
 cases ef:qm (rq a5) (iL a5) (ru a5) (ve a4)<;>simp only[ef,eQ] at hT⊢
 ·rw[aY _ hT rfl]
 cases ek:ieq (yZ a6) 0<;>simp only[ek,eQ] at hT⊢
 ·rw[aY _ hT ek]
 have k0:yZ a6=0:=by rw[aO] at ek;exact ek
 have m0:qj a4=0:=by rw[aO] at em;exact em
 have n0:nrW a3=0:=by rw[aO] at en;exact en
 rw[gY,kY _ _ _ _ _ _ _ _ _ _ _ _ _ _ (by first|exact hT|(rw[hT];first|rfl|assumption))];simp only[ic,ig,iq,gP,iw,y5,sZ,y7,y8,y9,za,ze,rC,qy,jG,jH,jI,zf,Kj,F7,F6,en0,nS,sW,r3,r4,r5,r6,hl,show ieq 4 0=false from rfl,show aR 1 4=true from rfl,show aR 2 4=true from rfl,show aR 3 4=true from rfl,jE,e0,e1,e2,e3,e4,e5,q0,ec,c0,en,ey,ez,em,ed,ef,ek,k0,m0,n0,sT,sF,z0,z1,b0,b1]
theorem WB (xs:ah) (h:gL xs=true):aj eE 94 [.sl 9 [.str] none xs] (Np xs):=by
 by_cases b:ay xs<3
 ·refine au iZ eSn_ok 5 10 ?_
  rw[MS,av (by first|exact bu b|(rw[bY,aA];omega)),aY xs (e:=5) (by unfold kT;rw[bu b];rfl) rfl]
 by_cases i:7<ay xs
 ·refine au iZ eSn_ok 5 10 ?_
  rw[MS,aI (by first|exact bB (by omega)|(rw[bn (show 3≤ay xs by omega)];rfl)),av (by first|exact bu i|(rw[bY,aA];omega)),aY xs (e:=6) (by unfold kT;rw[bB (by omega),bu i];rfl) rfl]
 obtain⟨l,rfl,a⟩:=xJ xs h;rw[aC,kS] at b i;match l,b,i,a with
 |[],b,_,_=>exact absurd b (by simp)
 |[_],b,_,_=>exact absurd b (by simp)
 |[_,_],b,_,_=>exact absurd b (by simp)
 |[c,d,f],_,_,a=>exact aeP c d f (a _ (by simp)) (a _ (by simp)) (a _ (by simp))
 |[c,d,f,g],_,_,a=>exact aeQ c d f g (a _ (by simp)) (a _ (by simp)) (a _ (by simp)) (a _ (by simp))
 |[c,d,f,g,j],_,_,a=>exact aeR c d f g j (a _ (by simp)) (a _ (by simp)) (a _ (by simp)) (a _ (by simp)) (a _ (by simp))
 |[c,d,f,g,j,k],_,_,a=>exact aeS c d f g j k (a _ (by simp)) (a _ (by simp)) (a _ (by simp)) (a _ (by simp)) (a _ (by simp)) (a _ (by simp))
 |[c,d,f,g,j,k,m],_,_,a=>exact aeT c d f g j k m (a _ (by simp)) (a _ (by simp)) (a _ (by simp)) (a _ (by simp)) (a _ (by simp)) (a _ (by simp)) (a _ (by simp))
 |_::_::_::_::_::_::_::_::_,_,i,_=>exact absurd i (by simp;omega)
def enR (h:Bool) (y m ok d a c b:Int):Bool:=sel h (aR (-32767) y&&(aR y 32767&&(qm ok d a m&&dO c b))) (ak (ieq y 0) (ak (ieq m 0) (ak (ak (ieq ok 0) (ak (ieq d 0) (ieq a 0))) (ak (ieq c 0) (ieq b 0)))))
def G8 (o k v:Int) (r q:af) (h:Bool) (y m ok d a c b:Int):Bool:=ax (-54000) o&&(ax o 54000&&(ieq (iX q) 0&&(enR h y m ok d a c b&&sel (ieq k 0) (ieq v 0&&seq r []) (sel (ieq k 1) (ax (-10800) v&&(ax v 10800&&seq r [])) (sel (ieq k 2) (ieq v 0&&ieq (dK r) 0) false)))))
noncomputable def eRightS:aD:=fun a=>match a with|[.agg [.int .i64 o,.int .i64 k,.int .i64 v,.str r,.str q,.bool h,.int .i64 y,.int .i64 m,.int .i64 ok,.int .i64 ow,.int .i64 od,.int .i64 c,.int .i64 b]]=>some (ak (ax (aB r) 900) (ax (aB q) 900),.bool (G8 o k v r q h y m ok ow od c b))|_=>none
theorem wM {E:Env} {f:Nat} {args:ah} {e:Nat} {sh:List Kd} {L:Nat} {xs:ah} {y:V} (h:aj E f args (.tup [.sl e sh (some L) xs,y])):aj E f args (.tup [.sl e sh none xs,y]):=by
 intro G w vs g i m;refine(h G w vs g i m).mono ?_;rintro t w' ⟨v,G',rfl,q,a,rfl,c,s⟩;refine⟨_,G',rfl,q,a,rfl,?_,?_⟩
 ·match a,c with
  |[],c=>exact absurd c.1 (by simp)
  |u::us,c=>
   refine .cons ?_ c.tail;have j:=c.head;show aV G' _ _;refine nI ?_;rcases j.2 with⟨o,p⟩|⟨b,cap,k,l,r,_,_,d,_,_,g,n,hE⟩
   ·exact .inl ⟨o,p⟩
   exact .inr ⟨b,cap,l,r,d,g,n,hE⟩
 simp only[abG,List.countP_nil,tH] at s⊢;split<;>simp
theorem Ch {E:Env} {S:List (Nat×aD)} {f:Nat} {args:ah} {e:Nat} {sh:List Kd} {L:Nat} {xs:ah} {y:V} (hE:uQ E) (a:aZ E S) (fuel d:Nat)
  (h:bE E (bC E S fuel d) fuel f args some=some (.tup [.sl e sh (some L) xs,y])∨bE E (bC E S fuel d) fuel f args some=some (.tup [.sl e sh none xs,y])):aj E f args (.tup [.sl e sh none xs,y]):=
 h.elim (fun h=>wM (au hE a fuel d h)) (fun h=>au hE a fuel d h)
def UC (k v:Int) (r:af):af:=sel (ieq k 0) [45] (sel (ieq k 1) (Aj v) r)
def Lc (h:Bool) (y m ok d a c b:Int):ah:=sel h (sel (ak (ieq c 0) (ieq b 0)) (sel (ak (ieq ok 0) (ak (ieq d 0) (ieq a 1))) (sel (ieq m 1) [.str (text y)] [.str (text y),.str (ql m)]) [.str (text y),.str (ql m),.str (fI ok d a)]) [.str (text y),.str (ql m),.str (fI ok d a),.str (Ai c b)]) []
def Ql (o k v:Int) (r q:af) (h:Bool) (y m ok d a c b:Int):ah:=.str (Aj o)::.str (UC k v r)::.str q::Lc h y m ok d a c b
def efV (o k v:Int) (r q:af) (h:Bool) (y m ok d a c b:Int):ah:=sel (G8 o k v r q h y m ok d a c b) (Ql o k v r q h y m ok d a c b) []
def efE (o k v:Int) (r q:af) (h:Bool) (y m ok d a c b:Int):Int:=sel (G8 o k v r q h y m ok d a c b) 0 4
theorem erR_k (o k v:Int) (r q:af) (h:Bool) (y m ok g i c b:Int) (a:G8 o k v r q h y m ok g i c b=true):k=0∨k=1∨k=2:=by
 unfold G8 at a;simp only[bF] at a;obtain⟨_,_,_,_,h⟩:=a;by_cases e:k=0
 ·exact .inl e
 by_cases f:k=1
 ·exact .inr (.inl f)
 by_cases d:k=2
 ·exact .inr (.inr d)
 rw[bH e,bH f,bH d] at h
 cases h
theorem ftB_mm {k w d m:Int} (h:qm k w d m=true):1≤m∧m≤12:=by unfold qm at h;rw[bF,lK] at h;exact⟨h.2.1,h.2.2.1⟩
theorem le_dec {a b:Int} (h:decide (a≤b)=true):a≤b:=FY h
theorem num_head {c:UInt8} {t:af} (h:isDigit c=true):F5 (c::t)=true:=by
 unfold isDigit at h
 cases t with
 |nil=>exact h
 |cons d t=>show((decide (48≤c.toNat)&&decide (c.toNat≤57))||_)=true;rw[h];rfl
theorem num_neg {d:UInt8} {t:af} (h:isDigit d=true):F5 (45::d::t)=true:=by unfold isDigit at h;show((decide (48≤(45:UInt8).toNat)&&decide ((45:UInt8).toNat≤57))||((45:UInt8)==45&&(decide (48≤d.toNat)&&decide (d.toNat≤57))))=true;rw[h];rfl
theorem MU (k:Nat) (h:k≤604799): ∃c t,qw k=c::t∧isDigit c=true:=by obtain⟨c,t,e,_⟩:=I9 k h;have a:=(xk k h).1;unfold aQ.ok at a;rw[bF,bF] at a;have:=List.all_eq_true.1 a.2 c (by rw[e];exact .head _);exact⟨c,t++([58]++aQ.two (k/60%60))++Lu k,by rw[xh,e];rfl,this⟩
theorem am_num (v:Int) (j: -604799≤v) (i:v≤604799):F5 (Aj v)=true∧seq (Aj v) [45]=false:=by
 have a: ∀s:af,s≠[45]→seq s [45]=false:=fun s f=>by
  cases e:seq s [45] with
  |false=>rfl
  |true=>rw[dx] at e;exact absurd e f
 unfold Aj;by_cases d:v=0
 ·subst d;exact⟨rfl,rfl⟩
 by_cases g:0<v
 ·obtain⟨k,rfl⟩: ∃k:Nat,v=(k:Int):=⟨v.toNat,by omega⟩
  obtain⟨c,t,e,b⟩:=MU k (by omega);rw[Bh k (by omega) (by omega)];show F5 (qw k)=true∧seq (qw k) [45]=false;rw[e];refine⟨num_head b,a _ fun h=>?_⟩;simp only[Qg] at h;rw[h.1] at b;exact absurd b (by decide)
 obtain⟨k,rfl⟩: ∃k:Nat,v= -(k:Int):=⟨v.natAbs,by omega⟩
 obtain⟨c,t,e,b⟩:=MU k (by omega);rw[O1 k (by omega) (by omega)];show F5 ([45]++qw k)=true∧seq ([45]++qw k) [45]=false;rw[e];exact⟨num_neg b,a _ fun h=>by simp at h⟩
theorem nm_num (r:af) (h:dK r=0):F5 r=false∧seq r [45]=false:=by
 unfold dK at h;by_cases g:64<r.length
 ·rw[if_pos g] at h;cases h
 rw[if_neg g] at h;by_cases b:xZ 0 r=true∧r≠[]
 ·obtain⟨k,j⟩:=b
  cases r with
  |nil=>exact absurd rfl j
  |cons c t=>
   have l:Kq 0 c=true:=by have:(Kq 0 c&&xZ 1 t)=true:=k;rw[bF] at this;exact this.1
   have i: ∀c:UInt8,Kq 0 c=true→(decide (48≤c.toNat)&&decide (c.toNat≤57))=false∧(c==45)=false:=by intro c;obtain⟨⟨m⟩⟩:=c;revert m;decide+kernel
   obtain⟨f,a⟩:=i c l;constructor
   ·cases t with
    |nil=>exact f
    |cons d t=>show((decide (48≤c.toNat)&&decide (c.toNat≤57))||(c==45&&_))=false;rw[f,a];rfl
   cases e:seq (c::t) [45] with
   |false=>rfl
   |true=>rw[dx] at e;simp only[Qg] at e;rw[e.1] at a;cases a
 rw[if_neg b] at h;cases h
theorem aeU (y:Int) (h:Fits y):iF (text y)=y∧nrW (text y)=0:=by have a:=Mv y h;exact⟨by unfold iF;rw[a],by unfold nrW;rw[a]⟩
theorem rl_back (k v:Int) (r:af) (h:(sel (ieq k 0) (ieq v 0&&seq r []) (sel (ieq k 1) (ax (-10800) v&&(ax v 10800&&seq r [])) (sel (ieq k 2) (ieq v 0&&ieq (dK r) 0) false)))=true):
  ZD (UC k v r)=k∧Ar (UC k v r)=v∧Xa (UC k v r)=r∧Qk (UC k v r)=0∧(UC k v r).length≤64:=by
 rw[ic,ig,iq,tY];unfold UC;by_cases d:k=0
 ·subst d
  rw[show ieq (0:Int) 0=true from rfl] at h⊢;rw[sT,bF,aO,dx] at h;obtain⟨rfl,rfl⟩:=h;exact⟨rfl,rfl,rfl,rfl,by decide⟩
 rw[bH d] at h⊢;by_cases e:k=1
 ·subst e
  rw[show ieq (1:Int) 1=true from rfl] at h⊢;simp only[sT,sF,bF,aA,dx] at h;obtain⟨j,f,rfl⟩:=h;obtain⟨n1,b⟩:=am_num v (by omega) (by omega);obtain⟨g,i,l⟩:=xq v (by omega) (by omega);simp only[sT,sF,n1,b,gP,iw,g,i,bn j,bn f,show ieq (0:Int) 0=true from rfl];exact⟨trivial,trivial,trivial,trivial,by omega⟩
 rw[bH e] at h⊢;by_cases c:k=2
 ·subst c
  simp only[show ieq (2:Int) 2=true from rfl,sT,sF,bF,aO] at h;obtain⟨rfl,a⟩:=h;obtain⟨n1,b⟩:=nm_num r a;simp only[sT,sF,n1,b,a];exact⟨trivial,trivial,trivial,trivial,tO r a⟩
 rw[bH c] at h;cases h
theorem O9 (q:af) (h:iX q=0):q.length≤16:=by
 unfold iX at h;by_cases a:16<q.length
 ·rw[if_pos a] at h;cases h
 omega
theorem Gj (y m ok f e c b:Int):(enR true y m ok f e c b=true)=((-32767<y∧y<32767)∧(qm ok f e m=true∧dO c b=true)):=by
 unfold enR;rw[sT,bF,bF,bF,bq,bq];apply propext;constructor
 ·rintro⟨a,b,c,d⟩;exact⟨⟨a,b⟩,c,d⟩
 rintro⟨⟨a,b⟩,c,d⟩;exact⟨a,b,c,d⟩
theorem en_back (h:Bool) (y m ok a d c b:Int) (i:enR h y m ok a d c b=true):
  zf (Lc h y m ok a d c b)=0∧sW (Lc h y m ok a d c b)=h∧y5 (Lc h y m ok a d c b)=y∧sZ (Lc h y m ok a d c b)=m∧y7 (Lc h y m ok a d c b)=ok∧y8 (Lc h y m ok a d c b)=a∧y9 (Lc h y m ok a d c b)=d∧za (Lc h y m ok a d c b)=c∧ze (Lc h y m ok a d c b)=b:=by
 cases h with
 |false=>unfold enR at i;simp only[sF,aM,aO] at i;obtain⟨rfl,rfl,⟨rfl,rfl,rfl⟩,rfl,rfl⟩:=i;exact⟨rfl,rfl,rfl,rfl,rfl,rfl,rfl,rfl,rfl⟩
 |true=>
  rw[Gj] at i;obtain⟨⟨K,M⟩,e,H⟩:=i;obtain⟨t1,t2⟩:=aeU y (by unfold Fits;omega);have B:=ftB_mm e;obtain⟨m1,s,J⟩:=Bf m B.1 B.2;have t:Nn ok a d=true:=by unfold qm at e;rw[bF] at e;exact e.1
  have n:=Yg ok a d t;have j:rq (fI ok a d)=ok:=by unfold rq;rw[n]
  have k:iL (fI ok a d)=a:=by unfold iL;rw[n]
  have r:ru (fI ok a d)=d:=by unfold ru;rw[n]
  have p:sU (fI ok a d)=0:=by unfold sU;rw[n]
  obtain⟨F,G,I,L⟩:=Bg c b H;have o:ax y (-32767)=false:=nA (by omega);have l:ax 32767 y=false:=nA (by omega);have q:ieq (0:Int) 0=true:=rfl;have x:odE (fI ok a d) m=0:=by rw[jE,p,j,k,r,e];rfl
  have w:odK (fI ok a d) m=ok:=by rw[jG,p,j,k,r,e];rfl
  have z:odW (fI ok a d) m=a:=by rw[jH,p,j,k,r,e];rfl
  have A:odD (fI ok a d) m=d:=by rw[jI,p,j,k,r,e];rfl
  unfold Lc;rw[sT]
  cases C:ak (ieq c 0) (ieq b 0) with
  |false=>have f:ay [V.str (text y),V.str (ql m),V.str (fI ok a d),V.str (Ai c b)]=4:=rfl;have r0:rg [V.str (text y),V.str (ql m),V.str (fI ok a d),V.str (Ai c b)] 0=text y:=rfl;have g:rg [V.str (text y),V.str (ql m),V.str (fI ok a d),V.str (Ai c b)] 1=ql m:=rfl;have u:rg [V.str (text y),V.str (ql m),V.str (fI ok a d),V.str (Ai c b)] 2=fI ok a d:=rfl;have E:rg [V.str (text y),V.str (ql m),V.str (fI ok a d),V.str (Ai c b)] 3=Ai c b:=rfl;simp only[sF,y5,sZ,y7,y8,y9,za,ze,zf,rC,qy,Kj,F7,F6,en0,nS,sW,f,r0,g,u,E,t1,t2,o,l,q,m1,s,x,w,z,A,F,G,I,sT,show ieq (4:Int) 0=false from rfl,show aL false=true from rfl,show aR 1 4=true from rfl,show aR 2 4=true from rfl,show aR 3 4=true from rfl];exact⟨trivial,trivial,trivial,trivial,trivial,trivial,trivial,trivial,trivial⟩
  |true=>
   rw[aM,aO,aO] at C;obtain⟨rfl,rfl⟩:=C
   cases v:ak (ieq ok 0) (ak (ieq a 0) (ieq d 1)) with
   |false=>have f:ay [V.str (text y),V.str (ql m),V.str (fI ok a d)]=3:=rfl;have r0:rg [V.str (text y),V.str (ql m),V.str (fI ok a d)] 0=text y:=rfl;have g:rg [V.str (text y),V.str (ql m),V.str (fI ok a d)] 1=ql m:=rfl;have u:rg [V.str (text y),V.str (ql m),V.str (fI ok a d)] 2=fI ok a d:=rfl;simp only[sF,y5,sZ,y7,y8,y9,za,ze,zf,rC,qy,Kj,F7,F6,en0,nS,sW,f,r0,g,u,t1,t2,o,l,q,m1,s,x,w,z,A,sT,show ieq (3:Int) 0=false from rfl,show aL false=true from rfl,show aR 1 3=true from rfl,show aR 2 3=true from rfl,show aR 3 3=false from rfl];exact⟨trivial,trivial,trivial,trivial,trivial,trivial,trivial,trivial,trivial⟩
   |true=>
    rw[aM,aM,aO,aO,aO] at v;obtain⟨rfl,rfl,rfl⟩:=v
    cases D:ieq m 1 with
    |false=>have f:ay [V.str (text y),V.str (ql m)]=2:=rfl;have r0:rg [V.str (text y),V.str (ql m)] 0=text y:=rfl;have g:rg [V.str (text y),V.str (ql m)] 1=ql m:=rfl;simp only[sF,y5,sZ,y7,y8,y9,za,ze,zf,rC,qy,Kj,F7,F6,en0,nS,sW,f,r0,g,t1,t2,o,l,q,m1,s,sT,show ieq (2:Int) 0=false from rfl,show aL false=true from rfl,show aR 1 2=true from rfl,show aR 2 2=false from rfl,show aR 3 2=false from rfl];exact⟨trivial,trivial,trivial,trivial,trivial,trivial,trivial,trivial,trivial⟩
    |true=>rw[aO] at D;subst D;have f:ay [V.str (text y)]=1:=rfl;have r0:rg [V.str (text y)] 0=text y:=rfl;simp only[sF,y5,sZ,y7,y8,y9,za,ze,zf,rC,qy,Kj,F7,F6,en0,nS,sW,f,r0,t1,t2,o,l,q,sT,show ieq (1:Int) 0=false from rfl,show aL false=true from rfl,show aR 1 1=false from rfl,show aR 2 1=false from rfl,show aR 3 1=false from rfl];exact⟨trivial,trivial,trivial,trivial,trivial,trivial,trivial,trivial,trivial⟩
theorem Pb (o k v:Int) (r q:af) (h:Bool) (y m ok f e c b:Int):(G8 o k v r q h y m ok f e c b=true)=((-54000≤o∧o≤54000)∧(iX q=0∧(enR h y m ok f e c b=true∧(sel (ieq k 0) (ieq v 0&&seq r []) (sel (ieq k 1) (ax (-10800) v&&(ax v 10800&&seq r [])) (sel (ieq k 2) (ieq v 0&&ieq (dK r) 0) false)))=true))):=by
 unfold G8;rw[bF,bF,bF,bF,aA,aA,aO];apply propext;constructor
 ·rintro⟨a,b,c,d⟩;exact⟨⟨a,b⟩,c,d⟩
 rintro⟨⟨a,b⟩,c,d⟩;exact⟨a,b,c,d⟩
theorem efT_len (h:Bool) (y m ok d a c b:Int):(Lc h y m ok d a c b).length≤4:=by
 unfold Lc
 cases h<;>cases ak (ieq c 0) (ieq b 0)<;>cases ak (ieq ok 0) (ak (ieq d 0) (ieq a 1))<;>cases ieq m 1<;>simp[sel]
theorem lsub_3 (a b c:V) (t:ah):fA (a::b::c::t) 3 (ay (a::b::c::t))=t:=by unfold fA ay;show List.take ((((a::b::c::t).length:Nat):Int).toNat-3) t=t;rw[Qe];simp;omega
theorem erE_3 (a b c:af) (t:ah) (d:t.length≤4):kT (.str a::.str b::.str c::t)=sel (ieq (Kk a) 0) (sel (ieq (Qk b) 0) (sel (ieq (iX c) 0) (zf t) (iX c)) (Qk b)) (Kk a):=by unfold kT;rw[lsub_3,bB (by rw[aC];simp;omega),bB (by rw[aC];simp;omega)];rfl
theorem erV_3 (a b c:af) (t:ah) (h:kT (.str a::.str b::.str c::t)=0):Np (.str a::.str b::.str c::t)=.tup [.agg [.int .i64 (fH a),.int .i64 (ZD b),.int .i64 (Ar b),.str (Xa b),.str c,.bool (sW t),.int .i64 (y5 t),.int .i64 (sZ t),.int .i64 (y7 t),.int .i64 (y8 t),.int .i64 (y9 t),.int .i64 (za t),.int .i64 (ze t)],.int .i64 0]:=by unfold Np T7 Xb T8 UA UB FF T9 Ua Xc Xd Ay Az AA;rw[h,lsub_3];rfl
theorem allS_efT (h:Bool) (y m ok a d c b:Int) (f:enR h y m ok a d c b=true):gL (Lc h y m ok a d c b)=true:=by
 cases h with
 |false=>rfl
 |true=>
  rw[Gj] at f;obtain⟨⟨p,s⟩,g,j⟩:=f;have e:=ftB_mm g;have n1:=(vX y (by unfold Fits;omega)).1;have r:=(Bf m e.1 e.2).2.2;have o:=BB ok a d;have q:=(Bg c b j).2.2.2;have k:=kF (show(text y).length≤900 by omega);have n:=kF (show(ql m).length≤900 by omega);have l:=kF (show(fI ok a d).length≤900 by omega);have i:=kF (show(Ai c b).length≤900 by omega);unfold Lc gL
  cases ak (ieq c 0) (ieq b 0)<;>cases ak (ieq ok 0) (ak (ieq a 0) (ieq d 1))<;>cases ieq m 1<;>
   simp only[sT,sF,K8,List.all_nil,k,n,l,i]<;>rfl
theorem er_back (o k v:Int) (r q:af) (h:Bool) (y m ok a d c b:Int) (g:G8 o k v r q h y m ok a d c b=true):
  gL (Ql o k v r q h y m ok a d c b)=true∧Np (Ql o k v r q h y m ok a d c b)=.tup [.agg [.int .i64 o,.int .i64 k,.int .i64 v,.str r,.str q,.bool h,.int .i64 y,.int .i64 m,.int .i64 ok,.int .i64 a,.int .i64 d,.int .i64 c,.int .i64 b],.int .i64 0]:=by
 rw[Pb] at g;obtain⟨⟨z,w⟩,e,hE,t⟩:=g;obtain⟨f,F,J⟩:=xq o (by omega) (by omega);obtain⟨i,C,p,H,K⟩:=rl_back k v r t;obtain⟨j,D,x,E,G,l,s,n,A⟩:=en_back h y m ok a d c b hE;have I:=O9 q e;constructor
 ·unfold Ql gL
  rw[K8,K8,K8,kF (show(Aj o).length≤900 by omega),kF (show(UC k v r).length≤900 by omega),kF (show q.length≤900 by omega)];exact allS_efT h y m ok a d c b hE
 unfold Ql;have u:Kk (Aj o)=0:=by unfold Kk;rw[f,F,bn z,bn w];rfl
 have B:kT (.str (Aj o)::.str (UC k v r)::.str q::Lc h y m ok a d c b)=0:=by rw[erE_3 _ _ _ _ (efT_len h y m ok a d c b),u,H,e,j];rfl
 rw[erV_3 _ _ _ _ B,f,i,C,p,D,x,E,G,l,s,n,A]
theorem mo_rng (s:af) (h:qj s=0):1≤ve s∧ve s≤12:=by have a:oU s Up=0:=h;have:=BD s Up (by decide) a;have e:(Up.length:Int)=12:=rfl;unfold ve;rw[if_pos a];omega
theorem ft_first (m:Int) (a:1≤m) (b:m≤12):qm 0 0 1 m=true:=by
 obtain rfl|rfl|rfl|rfl|rfl|rfl|rfl|rfl|rfl|rfl|rfl|rfl:m=1∨m=2∨m=3∨m=4∨m=5∨m=6∨m=7∨m=8∨m=9∨m=10∨m=11∨m=12:=by omega
 all_goals decide+kernel
theorem od_ok (s:af) (m:Int) (h:odE s m=0):qm (odK s m) (odW s m) (odD s m) m=true:=by
 rw[jE] at h;rw[jG,jH,jI]
 cases a:ieq (sU s) 0 with
 |false=>rw[a] at h;rw[show sU s=0 from h] at a;cases a
 |true=>
  rw[a] at h
  cases b:qm (rq s) (iL s) (ru s) m with
  |false=>rw[b] at h;cases h
  |true=>exact b
theorem Er {a c:Int} (h:sel (ieq a 0) c a=0):a=0∧c=0:=by
 by_cases b:a=0
 ·rw[bA b] at h;exact⟨b,h⟩
 rw[bH b] at h;exact absurd h b
theorem en_right (ys:ah) (h:zf ys=0):enR (sW ys) (y5 ys) (sZ ys) (y7 ys) (y8 ys) (y9 ys) (za ys) (ze ys)=true∧(Lc (sW ys) (y5 ys) (sZ ys) (y7 ys) (y8 ys) (y9 ys) (za ys) (ze ys)).length≤ys.length∧-32767≤y5 ys∧y5 ys≤32767∧0≤sZ ys∧sZ ys≤12:=by
 cases b:sW ys with
 |false=>unfold y5 sZ y7 y8 y9 za ze;rw[b];exact⟨rfl,Ko _,le_dec rfl,le_dec rfl,le_dec rfl,le_dec rfl⟩
 |true=>
  unfold zf at h;rw[b,sT] at h;unfold Kj at h;obtain⟨i,B⟩:=Er h;have f:=i;unfold F7 at i;obtain⟨m,w⟩:=Er i;have d:=m;unfold F6 at m;obtain⟨k,y⟩:=Er m;have r:=k;unfold en0 at k;obtain⟨H,g⟩:=Er k;have G: ¬iF (rg ys 0)≤ -32767:=fun o=>by rw[bn o] at g;cases g
  have I: ¬32767≤iF (rg ys 0):=fun o=>by rw[nA (by omega),bn o] at g;cases g
  have z: ∀{a:Int},a=0→ieq a 0=true:=fun h=>bA h
  have n:y5 ys=iF (rg ys 0):=by unfold y5;rw[b];rfl
  have A:sZ ys=sel (aR 1 (ay ys)) (ve (rg ys 1)) 1:=by unfold sZ nS;rw[b,z r];rfl
  have c:nS ys=sZ ys:=by unfold sZ;rw[b];rfl
  have x:y7 ys=sel (aR 2 (ay ys)) (odK (rg ys 2) (sZ ys)) 0:=by unfold y7 qy;rw[b,z d,c];rfl
  have eW:y8 ys=sel (aR 2 (ay ys)) (odW (rg ys 2) (sZ ys)) 0:=by unfold y8 qy;rw[b,z d,c];rfl
  have v:y9 ys=sel (aR 2 (ay ys)) (odD (rg ys 2) (sZ ys)) 1:=by unfold y9 qy;rw[b,z d,c];rfl
  have s:za ys=sel (aR 3 (ay ys)) (Qx (rg ys 3)) 0:=by unfold za rC;rw[b,z f];rfl
  have eB:ze ys=sel (aR 3 (ay ys)) (Qy (rg ys 3)) 0:=by unfold ze rC;rw[b,z f];rfl
  have j:1≤sZ ys∧sZ ys≤12:=by
   rw[A]
   cases l:aR 1 (ay ys) with
   |true=>rw[l] at y;exact mo_rng _ y
   |false=>exact⟨le_dec rfl,le_dec rfl⟩
  have F:qm (y7 ys) (y8 ys) (y9 ys) (sZ ys)=true:=by
   rw[x,eW,v]
   cases p:aR 2 (ay ys) with
   |true=>rw[p,c] at w;exact od_ok _ _ w
   |false=>exact ft_first _ j.1 j.2
  have E:dO (za ys) (ze ys)=true:=by
   rw[s,eB]
   cases q:aR 3 (ay ys) with
   |true=>rw[q] at B;exact RO _ B
   |false=>rfl
  have hL:1≤ys.length:=by
   unfold sW at b
   cases ys with
   |nil=>cases b
   |cons a t=>simp
  refine⟨?_,?_,by rw[n];omega,by rw[n];omega,by omega,j.2⟩
  ·rw[Gj,n]
   exact⟨⟨by omega,by omega⟩,F,E⟩
  unfold Lc;rw[sT]
  cases C:ak (ieq (za ys) 0) (ieq (ze ys) 0) with
  |false=>
   have:3<ay ys:=by
    by_cases e:3<ay ys
    ·exact e
    rw[s,eB,bB (by omega)] at C;cases C
   rw[aC] at this;show 4≤ys.length;omega
  |true=>
   cases u:ak (ieq (y7 ys) 0) (ak (ieq (y8 ys) 0) (ieq (y9 ys) 1)) with
   |false=>
    have:2<ay ys:=by
     by_cases e:2<ay ys
     ·exact e
     rw[x,eW,v,bB (by omega)] at u;cases u
    rw[aC] at this;show 3≤ys.length;omega
   |true=>
    cases D:ieq (sZ ys) 1 with
    |false=>
     have:1<ay ys:=by
      by_cases e:1<ay ys
      ·exact e
      rw[A,bB (by omega)] at D;cases D
     rw[aC] at this;show 2≤ys.length;omega
    |true=>show 1≤ys.length;exact hL
theorem rl_right (s:af) (h:Qk s=0):(sel (ieq (ZD s) 0) (ieq (Ar s) 0&&seq (Xa s) []) (sel (ieq (ZD s) 1) (ax (-10800) (Ar s)&&(ax (Ar s) 10800&&seq (Xa s) [])) (sel (ieq (ZD s) 2) (ieq (Ar s) 0&&ieq (dK (Xa s)) 0) false)))=true∧(Xa s).length≤64∧-10800≤Ar s∧Ar s≤10800:=by
 rw[tY] at h;rw[ic,ig,iq]
 cases e:seq s [45] with
 |true=>exact⟨rfl,aa3 rfl,le_dec rfl,le_dec rfl⟩
 |false=>
  rw[e,sF] at h
  cases d:F5 s with
  |true=>
   rw[d,sT] at h;rw[gP] at h;rw[iw]
   cases c:ieq (lN s) 0 with
   |false=>rw[c] at h;rw[show lN s=0 from h] at c;cases c
   |true=>
    rw[c,sT] at h
    cases a:ax (-10800) (fH s) with
    |false=>rw[a] at h;cases h
    |true=>
     rw[a,sT] at h
     cases b:ax (fH s) 10800 with
     |false=>rw[b] at h;cases h
     |true=>rw[aA] at a b;refine⟨?_,aa3 rfl,a,b⟩;show(ax (-10800) (fH s)&&(ax (fH s) 10800&&seq [] []))=true;rw[bn a,bn b];rfl
  |false=>rw[d,sF] at h;refine⟨?_,tO s h,le_dec rfl,le_dec rfl⟩;show(ieq 0 0&&ieq (dK s) 0)=true;rw[h];rfl
theorem er_right (xs:ah) (D:gL xs=true) (h:kT xs=0):G8 (T7 xs) (Xb xs) (T8 xs) (UA xs) (UB xs) (FF xs) (T9 xs) (Ua xs) (Xc xs) (Xd xs) (Ay xs) (Az xs) (AA xs)=true∧(Ql (T7 xs) (Xb xs) (T8 xs) (UA xs) (UB xs) (FF xs) (T9 xs) (Ua xs) (Xc xs) (Xd xs) (Ay xs) (Az xs) (AA xs)).length≤xs.length∧
  (UA xs).length≤64∧(UB xs).length≤16∧(-54000≤T7 xs∧T7 xs≤54000)∧(-10800≤T8 xs∧T8 xs≤10800)∧(-32767≤T9 xs∧T9 xs≤32767)∧(0≤Ua xs∧Ua xs≤12):=by
 have d: ¬ay xs<3:=fun e=>by unfold kT at h;rw[bu e] at h;cases h
 have f: ¬7<ay xs:=fun e=>by unfold kT at h;rw[bB (by omega),bu e] at h;cases h
 obtain⟨l,rfl,_⟩:=xJ xs D;rw[aC,kS] at d f;match l,d,f,h with
 |[],d,_,_=>exact absurd d (by simp)
 |[_],d,_,_=>exact absurd d (by simp)
 |[_,_],d,_,_=>exact absurd d (by simp)
 |a::b::c::t,_,f,h=>
  rw[rA,rA,rA] at h⊢;have v:(t.map V.str).length≤4:=by rw[kS];simp only[dN] at f;omega
  have k:=erV_3 a b c (t.map V.str) h;rw[erE_3 a b c _ v] at h;obtain⟨g1,h⟩:=Er h;obtain⟨A,h⟩:=Er h;obtain⟨n,F⟩:=Er h;unfold Kk at g1;obtain⟨M,g1⟩:=Er g1;have j: -54000≤fH a:=by
   by_cases e: -54000≤fH a
   ·exact e
   rw[nA (by omega)] at g1;cases g1
  have m:fH a≤54000:=by
   by_cases e:fH a≤54000
   ·exact e
   rw[bn j,nA (by omega)] at g1;cases g1
  obtain⟨n1,N,w,y,r,G⟩:=en_right _ F;obtain⟨s,I,q,z⟩:=rl_right b A;have C:=O9 c n;unfold Np at k;simp only[V.tup.injEq,Qg,V.agg.injEq,V.str.injEq,V.int.injEq,V.bool.injEq,jC,Uj] at k;obtain⟨⟨o,J,E,K,L,p,B,u,H,x,i,g,e12⟩,_⟩:=k;rw[o,J,E,K,L,p,B,u,H,x,i,g,e12];refine⟨?_,?_,I,C,⟨j,m⟩,⟨q,z⟩,⟨w,y⟩,⟨r,G⟩⟩
  ·rw[Pb]
   exact⟨⟨j,m⟩,n,n1,s⟩
  unfold Ql;simp only[dN];omega
noncomputable def eRdS:aD:=fun a=>match a with|[.sl 9 [.str] none xs]=>some (gL xs,.tup [.agg [.int .i64 (T7 xs),.int .i64 (Xb xs),.int .i64 (T8 xs),.str (UA xs),.str (UB xs),.bool (FF xs),.int .i64 (T9 xs),.int .i64 (Ua xs),.int .i64 (Xc xs),.int .i64 (Xd xs),.int .i64 (Ay xs),.int .i64 (Az xs),.int .i64 (AA xs)],.int .i64 (kT xs)])|_=>none
noncomputable def eFlS:aD:=fun a=>match a with|[.agg [.int .i64 o,.int .i64 k,.int .i64 v,.str r,.str q,.bool h,.int .i64 y,.int .i64 m,.int .i64 ok,.int .i64 ow,.int .i64 od,.int .i64 c,.int .i64 b]]=>some (ak (ak (ax (aB r) 900) (ax (aB q) 900)) (ak (ak (ak (ax (-9223372036854775808) o) (ax o 9223372036854775807)) (ak (ax (-9223372036854775808) v) (ax v 9223372036854775807))) (ak (ak (ax (-9223372036854775808) y) (ax y 9223372036854775807)) (ak (ax (-9223372036854775808) m) (ax m 9223372036854775807)))),.tup [.sl 9 [.str] none (efV o k v r q h y m ok ow od c b),.int .i64 (efE o k v r q h y m ok ow od c b)])|_=>none
noncomputable def eLd:List (Nat×aD):=(94,eRdS)::(43,eFlS)::(61,eRightS)::[]
noncomputable def eL:List (Nat×aD):=eLd
theorem eRdS_ok (xs:ah) (a:gL xs=true):aj eE 94 [.sl 9 [.str] none xs] (.tup [.agg [.int .i64 (T7 xs),.int .i64 (Xb xs),.int .i64 (T8 xs),.str (UA xs),.str (UB xs),.bool (FF xs),.int .i64 (T9 xs),.int .i64 (Ua xs),.int .i64 (Xc xs),.int .i64 (Xd xs),.int .i64 (Ay xs),.int .i64 (Az xs),.int .i64 (AA xs)],.int .i64 (kT xs)]):=WB xs a
theorem er_inj (xs:ah) {o k v:Int} {r q:af} {h:Bool} {y m ok i j c b e:Int} (a:Np xs=.tup [.agg [.int .i64 o,.int .i64 k,.int .i64 v,.str r,.str q,.bool h,.int .i64 y,.int .i64 m,.int .i64 ok,.int .i64 i,.int .i64 j,.int .i64 c,.int .i64 b],.int .i64 e]):
  T7 xs=o∧Xb xs=k∧T8 xs=v∧UA xs=r∧UB xs=q∧FF xs=h∧T9 xs=y∧Ua xs=m∧Xc xs=ok∧Xd xs=i∧Ay xs=j∧Az xs=c∧AA xs=b∧kT xs=e:=by
 unfold Np at a;simp only[V.tup.injEq,Qg,V.agg.injEq,V.str.injEq,V.int.injEq,V.bool.injEq,jC,Uj] at a;obtain⟨⟨p,z,n,s,x,B,t,A,l,u,d,g,f⟩,w⟩:=a;exact⟨p,z,n,s,x,B,t,A,l,u,d,g,f,w⟩
end Nt.Ev.YtjcencojgajgdaaGreatDoor
