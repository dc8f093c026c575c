/-
  Era: equations of functions, as the evaluator prints them. Eras: what the program's functions and the document's answer.
-/
import Derived.Test.YtknhlobahpgkeaaGreatDoorMM
set_option linter.all false
set_option maxRecDepth 100000
namespace Nt.Ev.YtknhlobahpgkeaaGreatDoor
open Go Nt.Num Go.Proofs.YtknhlobahpgkeaaGreatDoor
variable [kM]
open Nt.Civil
abbrev eZ:V:=(V.agg [V.int .i64 0,V.int .i64 0,V.int .i64 0,V.str [],V.str [],V.bool false,V.int .i64 0,V.int .i64 0,V.int .i64 0,V.int .i64 0,V.int .i64 0,V.int .i64 0,V.int .i64 0])
noncomputable def firstV:V:=.rptr [.int .i64,.int .i64,.int .i64] (.agg [.int .i64 0,.int .i64 0,.int .i64 1]) 0
noncomputable def eE:Env:=⟨Go.Proofs.Tryz.prog,fun g=>bif g==1 then some firstV else bif g==2 then some Dw else bif g==0 then some NU else bif g==4 then some Uh else bif g==3 then some (.rptr [.int .i64] (.int .i64 kM.val) 0) else none⟩
noncomputable def eNrS:aC:=fun a=>match a with|[.str s]=>some (av (aA s) 900,.tup [.int .i64 (iG s),.int .i64 (nrW s)])|_=>none
noncomputable def eNtS:aC:=fun a=>match a with|[.int .i64 n]=>some (ak (av (-9223372036854775808) n) (av n 9223372036854775807),.str (text n))|_=>none
noncomputable def eChS:aC:=fun a=>match a with|[.str s]=>some (av (aA s) 900,.int .i64 (ja s))|_=>none
noncomputable def eS0:List (Nat×aC):=(154,eNrS)::(54,eNtS)::(87,eChS)::(38,Nc)::(50,CV)::(130,Wn)::(132,Wo)::(134,Wp)::(121,Wq)::(29,YL)::(30,YM)::(51,YN)::(31,YO)::(33,YP)::[]
def rD:af→Bool|[]=>false|[c]=>decide (48≤c.toNat)&&decide (c.toNat≤57)|c::d::_=>(decide (48≤c.toNat)&&decide (c.toNat≤57))||(c==45&&(decide (48≤d.toNat)&&decide (d.toNat≤57)))
def rlP (s:af):Int×Int×af×Int:=if s=[45] then(0,0,[],0) else if rD s=true then(1,svI s,[],svW s) else(2,0,s,dG s)
def YC (s:af):Int:=(rlP s).1
def Ar (s:af):Int:=(rlP s).2.1
def VX (s:af):af:=(rlP s).2.2.1
def Pn (s:af):Int:=(rlP s).2.2.2
noncomputable def eNumS:aC:=fun a=>match a with|[.str s]=>some (av (aA s) 900,.bool (rD s))|_=>none
noncomputable def eS1:List (Nat×aC):=(153,eNumS)::eS0
def en0 (ys:ah):Int:=sel (ieq (nrW (rg ys 0)) 0) (sel (av (iG (rg ys 0)) (-32767)) 1 (sel (av 32767 (iG (rg ys 0))) 1 0)) (nrW (rg ys 0))
def Fz (ys:ah):Int:=sel (ieq (en0 ys) 0) (sel (aW 1 (ay ys)) (qj (rg ys 1)) 0) (en0 ys)
def nU (ys:ah):Int:=sel (ieq (en0 ys) 0) (sel (aW 1 (ay ys)) (u7 (rg ys 1)) 1) 1
def FC (ys:ah):Int:=sel (ieq (Fz ys) 0) (sel (aW 2 (ay ys)) (odE (rg ys 2) (nU ys)) 0) (Fz ys)
def qx (ys:ah) (f:af→Int→Int) (z:Int):Int:=sel (ieq (Fz ys) 0) (sel (aW 2 (ay ys)) (f (rg ys 2) (nU ys)) z) z
def JL (ys:ah):Int:=sel (ieq (FC ys) 0) (sel (aW 3 (ay ys)) (yY (rg ys 3)) 0) (FC ys)
def rJ (ys:ah) (f:af→Int):Int:=sel (ieq (FC ys) 0) (sel (aW 3 (ay ys)) (f (rg ys 3)) 0) 0
def tq (ys:ah):Bool:=aL (ieq (ay ys) 0)
def yZ (ys:ah):Int:=sel (tq ys) (iG (rg ys 0)) 0
def tu (ys:ah):Int:=sel (tq ys) (nU ys) 0
def y5 (ys:ah):Int:=sel (tq ys) (qx ys odK 0) 0
def y7 (ys:ah):Int:=sel (tq ys) (qx ys odW 0) 0
def y8 (ys:ah):Int:=sel (tq ys) (qx ys odD 1) 0
def y9 (ys:ah):Int:=sel (tq ys) (rJ ys PD) 0
def za (ys:ah):Int:=sel (tq ys) (rJ ys PE) 0
def ze (ys:ah):Int:=sel (tq ys) (JL ys) 0
noncomputable def eNoS:aC:=fun a=>match a with|[.str s]=>some (false,.int .i64 0)|_=>none
noncomputable def eSn:List (Nat×aC):=(121,eNoS)::[]
theorem eNum_top (F s) (K:V→Option V):
 bA eE (bu eE eS0 F 4) F 153 [V.str s] K=
 let C:=aA [45];let D:=K (V.bool false);let H:=ak (av 0 0) (aW 0 (aA s));let A:=sel (aL (seq s [])) (sel H (sel (av 48 (sat s 0)) (sel H (K (V.bool (av (sat s 0) 57))) none) D) none) D;let B:=dN s C (aA s);let E:=ak (av 0 C) (av C (aA s));let G:=ak (av 0 0) (aW 0 (aA B));sel (av C (aA s)) (sel E (sel (seq (dN s 0 C) [45]) (sel E (sel (aL (seq B [])) (sel G (sel (av 48 (sat B 0)) (sel G (K (V.bool (av (sat B 0) 57))) none) D) none) D) none) A) none) A:=by kernel_rfl
theorem Md (F xs) (K:V→Option V):
 bA eE (bu eE eSn F 10) F 73 [V.sl 9 [Kd.str] none xs] K=
 sel (aL (av 3 (ay xs))) (K (V.tup [eZ,V.int .i64 5])) (sel (aL (av (ay xs) 7)) (K (V.tup [eZ,V.int .i64 6])) (sel (ak (av 0 0) (aW 0 (ay xs))) none none)):=by kernel_rfl
theorem Ki (b a c) (K:V→Option V):
 bA eE (bu eE eS1 9 10) 9 73 [V.sl 9 [Kd.str] none [V.str b,V.str a,V.str c]] K=
 let A:=V.int .i64 0;let B:=K (V.tup [eZ,V.int .i64 1]);let C:=K (V.tup [eZ,V.int .i64 (ja c)]);let D:=aL (ieq (ja c) 0);let E:=V.int .i64 (fD b);let F:=av (aA c) 900;let G:=V.bool false;let H:=V.str c;let I:=av (aA a) 900;sel (av (aA b) 900) (sel (aL (ieq (lT b) 0)) (K (V.tup [eZ,V.int .i64 (lT b)])) (sel (av (-54000) (fD b)) (sel (aL (av (fD b) 54000)) B (sel (seq a [45]) (sel F (sel D C (K (V.tup [V.agg [E,A,A,V.str [],H,G,A,A,A,A,A,A,A],A]))) none) (sel I (sel (rD a) (sel I (sel (aL (ieq (lT a) 0)) (K (V.tup [eZ,V.int .i64 (lT a)])) (sel (av (-10800) (fD a)) (sel (aL (av (fD a) 10800)) B (sel F (sel D C (K (V.tup [V.agg [E,V.int .i64 1,V.int .i64 (fD a),V.str [],H,G,A,A,A,A,A,A,A],A]))) none)) B)) none) (sel (av (aA a) 1000) (sel (aL (ieq (dG a) 0)) (K (V.tup [eZ,V.int .i64 (dG a)])) (sel F (sel D C (K (V.tup [V.agg [E,V.int .i64 2,A,V.str a,H,G,A,A,A,A,A,A,A],A]))) none)) none)) none))) B)) none:=by kernel_rfl
theorem Kj (b a d c) (K:V→Option V):
 bA eE (bu eE eS1 9 10) 9 73 [V.sl 9 [Kd.str] none [V.str b,V.str a,V.str d,V.str c]] K=
 let B:=V.int .i64 0;let C:=V.int .i64 1;let D:=K (V.tup [eZ,V.int .i64 (ja d)]);let E:=K (V.tup [eZ,V.int .i64 (nrW c)]);let F:=aL (aW (iG c) 32767);let G:=aL (ieq (ja d) 0);let H:=aL (ieq (nrW c) 0);let I:=aW (-32767) (iG c);let J:=V.int .i64 (fD b);let L:=V.int .i64 (iG c);let M:=av (aA d) 900;let N:=av (aA c) 900;let O:=V.bool true;let P:=V.str d;let Q:=av (aA a) 900;let A:=K (V.tup [eZ,C]);sel (av (aA b) 900) (sel (aL (ieq (lT b) 0)) (K (V.tup [eZ,V.int .i64 (lT b)])) (sel (av (-54000) (fD b)) (sel (aL (av (fD b) 54000)) A (sel (seq a [45]) (sel M (sel G D (sel N (sel H E (sel I (sel F A (K (V.tup [V.agg [J,B,B,V.str [],P,O,L,C,B,B,C,B,B],B]))) A)) none)) none) (sel Q (sel (rD a) (sel Q (sel (aL (ieq (lT a) 0)) (K (V.tup [eZ,V.int .i64 (lT a)])) (sel (av (-10800) (fD a)) (sel (aL (av (fD a) 10800)) A (sel M (sel G D (sel N (sel H E (sel I (sel F A (K (V.tup [V.agg [J,C,V.int .i64 (fD a),V.str [],P,O,L,C,B,B,C,B,B],B]))) A)) none)) none)) A)) none) (sel (av (aA a) 1000) (sel (aL (ieq (dG a) 0)) (K (V.tup [eZ,V.int .i64 (dG a)])) (sel M (sel G D (sel N (sel H E (sel I (sel F A (K (V.tup [V.agg [J,V.int .i64 2,B,V.str a,P,O,L,C,B,B,C,B,B],B]))) A)) none)) none)) none)) none))) A)) none:=by kernel_rfl
theorem Kk (b a e c d) (K:V→Option V):
 bA eE (bu eE eS1 9 10) 9 73 [V.sl 9 [Kd.str] none [V.str b,V.str a,V.str e,V.str c,V.str d]] K=
 let B:=V.int .i64 0;let C:=K (V.tup [eZ,V.int .i64 (ja e)]);let D:=K (V.tup [eZ,V.int .i64 (nrW c)]);let E:=K (V.tup [eZ,V.int .i64 (qj d)]);let F:=aL (aW (iG c) 32767);let G:=V.int .i64 1;let H:=aL (ieq (ja e) 0);let I:=aL (ieq (nrW c) 0);let J:=aW (-32767) (iG c);let L:=aL (ieq (qj d) 0);let M:=V.int .i64 (fD b);let N:=V.int .i64 (iG c);let O:=V.int .i64 (u7 d);let P:=av (aA e) 900;let Q:=av (aA c) 900;let R:=av (aA d) 900;let S:=V.bool true;let T:=V.str e;let U:=av (aA a) 900;let A:=K (V.tup [eZ,G]);sel (av (aA b) 900) (sel (aL (ieq (lT b) 0)) (K (V.tup [eZ,V.int .i64 (lT b)])) (sel (av (-54000) (fD b)) (sel (aL (av (fD b) 54000)) A (sel (seq a [45]) (sel P (sel H C (sel Q (sel I D (sel J (sel F A (sel R (sel L E (K (V.tup [V.agg [M,B,B,V.str [],T,S,N,O,B,B,G,B,B],B]))) none)) A)) none)) none) (sel U (sel (rD a) (sel U (sel (aL (ieq (lT a) 0)) (K (V.tup [eZ,V.int .i64 (lT a)])) (sel (av (-10800) (fD a)) (sel (aL (av (fD a) 10800)) A (sel P (sel H C (sel Q (sel I D (sel J (sel F A (sel R (sel L E (K (V.tup [V.agg [M,G,V.int .i64 (fD a),V.str [],T,S,N,O,B,B,G,B,B],B]))) none)) A)) none)) none)) A)) none) (sel (av (aA a) 1000) (sel (aL (ieq (dG a) 0)) (K (V.tup [eZ,V.int .i64 (dG a)])) (sel P (sel H C (sel Q (sel I D (sel J (sel F A (sel R (sel L E (K (V.tup [V.agg [M,V.int .i64 2,B,V.str a,T,S,N,O,B,B,G,B,B],B]))) none)) A)) none)) none)) none)) none))) A)) none:=by kernel_rfl
theorem Kl (c a d e f b) (K:V→Option V):
 bA eE (bu eE eS1 9 10) 9 73 [V.sl 9 [Kd.str] none [V.str c,V.str a,V.str d,V.str e,V.str f,V.str b]] K=
 let A:=K (V.tup [eZ,V.int .i64 1]);let B:=V.int .i64 0;let C:=aL (oQ (rz b) (iL b) (rA b) (u7 f));let D:=K (V.tup [eZ,V.int .i64 (ja d)]);let E:=K (V.tup [eZ,V.int .i64 (nrW e)]);let F:=K (V.tup [eZ,V.int .i64 (qj f)]);let G:=K (V.tup [eZ,V.int .i64 (sZ b)]);let H:=aL (aW (iG e) 32767);let I:=aL (ieq (ja d) 0);let J:=aL (ieq (nrW e) 0);let L:=aW (-32767) (iG e);let M:=aL (ieq (qj f) 0);let N:=aL (ieq (sZ b) 0);let O:=V.int .i64 (iL b);let P:=V.int .i64 (fD c);let Q:=V.int .i64 (iG e);let R:=V.int .i64 (u7 f);let S:=V.int .i64 (rz b);let T:=V.int .i64 (rA b);let U:=av (aA d) 900;let W:=av (aA e) 900;let X:=av (aA f) 900;let Y:=av (aA b) 900;let Z:=V.bool true;sel (av (aA c) 900) (sel (aL (ieq (lT c) 0)) (K (V.tup [eZ,V.int .i64 (lT c)])) (sel (av (-54000) (fD c)) (sel (aL (av (fD c) 54000)) A (sel (seq a [45]) (sel U (sel I D (sel W (sel J E (sel L (sel H A (sel X (sel M F (sel Y (sel N G (sel C A (K (V.tup [V.agg [P,B,B,V.str [],V.str d,Z,Q,R,S,O,T,B,B],B])))) none)) none)) A)) none)) none) (sel (av (aA a) 900) (sel (rD a) (sel (av (aA a) 900) (sel (aL (ieq (lT a) 0)) (K (V.tup [eZ,V.int .i64 (lT a)])) (sel (av (-10800) (fD a)) (sel (aL (av (fD a) 10800)) A (sel U (sel I D (sel W (sel J E (sel L (sel H A (sel X (sel M F (sel Y (sel N G (sel C A (K (V.tup [V.agg [P,V.int .i64 1,V.int .i64 (fD a),V.str [],V.str d,Z,Q,R,S,O,T,B,B],B])))) none)) none)) A)) none)) none)) A)) none) (sel (av (aA a) 1000) (sel (aL (ieq (dG a) 0)) (K (V.tup [eZ,V.int .i64 (dG a)])) (sel U (sel I D (sel W (sel J E (sel L (sel H A (sel X (sel M F (sel Y (sel N G (sel C A (K (V.tup [V.agg [P,V.int .i64 2,B,V.str a,V.str d,Z,Q,R,S,O,T,B,B],B])))) none)) none)) A)) none)) none)) none)) none))) A)) none:=by kernel_rfl
theorem Km (d a e c f b g) (K:V→Option V):
 bA eE (bu eE eS1 9 10) 9 73 [V.sl 9 [Kd.str] none [V.str d,V.str a,V.str e,V.str c,V.str f,V.str b,V.str g]] K=
 let A:=K (V.tup [eZ,V.int .i64 1]);let B:=aL (oQ (rz b) (iL b) (rA b) (u7 f));let C:=K (V.tup [eZ,V.int .i64 (ja e)]);let D:=K (V.tup [eZ,V.int .i64 (nrW c)]);let E:=K (V.tup [eZ,V.int .i64 (qj f)]);let F:=K (V.tup [eZ,V.int .i64 (sZ b)]);let G:=K (V.tup [eZ,V.int .i64 (yY g)]);let H:=V.int .i64 0;let I:=aL (aW (iG c) 32767);let J:=aL (ieq (ja e) 0);let L:=aL (ieq (nrW c) 0);let M:=aW (-32767) (iG c);let N:=aL (ieq (qj f) 0);let O:=aL (ieq (sZ b) 0);let P:=aL (ieq (yY g) 0);let Q:=V.int .i64 (iL b);let R:=V.int .i64 (fD d);let S:=V.int .i64 (iG c);let T:=V.int .i64 (u7 f);let U:=V.int .i64 (rz b);let W:=V.int .i64 (rA b);let X:=V.int .i64 (PD g);let Y:=V.int .i64 (PE g);let Z:=av (aA e) 900;let Aa:=av (aA c) 900;let Ab:=av (aA f) 900;let Ac:=av (aA b) 900;let Ad:=av (aA g) 900;let Ae:=V.bool true;sel (av (aA d) 900) (sel (aL (ieq (lT d) 0)) (K (V.tup [eZ,V.int .i64 (lT d)])) (sel (av (-54000) (fD d)) (sel (aL (av (fD d) 54000)) A (sel (seq a [45]) (sel Z (sel J C (sel Aa (sel L D (sel M (sel I A (sel Ab (sel N E (sel Ac (sel O F (sel B A (sel Ad (sel P G (K (V.tup [V.agg [R,H,H,V.str [],V.str e,Ae,S,T,U,Q,W,X,Y],H]))) none))) none)) none)) A)) none)) none) (sel (av (aA a) 900) (sel (rD a) (sel (av (aA a) 900) (sel (aL (ieq (lT a) 0)) (K (V.tup [eZ,V.int .i64 (lT a)])) (sel (av (-10800) (fD a)) (sel (aL (av (fD a) 10800)) A (sel Z (sel J C (sel Aa (sel L D (sel M (sel I A (sel Ab (sel N E (sel Ac (sel O F (sel B A (sel Ad (sel P G (K (V.tup [V.agg [R,V.int .i64 1,V.int .i64 (fD a),V.str [],V.str e,Ae,S,T,U,Q,W,X,Y],H]))) none))) none)) none)) A)) none)) none)) A)) none) (sel (av (aA a) 1000) (sel (aL (ieq (dG a) 0)) (K (V.tup [eZ,V.int .i64 (dG a)])) (sel Z (sel J C (sel Aa (sel L D (sel M (sel I A (sel Ab (sel N E (sel Ac (sel O F (sel B A (sel Ad (sel P G (K (V.tup [V.agg [R,V.int .i64 2,H,V.str a,V.str e,Ae,S,T,U,Q,W,X,Y],H]))) none))) none)) none)) A)) none)) none)) none)) none))) A)) none:=by kernel_rfl
open Go.RowKit Nt
theorem jL:uL eE:=⟨by kernel_rfl,by kernel_rfl⟩
theorem Au {f:Nat} {args:ah} {r:V} (h:aj zE f args r):aj eE f args r:=aj.env (E:=zE) rfl (fun n v h=>by
 show(bif n==1 then some firstV else zE.glob n)=some v
 cases e:n==1 with
 |true=>
  obtain rfl:n=1:=by simpa using e
  have:zE.glob 1=none:=by kernel_rfl
  rw[this] at h;cases h
 |false=>exact h) h
theorem eNrS_ok (s:af) (a:av (aA s) 900=true):aj eE 154 [.str s] (.tup [.int .i64 (iG s),.int .i64 (nrW s)]):=Au (toZ (NR s (by have:=tQ a;omega)))
theorem Xx (n:Int) (a:ak (av (-9223372036854775808) n) (av n 9223372036854775807)=true):aj eE 54 [.int .i64 n] (.str (text n)):=Au (toZ (Bw n (G5 a)))
theorem Xy (s:af) (a:av (aA s) 900=true):aj eE 87 [.str s] (.int .i64 (ja s)):=Au (toZf (DF s (zu a)))
theorem eS0_ok:bf eE eS0:=by
 unfold eS0;refine bf.cons (fun args r h=>?_) (bf.cons (fun args r h=>?_) (bf.cons (fun args r h=>?_) (bf.cons (fun args r h=>?_) (bf.cons (fun args r h=>?_) (bf.cons (fun args r h=>?_) (bf.cons (fun args r h=>?_) (bf.cons (fun args r h=>?_) (bf.cons (fun args r h=>?_) (bf.cons (fun args r h=>?_) (bf.cons (fun args r h=>?_) (bf.cons (fun args r h=>?_) (bf.cons (fun args r h=>?_) (bf.cons (fun args r h=>?_) bf.nil)))))))))))));all_goals (revert h;intro h;first|unfold eNrS at h|unfold eNtS at h|unfold eChS at h|unfold Nc at h|unfold CV at h|unfold Wn at h|unfold Wo at h|unfold Wp at h|unfold Wq at h|unfold YL at h|unfold YM at h|unfold YN at h|unfold YO at h|unfold YP at h)
 all_goals (split at h;rotate_left; · cases h)
 all_goals (simp only[aR,bM] at h;obtain⟨a,rfl⟩:=h)
 ·exact eNrS_ok _ a
 ·exact Xx _ a
 ·exact Xy _ a
 ·exact Au (Dx _ a)
 ·exact Au (Dy _ _ _ _ rfl)
 ·exact Au (QE _ a)
 ·exact Au (QF _ a)
 ·exact Au (QG _ a)
 ·exact Au (QH _ a)
 ·exact Au (NY _ _ _ rfl)
 ·exact Au (NZ _ _ rfl)
 ·exact Au (N5 _ _ rfl)
 ·exact Au (N6 _ a)
 exact Au (N7 _ a)
theorem eNoS_ok (s:af) (a:false=true):aj eE 121 [.str s] (.int .i64 0):=by cases a
theorem eSn_ok:bf eE eSn:=by
 unfold eSn;refine bf.cons (fun args r h=>?_) bf.nil;all_goals (revert h;intro h;first|unfold eNoS at h)
 all_goals (split at h;rotate_left; · cases h)
 all_goals (simp only[aR,bM] at h;obtain⟨a,rfl⟩:=h)
 ·exact eNoS_ok _ a
theorem sat_0 (c:UInt8) (t:af):sat (c::t) 0=((c.toNat:Nat):Int):=rfl
theorem eNumS_ok (s:af) (o:av (aA s) 900=true):aj eE 153 [.str s] (.bool (rD s)):=by
 refine au jL eS0_ok 5 4 ?_
 (rw[eNum_top];(conv=>zeta))
 have one:aA [45]=1:=rfl;rw[one];rcases s with _|⟨c,_|⟨d,t⟩⟩
 ·rfl
 ·
  have j:av 1 (aA [c])=true:=rfl;have l2:ak (av 0 1) true=true:=rfl;have l:dN [c] 0 1=[c]:=rfl;have f:dN [c] 1 (aA [c])=[]:=rfl;have h:ak (av 0 0) (aW 0 (aA [c]))=true:=rfl;have k:seq [c] []=false:=rfl;have i:seq [c] [45]=(c==45):=by rw[uF,cK,iM];simp
  have e:av 48 ((c.toNat:Nat):Int)=decide (48≤c.toNat):=G6 c 48;have b:av ((c.toNat:Nat):Int) 57=decide (c.toNat≤57):=Bb c 57;rw[j,l2,l,f,h,k,sat_0,i,e,b];show _=some (V.bool (decide (48≤c.toNat)&&decide (c.toNat≤57)))
  cases g:c==45 with
  |true=>
   have:c=45:=by simpa using g
   subst this;rfl
  |false=>cases decide (48≤c.toNat)<;>cases decide (c.toNat≤57)<;>rfl
 ·
  rw[aB,aI] at o;have j:av 1 (aA (c::d::t))=true:=bg (by rw[aI,fI,fI];omega);have l2:ak (av 0 1) true=true:=rfl;have l:dN (c::d::t) 0 1=[c]:=rfl;have f:dN (c::d::t) 1 (aA (c::d::t))=d::t:=by unfold dN aA;show List.take (((c::d::t).length:Int).toNat-1) (d::t)=d::t;rw[O9];simp;omega
  have h:seq (d::t) []=false:=rfl;have k:seq (c::d::t) []=false:=rfl;have m:ak (av 0 0) (aW 0 (aA (d::t)))=true:=by rw[bH (by rw[aI,fI];omega)];rfl
  have n:ak (av 0 0) (aW 0 (aA (c::d::t)))=true:=by rw[bH (by rw[aI,fI];omega)];rfl
  rw[j,l2,l,f,h,k,m,n,sat_0,sat_0];have i:seq [c] [45]=(c==45):=by rw[uF,cK,iM];simp
  have e: ∀x:UInt8,av 48 ((x.toNat:Nat):Int)=decide (48≤x.toNat):=fun x=>G6 x 48
  have b: ∀x:UInt8,av ((x.toNat:Nat):Int) 57=decide (x.toNat≤57):=fun x=>Bb x 57
  rw[i,e,e,b,b];show _=some (V.bool ((decide (48≤c.toNat)&&decide (c.toNat≤57))||(c==45&&(decide (48≤d.toNat)&&decide (d.toNat≤57)))))
  cases a:c==45 with
  |true=>
   have:c=45:=by simpa using a
   subst this
   cases decide (48≤d.toNat)<;>cases decide (d.toNat≤57)<;>rfl
  |false=>cases decide (48≤c.toNat)<;>cases decide (c.toNat≤57)<;>cases decide (48≤d.toNat)<;>cases decide (d.toNat≤57)<;>rfl
theorem tY (s:af):Pn s=sel (seq s [45]) 0 (sel (rD s) (svW s) (dG s)):=by
 unfold Pn rlP;simp only[bK,cK]
 (repeat' split)<;>rfl
theorem iq (s:af):YC s=sel (seq s [45]) 0 (sel (rD s) 1 2):=by
 unfold YC rlP;simp only[bK,cK]
 (repeat' split)<;>rfl
theorem iw (s:af):Ar s=sel (seq s [45]) 0 (sel (rD s) (svI s) 0):=by
 unfold Ar rlP;simp only[bK,cK]
 (repeat' split)<;>rfl
theorem iy (s:af):VX s=sel (seq s [45]) [] (sel (rD s) [] s):=by
 unfold VX rlP;simp only[bK,cK]
 (repeat' split)<;>rfl
theorem iA (s:af):svI s=sel (ieq (lT s) 0) (sel (av (-10800) (fD s)) (sel (av (fD s) 10800) (fD s) 0) 0) (fD s):=by
 unfold svI svP;simp only[bK,aN,aB];by_cases h:lT s=0
 ·rw[if_pos h,if_pos h]
  by_cases a: -10800≤fD s
  ·rw[if_pos a]
   by_cases b:fD s≤10800
   ·rw[if_pos b,if_neg (by omega)]
   rw[if_neg b,if_pos (by omega)]
  rw[if_neg a,if_pos (by omega)]
 rw[if_neg h,if_neg h]
theorem jF (s:af) (m:Int):odK s m=sel (ieq (sZ s) 0) (sel (oQ (rz s) (iL s) (rA s) m) (rz s) 0) (rz s):=by
 unfold odK odP;simp only[bK,aN]
 (repeat' split)<;>rfl
theorem jG (s:af) (m:Int):odW s m=sel (ieq (sZ s) 0) (sel (oQ (rz s) (iL s) (rA s) m) (iL s) 0) (iL s):=by
 unfold odW odP;simp only[bK,aN]
 (repeat' split)<;>rfl
theorem jH (s:af) (m:Int):odD s m=sel (ieq (sZ s) 0) (sel (oQ (rz s) (iL s) (rA s) m) (rA s) 0) (rA s):=by
 unfold odD odP;simp only[bK,aN]
 (repeat' split)<;>rfl
theorem G7 (a b:Int):aW a b=aL (av b a):=by unfold aW av aL;rw[uF,lG,ac2,ab4];omega
theorem G8:bf eE eS1:=by
 unfold eS1;refine bf.cons (fun args r h=>?_) eS0_ok;all_goals (revert h;intro h;first|unfold eNumS at h)
 all_goals (split at h;rotate_left; · cases h)
 all_goals (simp only[aR,bM] at h;obtain⟨a,rfl⟩:=h)
 ·exact eNumS_ok _ a
def JM (s:af):Int:=sel (ieq (lT s) 0) (sel (av (-54000) (fD s)) (sel (av (fD s) 54000) 0 1) 1) (lT s)
def kK (xs:ah):Int:=sel (aW (ay xs) 3) 5 (sel (aW 7 (ay xs)) 6 (sel (ieq (JM (rg xs 0)) 0) (sel (ieq (Pn (rg xs 1)) 0) (sel (ieq (ja (rg xs 2)) 0) (ze (fo xs 3 (ay xs))) (ja (rg xs 2))) (Pn (rg xs 1))) (JM (rg xs 0))))
def S9 (xs:ah):Int:=sel (ieq (kK xs) 0) (fD (rg xs 0)) 0
def VY (xs:ah):Int:=sel (ieq (kK xs) 0) (YC (rg xs 1)) 0
def Ta (xs:ah):Int:=sel (ieq (kK xs) 0) (Ar (rg xs 1)) 0
def TI (xs:ah):af:=sel (ieq (kK xs) 0) (VX (rg xs 1)) []
def TJ (xs:ah):af:=sel (ieq (kK xs) 0) (rg xs 2) []
def E6 (xs:ah):Bool:=sel (ieq (kK xs) 0) (tq (fo xs 3 (ay xs))) false
def Tc (xs:ah):Int:=sel (ieq (kK xs) 0) (yZ (fo xs 3 (ay xs))) 0
def Td (xs:ah):Int:=sel (ieq (kK xs) 0) (tu (fo xs 3 (ay xs))) 0
def VZ (xs:ah):Int:=sel (ieq (kK xs) 0) (y5 (fo xs 3 (ay xs))) 0
def V2 (xs:ah):Int:=sel (ieq (kK xs) 0) (y7 (fo xs 3 (ay xs))) 0
def Aw (xs:ah):Int:=sel (ieq (kK xs) 0) (y8 (fo xs 3 (ay xs))) 0
def Ay (xs:ah):Int:=sel (ieq (kK xs) 0) (y9 (fo xs 3 (ay xs))) 0
def Az (xs:ah):Int:=sel (ieq (kK xs) 0) (za (fo xs 3 (ay xs))) 0
def My (xs:ah):V:=.tup [.agg [.int .i64 (S9 xs),.int .i64 (VY xs),.int .i64 (Ta xs),.str (TI xs),.str (TJ xs),.bool (E6 xs),.int .i64 (Tc xs),.int .i64 (Td xs),.int .i64 (VZ xs),.int .i64 (V2 xs),.int .i64 (Aw xs),.int .i64 (Ay xs),.int .i64 (Az xs)],.int .i64 (kK xs)]
def erW (xs:ah) (d h l:Int) (i e:af) (m:Bool) (g k f j a c b:Int):V:=.tup [.agg [.int .i64 (sel (ieq (kK xs) 0) d 0),.int .i64 (sel (ieq (kK xs) 0) h 0),.int .i64 (sel (ieq (kK xs) 0) l 0),.str (sel (ieq (kK xs) 0) i []),.str (sel (ieq (kK xs) 0) e []),.bool (sel (ieq (kK xs) 0) m false),.int .i64 (sel (ieq (kK xs) 0) g 0),.int .i64 (sel (ieq (kK xs) 0) k 0),.int .i64 (sel (ieq (kK xs) 0) f 0),.int .i64 (sel (ieq (kK xs) 0) j 0),.int .i64 (sel (ieq (kK xs) 0) a 0),.int .i64 (sel (ieq (kK xs) 0) c 0),.int .i64 (sel (ieq (kK xs) 0) b 0)],.int .i64 (kK xs)]
theorem lu (xs:ah) (d i m:Int) (j e:af) (n:Bool) (g l f k a c b:Int) (h:kK xs=0):erW xs d i m j e n g l f k a c b=.tup [.agg [.int .i64 d,.int .i64 i,.int .i64 m,.str j,.str e,.bool n,.int .i64 g,.int .i64 l,.int .i64 f,.int .i64 k,.int .i64 a,.int .i64 c,.int .i64 b],.int .i64 0]:=by unfold erW;rw[h];rfl
theorem aY (xs:ah) {e:Int} (h:kK xs=e) (a:ieq e 0=false):My xs=.tup [.agg [.int .i64 0,.int .i64 0,.int .i64 0,.str [],.str [],.bool false,.int .i64 0,.int .i64 0,.int .i64 0,.int .i64 0,.int .i64 0,.int .i64 0,.int .i64 0],.int .i64 e]:=by unfold My S9 VY Ta TI TJ E6 Tc Td VZ V2 Aw Ay Az;rw[h,a];rfl
theorem eQ:(∀{α:Type} (a b:α),sel true a b=a)∧(∀{α:Type} (a b:α),sel false a b=b)∧ieq 1 0=false∧ieq 0 0=true∧aL true=false∧aL false=true:=⟨fun _ _=>rfl,fun _ _=>rfl,rfl,rfl,rfl,rfl⟩
set_option maxHeartbeats 2000000 in
theorem adM (a0 a1 a2:af) (h0:av (aA a0) 900=true) (h1:av (aA a1) 900=true) (h2:av (aA a2) 900=true):aj eE 73 [.sl 9 [.str] none [.str a0,.str a1,.str a2]] (My [.str a0,.str a1,.str a2]):=by
 refine au jL G8 9 10 ?_
 (rw[Ki];(conv=>zeta))
 have g1:kK [.str a0,.str a1,.str a2]=sel (ieq (JM a0) 0) (sel (ieq (Pn a1) 0) (sel (ieq (ja a2) 0) (ze []) (ja a2)) (Pn a1)) (JM a0):=rfl;have gY:My [.str a0,.str a1,.str a2]=erW [.str a0,.str a1,.str a2] (fD a0) (YC a1) (Ar a1) (VX a1) a2 (tq []) (yZ []) (tu []) (y5 []) (y7 []) (y8 []) (y9 []) (za []):=rfl;have z1:ieq 1 0=false:=rfl;have z0:ieq 0 0=true:=rfl;have b0:aL true=false:=rfl;have b1:aL false=true:=rfl;have gE:ze []=0:=rfl;simp only[h0,h1,h2,G7,sT];have hT:=g1;simp only[JM,tY,gT,gE,sT,sF,z0,z1,b0,b1] at hT
 cases e0:ieq (lT a0) 0<;>simp only[e0,eQ] at hT⊢
 ·rw[aY _ hT e0]
 cases e1:av (-54000) (fD a0)<;>simp only[e1,eQ] at hT⊢
 ·rw[aY _ hT rfl]
 cases e2:av (fD a0) 54000<;>simp only[e2,eQ] at hT⊢
 ·rw[aY _ hT rfl]
 cases e3:seq a1 [45] with
 |true=>
  simp only[e3,eQ] at hT⊢
  cases ec:ieq (ja a2) 0<;>simp only[ec,eQ] at hT⊢
  ·rw[aY _ hT ec]
  have c0:ja a2=0:=by rw[aN] at ec;exact ec
  rw[gY,lu _ _ _ _ _ _ _ _ _ _ _ _ _ _ (by first|exact hT|(rw[hT];first|rfl|assumption))];simp only[iq,iw,iy,gT,iA,gE,e0,e1,e2,e3,ec,c0,sT,sF,z0,z1,b0,b1];rfl
 |false=>
 cases e4:rD a1 with
 |true=>
  simp only[e3,e4,eQ] at hT⊢
  cases e5:ieq (lT a1) 0<;>simp only[e5,eQ] at hT⊢
  ·rw[aY _ hT e5]
  cases e6:av (-10800) (fD a1)<;>simp only[e6,eQ] at hT⊢
  ·rw[aY _ hT rfl]
  cases e7:av (fD a1) 10800<;>simp only[e7,eQ] at hT⊢
  ·rw[aY _ hT rfl]
  cases ec:ieq (ja a2) 0<;>simp only[ec,eQ] at hT⊢
  ·rw[aY _ hT ec]
  have c0:ja a2=0:=by rw[aN] at ec;exact ec
  rw[gY,lu _ _ _ _ _ _ _ _ _ _ _ _ _ _ (by first|exact hT|(rw[hT];first|rfl|assumption))];simp only[iq,iw,iy,gT,iA,gE,e0,e1,e2,e3,e4,e5,e6,e7,ec,c0,sT,sF,z0,z1,b0,b1];rfl
 |false=>
 simp only[e3,e4,zu h1,eQ] at hT⊢
 cases e5:ieq (dG a1) 0<;>simp only[e5,eQ] at hT⊢
 ·rw[aY _ hT e5]
 have q0:dG a1=0:=by rw[aN] at e5;exact e5
 cases ec:ieq (ja a2) 0<;>simp only[ec,eQ] at hT⊢
 ·rw[aY _ hT ec]
 have c0:ja a2=0:=by rw[aN] at ec;exact ec
 rw[gY,lu _ _ _ _ _ _ _ _ _ _ _ _ _ _ (by first|exact hT|(rw[hT];first|rfl|assumption))];simp only[iq,iw,iy,gT,iA,gE,e0,e1,e2,e3,e4,e5,q0,ec,c0,sT,sF,z0,z1,b0,b1];rfl
set_option maxHeartbeats 2000000 in
theorem adN (a0 a1 a2 a3:af) (h0:av (aA a0) 900=true) (h1:av (aA a1) 900=true) (h2:av (aA a2) 900=true) (h3:av (aA a3) 900=true):aj eE 73 [.sl 9 [.str] none [.str a0,.str a1,.str a2,.str a3]] (My [.str a0,.str a1,.str a2,.str a3]):=by
 refine au jL G8 9 10 ?_
 (rw[Kj];(conv=>zeta))
 have g1:kK [.str a0,.str a1,.str a2,.str a3]=sel (ieq (JM a0) 0) (sel (ieq (Pn a1) 0) (sel (ieq (ja a2) 0) (ze [.str a3]) (ja a2)) (Pn a1)) (JM a0):=rfl;have gY:My [.str a0,.str a1,.str a2,.str a3]=erW [.str a0,.str a1,.str a2,.str a3] (fD a0) (YC a1) (Ar a1) (VX a1) a2 (tq [.str a3]) (yZ [.str a3]) (tu [.str a3]) (y5 [.str a3]) (y7 [.str a3]) (y8 [.str a3]) (y9 [.str a3]) (za [.str a3]):=rfl;have z1:ieq 1 0=false:=rfl;have z0:ieq 0 0=true:=rfl;have b0:aL true=false:=rfl;have b1:aL false=true:=rfl;have r3:rg [.str a3] 0=a3:=rfl;have hl:ay [.str a3]=1:=rfl;simp only[h0,h1,h2,h3,G7,sT];have hT:=g1;simp only[JM,tY,gT,ze,JL,FC,Fz,en0,nU,tq,r3,hl,show ieq 1 0=false from rfl,show aW 1 1=false from rfl,show aW 2 1=false from rfl,show aW 3 1=false from rfl,jD,sT,sF,z0,z1,b0,b1] at hT
 cases e0:ieq (lT a0) 0<;>simp only[e0,eQ] at hT⊢
 ·rw[aY _ hT e0]
 cases e1:av (-54000) (fD a0)<;>simp only[e1,eQ] at hT⊢
 ·rw[aY _ hT rfl]
 cases e2:av (fD a0) 54000<;>simp only[e2,eQ] at hT⊢
 ·rw[aY _ hT rfl]
 cases e3:seq a1 [45] with
 |true=>
  simp only[e3,eQ] at hT⊢
  cases ec:ieq (ja a2) 0<;>simp only[ec,eQ] at hT⊢
  ·rw[aY _ hT ec]
  have c0:ja a2=0:=by rw[aN] at ec;exact ec
  cases en:ieq (nrW a3) 0<;>simp only[en,eQ] at hT⊢
  ·rw[aY _ hT en]
  cases ey:av (iG a3) (-32767)<;>simp only[ey,eQ] at hT⊢
  rotate_left
  ·rw[aY _ hT rfl]
  cases ez:av 32767 (iG a3)<;>simp only[ez,eQ] at hT⊢
  rotate_left
  ·rw[aY _ hT rfl]
  have n0:nrW a3=0:=by rw[aN] at en;exact en
  rw[gY,lu _ _ _ _ _ _ _ _ _ _ _ _ _ _ (by first|exact hT|(rw[hT];first|rfl|assumption))];simp only[iq,iw,iy,gT,iA,yZ,tu,y5,y7,y8,y9,za,rJ,qx,jF,jG,jH,ze,JL,FC,Fz,en0,nU,tq,r3,hl,show ieq 1 0=false from rfl,show aW 1 1=false from rfl,show aW 2 1=false from rfl,show aW 3 1=false from rfl,jD,e0,e1,e2,e3,ec,c0,en,ey,ez,n0,sT,sF,z0,z1,b0,b1]
 |false=>
 cases e4:rD a1 with
 |true=>
  simp only[e3,e4,eQ] at hT⊢
  cases e5:ieq (lT a1) 0<;>simp only[e5,eQ] at hT⊢
  ·rw[aY _ hT e5]
  cases e6:av (-10800) (fD a1)<;>simp only[e6,eQ] at hT⊢
  ·rw[aY _ hT rfl]
  cases e7:av (fD a1) 10800<;>simp only[e7,eQ] at hT⊢
  ·rw[aY _ hT rfl]
  cases ec:ieq (ja a2) 0<;>simp only[ec,eQ] at hT⊢
  ·rw[aY _ hT ec]
  have c0:ja a2=0:=by rw[aN] at ec;exact ec
  cases en:ieq (nrW a3) 0<;>simp only[en,eQ] at hT⊢
  ·rw[aY _ hT en]
  cases ey:av (iG a3) (-32767)<;>simp only[ey,eQ] at hT⊢
  rotate_left
  ·rw[aY _ hT rfl]
  cases ez:av 32767 (iG a3)<;>simp only[ez,eQ] at hT⊢
  rotate_left
  ·rw[aY _ hT rfl]
  have n0:nrW a3=0:=by rw[aN] at en;exact en
  rw[gY,lu _ _ _ _ _ _ _ _ _ _ _ _ _ _ (by first|exact hT|(rw[hT];first|rfl|assumption))];simp only[iq,iw,iy,gT,iA,yZ,tu,y5,y7,y8,y9,za,rJ,qx,jF,jG,jH,ze,JL,FC,Fz,en0,nU,tq,r3,hl,show ieq 1 0=false from rfl,show aW 1 1=false from rfl,show aW 2 1=false from rfl,show aW 3 1=false from rfl,jD,e0,e1,e2,e3,e4,e5,e6,e7,ec,c0,en,ey,ez,n0,sT,sF,z0,z1,b0,b1]
 |false=>
 simp only[e3,e4,zu h1,eQ] at hT⊢
 cases e5:ieq (dG a1) 0<;>simp only[e5,eQ] at hT⊢
 ·rw[aY _ hT e5]
 have q0:dG a1=0:=by rw[aN] at e5;exact e5
 cases ec:ieq (ja a2) 0<;>simp only[ec,eQ] at hT⊢
 ·rw[aY _ hT ec]
 have c0:ja a2=0:=by rw[aN] at ec;exact ec
 cases en:ieq (nrW a3) 0<;>simp only[en,eQ] at hT⊢
 ·rw[aY _ hT en]
 cases ey:av (iG a3) (-32767)<;>simp only[ey,eQ] at hT⊢
 rotate_left
 ·rw[aY _ hT rfl]
 cases ez:av 32767 (iG a3)<;>simp only[ez,eQ] at hT⊢
 rotate_left
 ·rw[aY _ hT rfl]
 have n0:nrW a3=0:=by rw[aN] at en;exact en
 rw[gY,lu _ _ _ _ _ _ _ _ _ _ _ _ _ _ (by first|exact hT|(rw[hT];first|rfl|assumption))];simp only[iq,iw,iy,gT,iA,yZ,tu,y5,y7,y8,y9,za,rJ,qx,jF,jG,jH,ze,JL,FC,Fz,en0,nU,tq,r3,hl,show ieq 1 0=false from rfl,show aW 1 1=false from rfl,show aW 2 1=false from rfl,show aW 3 1=false from rfl,jD,e0,e1,e2,e3,e4,e5,q0,ec,c0,en,ey,ez,n0,sT,sF,z0,z1,b0,b1]
set_option maxHeartbeats 2000000 in
theorem adO (a0 a1 a2 a3 a4:af) (h0:av (aA a0) 900=true) (h1:av (aA a1) 900=true) (h2:av (aA a2) 900=true) (h3:av (aA a3) 900=true) (h4:av (aA a4) 900=true):aj eE 73 [.sl 9 [.str] none [.str a0,.str a1,.str a2,.str a3,.str a4]] (My [.str a0,.str a1,.str a2,.str a3,.str a4]):=by
 refine au jL G8 9 10 ?_
 (rw[Kk];(conv=>zeta))
 have g1:kK [.str a0,.str a1,.str a2,.str a3,.str a4]=sel (ieq (JM a0) 0) (sel (ieq (Pn a1) 0) (sel (ieq (ja a2) 0) (ze [.str a3,.str a4]) (ja a2)) (Pn a1)) (JM a0):=rfl;have gY:My [.str a0,.str a1,.str a2,.str a3,.str a4]=erW [.str a0,.str a1,.str a2,.str a3,.str a4] (fD a0) (YC a1) (Ar a1) (VX a1) a2 (tq [.str a3,.str a4]) (yZ [.str a3,.str a4]) (tu [.str a3,.str a4]) (y5 [.str a3,.str a4]) (y7 [.str a3,.str a4]) (y8 [.str a3,.str a4]) (y9 [.str a3,.str a4]) (za [.str a3,.str a4]):=rfl;have z1:ieq 1 0=false:=rfl;have z0:ieq 0 0=true:=rfl;have b0:aL true=false:=rfl;have b1:aL false=true:=rfl;have r3:rg [.str a3,.str a4] 0=a3:=rfl;have r4:rg [.str a3,.str a4] 1=a4:=rfl;have hl:ay [.str a3,.str a4]=2:=rfl;simp only[h0,h1,h2,h3,h4,G7,sT];have hT:=g1;simp only[JM,tY,gT,ze,JL,FC,Fz,en0,nU,tq,r3,r4,hl,show ieq 2 0=false from rfl,show aW 1 2=true from rfl,show aW 2 2=false from rfl,show aW 3 2=false from rfl,jD,sT,sF,z0,z1,b0,b1] at hT
 cases e0:ieq (lT a0) 0<;>simp only[e0,eQ] at hT⊢
 ·rw[aY _ hT e0]
 cases e1:av (-54000) (fD a0)<;>simp only[e1,eQ] at hT⊢
 ·rw[aY _ hT rfl]
 cases e2:av (fD a0) 54000<;>simp only[e2,eQ] at hT⊢
 ·rw[aY _ hT rfl]
 cases e3:seq a1 [45] with
 |true=>
  simp only[e3,eQ] at hT⊢
  cases ec:ieq (ja a2) 0<;>simp only[ec,eQ] at hT⊢
  ·rw[aY _ hT ec]
  have c0:ja a2=0:=by rw[aN] at ec;exact ec
  cases en:ieq (nrW a3) 0<;>simp only[en,eQ] at hT⊢
  ·rw[aY _ hT en]
  cases ey:av (iG a3) (-32767)<;>simp only[ey,eQ] at hT⊢
  rotate_left
  ·rw[aY _ hT rfl]
  cases ez:av 32767 (iG a3)<;>simp only[ez,eQ] at hT⊢
  rotate_left
  ·rw[aY _ hT rfl]
  cases em:ieq (qj a4) 0<;>simp only[em,eQ] at hT⊢
  ·rw[aY _ hT em]
  have m0:qj a4=0:=by rw[aN] at em;exact em
  have n0:nrW a3=0:=by rw[aN] at en;exact en
  rw[gY,lu _ _ _ _ _ _ _ _ _ _ _ _ _ _ (by first|exact hT|(rw[hT];first|rfl|assumption))];simp only[iq,iw,iy,gT,iA,yZ,tu,y5,y7,y8,y9,za,rJ,qx,jF,jG,jH,ze,JL,FC,Fz,en0,nU,tq,r3,r4,hl,show ieq 2 0=false from rfl,show aW 1 2=true from rfl,show aW 2 2=false from rfl,show aW 3 2=false from rfl,jD,e0,e1,e2,e3,ec,c0,en,ey,ez,em,m0,n0,sT,sF,z0,z1,b0,b1]
 |false=>
 cases e4:rD a1 with
 |true=>
  simp only[e3,e4,eQ] at hT⊢
  cases e5:ieq (lT a1) 0<;>simp only[e5,eQ] at hT⊢
  ·rw[aY _ hT e5]
  cases e6:av (-10800) (fD a1)<;>simp only[e6,eQ] at hT⊢
  ·rw[aY _ hT rfl]
  cases e7:av (fD a1) 10800<;>simp only[e7,eQ] at hT⊢
  ·rw[aY _ hT rfl]
  cases ec:ieq (ja a2) 0<;>simp only[ec,eQ] at hT⊢
  ·rw[aY _ hT ec]
  have c0:ja a2=0:=by rw[aN] at ec;exact ec
  cases en:ieq (nrW a3) 0<;>simp only[en,eQ] at hT⊢
  ·rw[aY _ hT en]
  cases ey:av (iG a3) (-32767)<;>simp only[ey,eQ] at hT⊢
  rotate_left
  ·rw[aY _ hT rfl]
  cases ez:av 32767 (iG a3)<;>simp only[ez,eQ] at hT⊢
  rotate_left
  ·rw[aY _ hT rfl]
  cases em:ieq (qj a4) 0<;>simp only[em,eQ] at hT⊢
  ·rw[aY _ hT em]
  have m0:qj a4=0:=by rw[aN] at em;exact em
  have n0:nrW a3=0:=by rw[aN] at en;exact en
  rw[gY,lu _ _ _ _ _ _ _ _ _ _ _ _ _ _ (by first|exact hT|(rw[hT];first|rfl|assumption))];simp only[iq,iw,iy,gT,iA,yZ,tu,y5,y7,y8,y9,za,rJ,qx,jF,jG,jH,ze,JL,FC,Fz,en0,nU,tq,r3,r4,hl,show ieq 2 0=false from rfl,show aW 1 2=true from rfl,show aW 2 2=false from rfl,show aW 3 2=false from rfl,jD,e0,e1,e2,e3,e4,e5,e6,e7,ec,c0,en,ey,ez,em,m0,n0,sT,sF,z0,z1,b0,b1]
 |false=>
 simp only[e3,e4,zu h1,eQ] at hT⊢
 cases e5:ieq (dG a1) 0<;>simp only[e5,eQ] at hT⊢
 ·rw[aY _ hT e5]
 have q0:dG a1=0:=by rw[aN] at e5;exact e5
 cases ec:ieq (ja a2) 0<;>simp only[ec,eQ] at hT⊢
 ·rw[aY _ hT ec]
 have c0:ja a2=0:=by rw[aN] at ec;exact ec
 cases en:ieq (nrW a3) 0<;>simp only[en,eQ] at hT⊢
 ·rw[aY _ hT en]
 cases ey:av (iG a3) (-32767)<;>simp only[ey,eQ] at hT⊢
 rotate_left
 ·rw[aY _ hT rfl]
 cases ez:av 32767 (iG a3)<;>simp only[ez,eQ] at hT⊢
 rotate_left
 ·rw[aY _ hT rfl]
 cases em:ieq (qj a4) 0<;>simp only[em,eQ] at hT⊢
 ·rw[aY _ hT em]
 have m0:qj a4=0:=by rw[aN] at em;exact em
 have n0:nrW a3=0:=by rw[aN] at en;exact en
 rw[gY,lu _ _ _ _ _ _ _ _ _ _ _ _ _ _ (by first|exact hT|(rw[hT];first|rfl|assumption))];simp only[iq,iw,iy,gT,iA,yZ,tu,y5,y7,y8,y9,za,rJ,qx,jF,jG,jH,ze,JL,FC,Fz,en0,nU,tq,r3,r4,hl,show ieq 2 0=false from rfl,show aW 1 2=true from rfl,show aW 2 2=false from rfl,show aW 3 2=false from rfl,jD,e0,e1,e2,e3,e4,e5,q0,ec,c0,en,ey,ez,em,m0,n0,sT,sF,z0,z1,b0,b1]
set_option maxHeartbeats 2000000 in
theorem adP (a0 a1 a2 a3 a4 a5:af) (h0:av (aA a0) 900=true) (h1:av (aA a1) 900=true) (h2:av (aA a2) 900=true) (h3:av (aA a3) 900=true) (h4:av (aA a4) 900=true) (h5:av (aA a5) 900=true):aj eE 73 [.sl 9 [.str] none [.str a0,.str a1,.str a2,.str a3,.str a4,.str a5]] (My [.str a0,.str a1,.str a2,.str a3,.str a4,.str a5]):=by
 refine au jL G8 9 10 ?_
 (rw[Kl];(conv=>zeta))
 have g1:kK [.str a0,.str a1,.str a2,.str a3,.str a4,.str a5]=sel (ieq (JM a0) 0) (sel (ieq (Pn a1) 0) (sel (ieq (ja a2) 0) (ze [.str a3,.str a4,.str a5]) (ja a2)) (Pn a1)) (JM a0):=rfl;have gY:My [.str a0,.str a1,.str a2,.str a3,.str a4,.str a5]=erW [.str a0,.str a1,.str a2,.str a3,.str a4,.str a5] (fD a0) (YC a1) (Ar a1) (VX a1) a2 (tq [.str a3,.str a4,.str a5]) (yZ [.str a3,.str a4,.str a5]) (tu [.str a3,.str a4,.str a5]) (y5 [.str a3,.str a4,.str a5]) (y7 [.str a3,.str a4,.str a5]) (y8 [.str a3,.str a4,.str a5]) (y9 [.str a3,.str a4,.str a5]) (za [.str a3,.str a4,.str a5]):=rfl;have z1:ieq 1 0=false:=rfl;have z0:ieq 0 0=true:=rfl;have b0:aL true=false:=rfl;have b1:aL false=true:=rfl;have r3:rg [.str a3,.str a4,.str a5] 0=a3:=rfl;have r4:rg [.str a3,.str a4,.str a5] 1=a4:=rfl;have r5:rg [.str a3,.str a4,.str a5] 2=a5:=rfl;have hl:ay [.str a3,.str a4,.str a5]=3:=rfl;simp only[h0,h1,h2,h3,h4,h5,G7,sT];have hT:=g1;simp only[JM,tY,gT,ze,JL,FC,Fz,en0,nU,tq,r3,r4,r5,hl,show ieq 3 0=false from rfl,show aW 1 3=true from rfl,show aW 2 3=true from rfl,show aW 3 3=false from rfl,jD,sT,sF,z0,z1,b0,b1] at hT
 cases e0:ieq (lT a0) 0<;>simp only[e0,eQ] at hT⊢
 ·rw[aY _ hT e0]
 cases e1:av (-54000) (fD a0)<;>simp only[e1,eQ] at hT⊢
 ·rw[aY _ hT rfl]
 cases e2:av (fD a0) 54000<;>simp only[e2,eQ] at hT⊢
 ·rw[aY _ hT rfl]
 cases e3:seq a1 [45] with
 |true=>
  simp only[e3,eQ] at hT⊢
  cases ec:ieq (ja a2) 0<;>simp only[ec,eQ] at hT⊢
  ·rw[aY _ hT ec]
  have c0:ja a2=0:=by rw[aN] at ec;exact ec
  cases en:ieq (nrW a3) 0<;>simp only[en,eQ] at hT⊢
  ·rw[aY _ hT en]
  cases ey:av (iG a3) (-32767)<;>simp only[ey,eQ] at hT⊢
  rotate_left
  ·rw[aY _ hT rfl]
  cases ez:av 32767 (iG a3)<;>simp only[ez,eQ] at hT⊢
  rotate_left
  ·rw[aY _ hT rfl]
  cases em:ieq (qj a4) 0<;>simp only[em,eQ] at hT⊢
  ·rw[aY _ hT em]
  cases ed:ieq (sZ a5) 0<;>simp only[ed,eQ] at hT⊢
  ·rw[aY _ hT ed]
  cases ef:oQ (rz a5) (iL a5) (rA a5) (u7 a4)<;>simp only[ef,eQ] at hT⊢
  ·rw[aY _ hT rfl]
  have m0:qj a4=0:=by rw[aN] at em;exact em
  have n0:nrW a3=0:=by rw[aN] at en;exact en
  rw[gY,lu _ _ _ _ _ _ _ _ _ _ _ _ _ _ (by first|exact hT|(rw[hT];first|rfl|assumption))];simp only[iq,iw,iy,gT,iA,yZ,tu,y5,y7,y8,y9,za,rJ,qx,jF,jG,jH,ze,JL,FC,Fz,en0,nU,tq,r3,r4,r5,hl,show ieq 3 0=false from rfl,show aW 1 3=true from rfl,show aW 2 3=true from rfl,show aW 3 3=false from rfl,jD,e0,e1,e2,e3,ec,c0,en,ey,ez,em,ed,ef,m0,n0,sT,sF,z0,z1,b0,b1]
 |false=>
 cases e4:rD a1 with
 |true=>
  simp only[e3,e4,eQ] at hT⊢
  cases e5:ieq (lT a1) 0<;>simp only[e5,eQ] at hT⊢
  ·rw[aY _ hT e5]
  cases e6:av (-10800) (fD a1)<;>simp only[e6,eQ] at hT⊢
  ·rw[aY _ hT rfl]
  cases e7:av (fD a1) 10800<;>simp only[e7,eQ] at hT⊢
  ·rw[aY _ hT rfl]
  cases ec:ieq (ja a2) 0<;>simp only[ec,eQ] at hT⊢
  ·rw[aY _ hT ec]
  have c0:ja a2=0:=by rw[aN] at ec;exact ec
  cases en:ieq (nrW a3) 0<;>simp only[en,eQ] at hT⊢
  ·rw[aY _ hT en]
  cases ey:av (iG a3) (-32767)<;>simp only[ey,eQ] at hT⊢
  rotate_left
  ·rw[aY _ hT rfl]
  cases ez:av 32767 (iG a3)<;>simp only[ez,eQ] at hT⊢
  rotate_left
  ·rw[aY _ hT rfl]
  cases em:ieq (qj a4) 0<;>simp only[em,eQ] at hT⊢
  ·rw[aY _ hT em]
  cases ed:ieq (sZ a5) 0<;>simp only[ed,eQ] at hT⊢
  ·rw[aY _ hT ed]
  cases ef:oQ (rz a5) (iL a5) (rA a5) (u7 a4)<;>simp only[ef,eQ] at hT⊢
  ·rw[aY _ hT rfl]
  have m0:qj a4=0:=by rw[aN] at em;exact em
  have n0:nrW a3=0:=by rw[aN] at en;exact en
  rw[gY,lu _ _ _ _ _ _ _ _ _ _ _ _ _ _ (by first|exact hT|(rw[hT];first|rfl|assumption))];simp only[iq,iw,iy,gT,iA,yZ,tu,y5,y7,y8,y9,za,rJ,qx,jF,jG,jH,ze,JL,FC,Fz,en0,nU,tq,r3,r4,r5,hl,show ieq 3 0=false from rfl,show aW 1 3=true from rfl,show aW 2 3=true from rfl,show aW 3 3=false from rfl,jD,e0,e1,e2,e3,e4,e5,e6,e7,ec,c0,en,ey,ez,em,ed,ef,m0,n0,sT,sF,z0,z1,b0,b1]
 |false=>
 simp only[e3,e4,zu h1,eQ] at hT⊢
 cases e5:ieq (dG a1) 0<;>simp only[e5,eQ] at hT⊢
 ·rw[aY _ hT e5]
 have q0:dG a1=0:=by rw[aN] at e5;exact e5
 cases ec:ieq (ja a2) 0<;>simp only[ec,eQ] at hT⊢
 ·rw[aY _ hT ec]
 have c0:ja a2=0:=by rw[aN] at ec;exact ec
 cases en:ieq (nrW a3) 0<;>simp only[en,eQ] at hT⊢
 ·rw[aY _ hT en]
 cases ey:av (iG a3) (-32767)<;>simp only[ey,eQ] at hT⊢
 rotate_left
 ·rw[aY _ hT rfl]
 cases ez:av 32767 (iG a3)<;>simp only[ez,eQ] at hT⊢
 rotate_left
 ·rw[aY _ hT rfl]
 cases em:ieq (qj a4) 0<;>simp only[em,eQ] at hT⊢
 ·rw[aY _ hT em]
 cases ed:ieq (sZ a5) 0<;>simp only[ed,eQ] at hT⊢
 ·rw[aY _ hT ed]
 cases ef:oQ (rz a5) (iL a5) (rA a5) (u7 a4)<;>simp only[ef,eQ] at hT⊢
 ·rw[aY _ hT rfl]
 have m0:qj a4=0:=by rw[aN] at em;exact em
 have n0:nrW a3=0:=by rw[aN] at en;exact en
 rw[gY,lu _ _ _ _ _ _ _ _ _ _ _ _ _ _ (by first|exact hT|(rw[hT];first|rfl|assumption))];simp only[iq,iw,iy,gT,iA,yZ,tu,y5,y7,y8,y9,za,rJ,qx,jF,jG,jH,ze,JL,FC,Fz,en0,nU,tq,r3,r4,r5,hl,show ieq 3 0=false from rfl,show aW 1 3=true from rfl,show aW 2 3=true from rfl,show aW 3 3=false from rfl,jD,e0,e1,e2,e3,e4,e5,q0,ec,c0,en,ey,ez,em,ed,ef,m0,n0,sT,sF,z0,z1,b0,b1]
set_option maxHeartbeats 2000000 in
theorem adQ (a0 a1 a2 a3 a4 a5 a6:af) (h0:av (aA a0) 900=true) (h1:av (aA a1) 900=true) (h2:av (aA a2) 900=true) (h3:av (aA a3) 900=true) (h4:av (aA a4) 900=true) (h5:av (aA a5) 900=true) (h6:av (aA a6) 900=true):aj eE 73 [.sl 9 [.str] none [.str a0,.str a1,.str a2,.str a3,.str a4,.str a5,.str a6]] (My [.str a0,.str a1,.str a2,.str a3,.str a4,.str a5,.str a6]):=by
 refine au jL G8 9 10 ?_
 (rw[Km];(conv=>zeta))
 have g1:kK [.str a0,.str a1,.str a2,.str a3,.str a4,.str a5,.str a6]=sel (ieq (JM a0) 0) (sel (ieq (Pn a1) 0) (sel (ieq (ja a2) 0) (ze [.str a3,.str a4,.str a5,.str a6]) (ja a2)) (Pn a1)) (JM a0):=rfl;have gY:My [.str a0,.str a1,.str a2,.str a3,.str a4,.str a5,.str a6]=erW [.str a0,.str a1,.str a2,.str a3,.str a4,.str a5,.str a6] (fD a0) (YC a1) (Ar a1) (VX a1) a2 (tq [.str a3,.str a4,.str a5,.str a6]) (yZ [.str a3,.str a4,.str a5,.str a6]) (tu [.str a3,.str a4,.str a5,.str a6]) (y5 [.str a3,.str a4,.str a5,.str a6]) (y7 [.str a3,.str a4,.str a5,.str a6]) (y8 [.str a3,.str a4,.str a5,.str a6]) (y9 [.str a3,.str a4,.str a5,.str a6]) (za [.str a3,.str a4,.str a5,.str a6]):=rfl;have z1:ieq 1 0=false:=rfl;have z0:ieq 0 0=true:=rfl;have b0:aL true=false:=rfl;have b1:aL false=true:=rfl;have r3:rg [.str a3,.str a4,.str a5,.str a6] 0=a3:=rfl;have r4:rg [.str a3,.str a4,.str a5,.str a6] 1=a4:=rfl;have r5:rg [.str a3,.str a4,.str a5,.str a6] 2=a5:=rfl;have r6:rg [.str a3,.str a4,.str a5,.str a6] 3=a6:=rfl;have hl:ay [.str a3,.str a4,.str a5,.str a6]=4:=rfl;simp only[h0,h1,h2,h3,h4,h5,h6,G7,sT];have hT:=g1;simp only[JM,tY,gT,ze,JL,FC,Fz,en0,nU,tq,r3,r4,r5,r6,hl,show ieq 4 0=false from rfl,show aW 1 4=true from rfl,show aW 2 4=true from rfl,show aW 3 4=true from rfl,jD,sT,sF,z0,z1,b0,b1] at hT
 cases e0:ieq (lT a0) 0<;>simp only[e0,eQ] at hT⊢
 ·rw[aY _ hT e0]
 cases e1:av (-54000) (fD a0)<;>simp only[e1,eQ] at hT⊢
 ·rw[aY _ hT rfl]
 cases e2:av (fD a0) 54000<;>simp only[e2,eQ] at hT⊢
 ·rw[aY _ hT rfl]
 cases e3:seq a1 [45] with
 |true=>
  simp only[e3,eQ] at hT⊢
  cases ec:ieq (ja a2) 0<;>simp only[ec,eQ] at hT⊢
  ·rw[aY _ hT ec]
  have c0:ja a2=0:=by rw[aN] at ec;exact ec
  cases en:ieq (nrW a3) 0<;>simp only[en,eQ] at hT⊢
  ·rw[aY _ hT en]
  cases ey:av (iG a3) (-32767)<;>simp only[ey,eQ] at hT⊢
  rotate_left
  ·rw[aY _ hT rfl]
  cases ez:av 32767 (iG a3)<;>simp only[ez,eQ] at hT⊢
  rotate_left
  ·rw[aY _ hT rfl]
  cases em:ieq (qj a4) 0<;>simp only[em,eQ] at hT⊢
  ·rw[aY _ hT em]
  cases ed:ieq (sZ a5) 0<;>simp only[ed,eQ] at hT⊢
  ·rw[aY _ hT ed]
  cases ef:oQ (rz a5) (iL a5) (rA a5) (u7 a4)<;>simp only[ef,eQ] at hT⊢
  ·rw[aY _ hT rfl]
  cases ek:ieq (yY a6) 0<;>simp only[ek,eQ] at hT⊢
  ·rw[aY _ hT ek]
  have k0:yY a6=0:=by rw[aN] at ek;exact ek
  have m0:qj a4=0:=by rw[aN] at em;exact em
  have n0:nrW a3=0:=by rw[aN] at en;exact en
  rw[gY,lu _ _ _ _ _ _ _ _ _ _ _ _ _ _ (by first|exact hT|(rw[hT];first|rfl|assumption))];simp only[iq,iw,iy,gT,iA,yZ,tu,y5,y7,y8,y9,za,rJ,qx,jF,jG,jH,ze,JL,FC,Fz,en0,nU,tq,r3,r4,r5,r6,hl,show ieq 4 0=false from rfl,show aW 1 4=true from rfl,show aW 2 4=true from rfl,show aW 3 4=true from rfl,jD,e0,e1,e2,e3,ec,c0,en,ey,ez,em,ed,ef,ek,k0,m0,n0,sT,sF,z0,z1,b0,b1]
 |false=>
 cases e4:rD a1 with
 |true=>
  simp only[e3,e4,eQ] at hT⊢
  cases e5:ieq (lT a1) 0<;>simp only[e5,eQ] at hT⊢
  ·rw[aY _ hT e5]
  cases e6:av (-10800) (fD a1)<;>simp only[e6,eQ] at hT⊢
  ·rw[aY _ hT rfl]
  cases e7:av (fD a1) 10800<;>simp only[e7,eQ] at hT⊢
  ·rw[aY _ hT rfl]
  cases ec:ieq (ja a2) 0<;>simp only[ec,eQ] at hT⊢
  ·rw[aY _ hT ec]
  have c0:ja a2=0:=by rw[aN] at ec;exact ec
  cases en:ieq (nrW a3) 0<;>simp only[en,eQ] at hT⊢
  ·rw[aY _ hT en]
  cases ey:av (iG a3) (-32767)<;>simp only[ey,eQ] at hT⊢
  rotate_left
  ·rw[aY _ hT rfl]
  cases ez:av 32767 (iG a3)<;>simp only[ez,eQ] at hT⊢
  rotate_left
  ·rw[aY _ hT rfl]
  cases em:ieq (qj a4) 0<;>simp only[em,eQ] at hT⊢
  ·rw[aY _ hT em]
  cases ed:ieq (sZ a5) 0<;>simp only[ed,eQ] at hT⊢
  ·rw[aY _ hT ed]
  cases ef:oQ (rz a5) (iL a5) (rA a5) (u7 a4)<;>simp only[ef,eQ] at hT⊢
  ·rw[aY _ hT rfl]
  cases ek:ieq (yY a6) 0<;>simp only[ek,eQ] at hT⊢
  ·rw[aY _ hT ek]
  have k0:yY a6=0:=by rw[aN] at ek;exact ek
  have m0:qj a4=0:=by rw[aN] at em;exact em
  have n0:nrW a3=0:=by rw[aN] at en;exact en
  rw[gY,lu _ _ _ _ _ _ _ _ _ _ _ _ _ _ (by first|exact hT|(rw[hT];first|rfl|assumption))];simp only[iq,iw,iy,gT,iA,yZ,tu,y5,y7,y8,y9,za,rJ,qx,jF,jG,jH,ze,JL,FC,Fz,en0,nU,tq,r3,r4,r5,r6,hl,show ieq 4 0=false from rfl,show aW 1 4=true from rfl,show aW 2 4=true from rfl,show aW 3 4=true from rfl,jD,e0,e1,e2,e3,e4,e5,e6,e7,ec,c0,en,ey,ez,em,ed,ef,ek,k0,m0,n0,sT,sF,z0,z1,b0,b1]
 |false=>
 simp only[e3,e4,zu h1,eQ] at hT⊢
 cases e5:ieq (dG a1) 0<;>simp only[e5,eQ] at hT⊢
 ·rw[aY _ hT e5]
 have q0:dG a1=0:=by rw[aN] at e5;exact e5
 cases ec:ieq (ja a2) 0<;>simp only[ec,eQ] at hT⊢
 ·rw[aY _ hT ec]
 have c0:ja a2=0:=by rw[aN] at ec;exact ec
 cases en:ieq (nrW a3) 0<;>simp only[en,eQ] at hT⊢
 ·rw[aY _ hT en]
 cases ey:av (iG a3) (-32767)<;>simp only[ey,eQ] at hT⊢
 rotate_left
 ·rw[aY _ hT rfl]
 cases ez:av 32767 (iG a3)<;>simp only[ez,eQ] at hT⊢
 rotate_left
 ·rw[aY _ hT rfl]
 cases em:ieq (qj a4) 0<;>simp only[em,eQ] at hT⊢
 ·rw[aY _ hT em]
 cases ed:ieq (sZ a5) 0<;>simp only[ed,eQ] at hT⊢
 ·rw[aY _ hT ed]
 cases ef:oQ (rz a5) (iL a5) (rA a5) (u7 a4)<;>simp only[ef,eQ] at hT⊢
 ·rw[aY _ hT rfl]
 cases ek:ieq (yY a6) 0<;>simp only[ek,eQ] at hT⊢
 ·rw[aY _ hT ek]
 have k0:yY a6=0:=by rw[aN] at ek;exact ek
 have m0:qj a4=0:=by rw[aN] at em;exact em
 have n0:nrW a3=0:=by rw[aN] at en;exact en
 rw[gY,lu _ _ _ _ _ _ _ _ _ _ _ _ _ _ (by first|exact hT|(rw[hT];first|rfl|assumption))];simp only[iq,iw,iy,gT,iA,yZ,tu,y5,y7,y8,y9,za,rJ,qx,jF,jG,jH,ze,JL,FC,Fz,en0,nU,tq,r3,r4,r5,r6,hl,show ieq 4 0=false from rfl,show aW 1 4=true from rfl,show aW 2 4=true from rfl,show aW 3 4=true from rfl,jD,e0,e1,e2,e3,e4,e5,q0,ec,c0,en,ey,ez,em,ed,ef,ek,k0,m0,n0,sT,sF,z0,z1,b0,b1]
theorem VB (xs:ah) (h:gN xs=true):aj eE 73 [.sl 9 [.str] none xs] (My xs):=by
 by_cases b:ay xs<3
 ·refine au jL eSn_ok 5 10 ?_
  rw[Md,ax (by first|exact bH b|(rw[bW,aB];omega)),aY xs (e:=5) (by unfold kK;rw[bH b];rfl) rfl]
 by_cases i:7<ay xs
 ·refine au jL eSn_ok 5 10 ?_
  rw[Md,aK (by first|exact bF (by omega)|(rw[bg (show 3≤ay xs by omega)];rfl)),ax (by first|exact bH i|(rw[bW,aB];omega)),aY xs (e:=6) (by unfold kK;rw[bF (by omega),bH i];rfl) rfl]
 obtain⟨l,rfl,a⟩:=xG xs h;rw[aD,kJ] at b i;match l,b,i,a with
 |[],b,_,_=>exact absurd b (by simp)
 |[_],b,_,_=>exact absurd b (by simp)
 |[_,_],b,_,_=>exact absurd b (by simp)
 |[c,d,f],_,_,a=>exact adM c d f (a _ (by simp)) (a _ (by simp)) (a _ (by simp))
 |[c,d,f,g],_,_,a=>exact adN c d f g (a _ (by simp)) (a _ (by simp)) (a _ (by simp)) (a _ (by simp))
 |[c,d,f,g,j],_,_,a=>exact adO c d f g j (a _ (by simp)) (a _ (by simp)) (a _ (by simp)) (a _ (by simp)) (a _ (by simp))
 |[c,d,f,g,j,k],_,_,a=>exact adP c d f g j k (a _ (by simp)) (a _ (by simp)) (a _ (by simp)) (a _ (by simp)) (a _ (by simp)) (a _ (by simp))
 |[c,d,f,g,j,k,m],_,_,a=>exact adQ c d f g j k m (a _ (by simp)) (a _ (by simp)) (a _ (by simp)) (a _ (by simp)) (a _ (by simp)) (a _ (by simp)) (a _ (by simp))
 |_::_::_::_::_::_::_::_::_,_,i,_=>exact absurd i (by simp;omega)
def enR (h:Bool) (y m ok d a c b:Int):Bool:=sel h (aW (-32767) y&&(aW y 32767&&(oQ ok d a m&&dJ c b))) (ak (ieq y 0) (ak (ieq m 0) (ak (ak (ieq ok 0) (ak (ieq d 0) (ieq a 0))) (ak (ieq c 0) (ieq b 0)))))
def Gj (o k v:Int) (r q:af) (h:Bool) (y m ok d a c b:Int):Bool:=av (-54000) o&&(av o 54000&&(ieq (ja q) 0&&(enR h y m ok d a c b&&sel (ieq k 0) (ieq v 0&&seq r []) (sel (ieq k 1) (av (-10800) v&&(av v 10800&&seq r [])) (sel (ieq k 2) (ieq v 0&&ieq (dG r) 0) false)))))
noncomputable def eRightS:aC:=fun a=>match a with|[.agg [.int .i64 o,.int .i64 k,.int .i64 v,.str r,.str q,.bool h,.int .i64 y,.int .i64 m,.int .i64 ok,.int .i64 ow,.int .i64 od,.int .i64 c,.int .i64 b]]=>some (ak (av (aA r) 900) (av (aA q) 900),.bool (Gj o k v r q h y m ok ow od c b))|_=>none
theorem wM {E:Env} {f:Nat} {args:ah} {e:Nat} {sh:List Kd} {L:Nat} {xs:ah} {y:V} (h:aj E f args (.tup [.sl e sh (some L) xs,y])):aj E f args (.tup [.sl e sh none xs,y]):=by
 intro G w vs g i m;refine(h G w vs g i m).mono ?_;rintro t w' ⟨v,G',rfl,q,a,rfl,c,s⟩;refine⟨_,G',rfl,q,a,rfl,?_,?_⟩
 ·match a,c with
  |[],c=>exact absurd c.1 (by simp)
  |u::us,c=>
   refine .cons ?_ c.tail;have j:=c.head;show aV G' _ _;refine nK ?_;rcases j.2 with⟨o,p⟩|⟨b,cap,k,l,r,_,_,d,_,_,g,n,hE⟩
   ·exact .inl ⟨o,p⟩
   exact .inr ⟨b,cap,l,r,d,g,n,hE⟩
 simp only[abD,List.countP_nil,tJ] at s⊢;split<;>simp
theorem Ch {E:Env} {S:List (Nat×aC)} {f:Nat} {args:ah} {e:Nat} {sh:List Kd} {L:Nat} {xs:ah} {y:V} (hE:uL E) (a:bf E S) (fuel d:Nat)
  (h:bA E (bu E S fuel d) fuel f args some=some (.tup [.sl e sh (some L) xs,y])∨bA E (bu E S fuel d) fuel f args some=some (.tup [.sl e sh none xs,y])):aj E f args (.tup [.sl e sh none xs,y]):=
 h.elim (fun h=>wM (au hE a fuel d h)) (fun h=>au hE a fuel d h)
def TK (k v:Int) (r:af):af:=sel (ieq k 0) [45] (sel (ieq k 1) (Ag v) r)
def Kv (h:Bool) (y m ok d a c b:Int):ah:=sel h (sel (ak (ieq c 0) (ieq b 0)) (sel (ak (ieq ok 0) (ak (ieq d 0) (ieq a 1))) (sel (ieq m 1) [.str (text y)] [.str (text y),.str (ql m)]) [.str (text y),.str (ql m),.str (fF ok d a)]) [.str (text y),.str (ql m),.str (fF ok d a),.str (Af c b)]) []
def Po (o k v:Int) (r q:af) (h:Bool) (y m ok d a c b:Int):ah:=.str (Ag o)::.str (TK k v r)::.str q::Kv h y m ok d a c b
def efV (o k v:Int) (r q:af) (h:Bool) (y m ok d a c b:Int):ah:=sel (Gj o k v r q h y m ok d a c b) (Po o k v r q h y m ok d a c b) []
def efE (o k v:Int) (r q:af) (h:Bool) (y m ok d a c b:Int):Int:=sel (Gj o k v r q h y m ok d a c b) 0 4
theorem erR_k (o k v:Int) (r q:af) (h:Bool) (y m ok g i c b:Int) (a:Gj o k v r q h y m ok g i c b=true):k=0∨k=1∨k=2:=by
 unfold Gj at a;simp only[bC] at a;obtain⟨_,_,_,_,h⟩:=a;by_cases e:k=0
 ·exact .inl e
 by_cases f:k=1
 ·exact .inr (.inl f)
 by_cases d:k=2
 ·exact .inr (.inr d)
 rw[bD e,bD f,bD d] at h
 cases h
theorem ftB_mm {k w d m:Int} (h:oQ k w d m=true):1≤m∧m≤12:=by unfold oQ at h;rw[bC,lG] at h;exact⟨h.2.1,h.2.2.1⟩
theorem le_dec {a b:Int} (h:decide (a≤b)=true):a≤b:=Fw h
theorem num_head {c:UInt8} {t:af} (h:isDigit c=true):rD (c::t)=true:=by
 unfold isDigit at h
 cases t with
 |nil=>exact h
 |cons d t=>show((decide (48≤c.toNat)&&decide (c.toNat≤57))||_)=true;rw[h];rfl
theorem num_neg {d:UInt8} {t:af} (h:isDigit d=true):rD (45::d::t)=true:=by unfold isDigit at h;show((decide (48≤(45:UInt8).toNat)&&decide ((45:UInt8).toNat≤57))||((45:UInt8)==45&&(decide (48≤d.toNat)&&decide (d.toNat≤57))))=true;rw[h];rfl
theorem Me (k:Nat) (h:k≤604799): ∃c t,qp k=c::t∧isDigit c=true:=by obtain⟨c,t,e,_⟩:=Ip k h;have a:=(xg k h).1;unfold aQ.ok at a;rw[bC,bC] at a;have:=List.all_eq_true.1 a.2 c (by rw[e];exact .head _);exact⟨c,t++([58]++aQ.two (k/60%60))++KN k,by rw[w9,e];rfl,this⟩
theorem am_num (v:Int) (j: -604799≤v) (i:v≤604799):rD (Ag v)=true∧seq (Ag v) [45]=false:=by
 have a: ∀s:af,s≠[45]→seq s [45]=false:=fun s f=>by
  cases e:seq s [45] with
  |false=>rfl
  |true=>rw[cK] at e;exact absurd e f
 unfold Ag;by_cases d:v=0
 ·subst d;exact⟨rfl,rfl⟩
 by_cases g:0<v
 ·obtain⟨k,rfl⟩: ∃k:Nat,v=(k:Int):=⟨v.toNat,by omega⟩
  obtain⟨c,t,e,b⟩:=Me k (by omega);rw[Be k (by omega) (by omega)];show rD (qp k)=true∧seq (qp k) [45]=false;rw[e];refine⟨num_head b,a _ fun h=>?_⟩;simp only[Pf] at h;rw[h.1] at b;exact absurd b (by decide)
 obtain⟨k,rfl⟩: ∃k:Nat,v= -(k:Int):=⟨v.natAbs,by omega⟩
 obtain⟨c,t,e,b⟩:=Me k (by omega);rw[N8 k (by omega) (by omega)];show rD ([45]++qp k)=true∧seq ([45]++qp k) [45]=false;rw[e];exact⟨num_neg b,a _ fun h=>by simp at h⟩
theorem nm_num (r:af) (h:dG r=0):rD r=false∧seq r [45]=false:=by
 unfold dG at h;by_cases g:64<r.length
 ·rw[if_pos g] at h;cases h
 rw[if_neg g] at h;by_cases b:xV 0 r=true∧r≠[]
 ·obtain⟨k,j⟩:=b
  cases r with
  |nil=>exact absurd rfl j
  |cons c t=>
   have l:JU 0 c=true:=by have:(JU 0 c&&xV 1 t)=true:=k;rw[bC] at this;exact this.1
   have i: ∀c:UInt8,JU 0 c=true→(decide (48≤c.toNat)&&decide (c.toNat≤57))=false∧(c==45)=false:=by intro c;obtain⟨⟨m⟩⟩:=c;revert m;decide+kernel
   obtain⟨f,a⟩:=i c l;constructor
   ·cases t with
    |nil=>exact f
    |cons d t=>show((decide (48≤c.toNat)&&decide (c.toNat≤57))||(c==45&&_))=false;rw[f,a];rfl
   cases e:seq (c::t) [45] with
   |false=>rfl
   |true=>rw[cK] at e;simp only[Pf] at e;rw[e.1] at a;cases a
 rw[if_neg b] at h;cases h
theorem adR (y:Int) (h:Fits y):iG (text y)=y∧nrW (text y)=0:=by have a:=LK y h;exact⟨by unfold iG;rw[a],by unfold nrW;rw[a]⟩
theorem rl_back (k v:Int) (r:af) (h:(sel (ieq k 0) (ieq v 0&&seq r []) (sel (ieq k 1) (av (-10800) v&&(av v 10800&&seq r [])) (sel (ieq k 2) (ieq v 0&&ieq (dG r) 0) false)))=true):
  YC (TK k v r)=k∧Ar (TK k v r)=v∧VX (TK k v r)=r∧Pn (TK k v r)=0∧(TK k v r).length≤64:=by
 rw[iq,iw,iy,tY];unfold TK;by_cases d:k=0
 ·subst d
  rw[show ieq (0:Int) 0=true from rfl] at h⊢;rw[sT,bC,aN,cK] at h;obtain⟨rfl,rfl⟩:=h;exact⟨rfl,rfl,rfl,rfl,by decide⟩
 rw[bD d] at h⊢;by_cases e:k=1
 ·subst e
  rw[show ieq (1:Int) 1=true from rfl] at h⊢;simp only[sT,sF,bC,aB,cK] at h;obtain⟨j,f,rfl⟩:=h;obtain⟨n1,b⟩:=am_num v (by omega) (by omega);obtain⟨g,i,l⟩:=xh v (by omega) (by omega);simp only[sT,sF,n1,b,gT,iA,g,i,bg j,bg f,show ieq (0:Int) 0=true from rfl];exact⟨trivial,trivial,trivial,trivial,by omega⟩
 rw[bD e] at h⊢;by_cases c:k=2
 ·subst c
  simp only[show ieq (2:Int) 2=true from rfl,sT,sF,bC,aN] at h;obtain⟨rfl,a⟩:=h;obtain⟨n1,b⟩:=nm_num r a;simp only[sT,sF,n1,b,a];exact⟨trivial,trivial,trivial,trivial,oh r a⟩
 rw[bD c] at h;cases h
theorem FN (q:af) (h:ja q=0):q.length≤16:=by
 unfold ja at h;by_cases a:16<q.length
 ·rw[if_pos a] at h;cases h
 omega
theorem Bf (y m ok f e c b:Int):(enR true y m ok f e c b=true)=((-32767<y∧y<32767)∧(oQ ok f e m=true∧dJ c b=true)):=by
 unfold enR;rw[sT,bC,bC,bC,bq,bq];apply propext;constructor
 ·rintro⟨a,b,c,d⟩;exact⟨⟨a,b⟩,c,d⟩
 rintro⟨⟨a,b⟩,c,d⟩;exact⟨a,b,c,d⟩
theorem en_back (h:Bool) (y m ok a d c b:Int) (i:enR h y m ok a d c b=true):
  ze (Kv h y m ok a d c b)=0∧tq (Kv h y m ok a d c b)=h∧yZ (Kv h y m ok a d c b)=y∧tu (Kv h y m ok a d c b)=m∧y5 (Kv h y m ok a d c b)=ok∧y7 (Kv h y m ok a d c b)=a∧y8 (Kv h y m ok a d c b)=d∧y9 (Kv h y m ok a d c b)=c∧za (Kv h y m ok a d c b)=b:=by
 cases h with
 |false=>unfold enR at i;simp only[sF,aM,aN] at i;obtain⟨rfl,rfl,⟨rfl,rfl,rfl⟩,rfl,rfl⟩:=i;exact⟨rfl,rfl,rfl,rfl,rfl,rfl,rfl,rfl,rfl⟩
 |true=>
  rw[Bf] at i;obtain⟨⟨K,M⟩,e,H⟩:=i;obtain⟨t1,t2⟩:=adR y (by unfold Fits;omega);have B:=ftB_mm e;obtain⟨m1,s,J⟩:=Bc m B.1 B.2;have t:Mw ok a d=true:=by unfold oQ at e;rw[bC] at e;exact e.1
  have n:=Xg ok a d t;have j:rz (fF ok a d)=ok:=by unfold rz;rw[n]
  have k:iL (fF ok a d)=a:=by unfold iL;rw[n]
  have r:rA (fF ok a d)=d:=by unfold rA;rw[n]
  have p:sZ (fF ok a d)=0:=by unfold sZ;rw[n]
  obtain⟨F,G,I,L⟩:=Bd c b H;have o:av y (-32767)=false:=mr (by omega);have l:av 32767 y=false:=mr (by omega);have q:ieq (0:Int) 0=true:=rfl;have x:odE (fF ok a d) m=0:=by rw[jD,p,j,k,r,e];rfl
  have w:odK (fF ok a d) m=ok:=by rw[jF,p,j,k,r,e];rfl
  have z:odW (fF ok a d) m=a:=by rw[jG,p,j,k,r,e];rfl
  have A:odD (fF ok a d) m=d:=by rw[jH,p,j,k,r,e];rfl
  unfold Kv;rw[sT]
  cases C:ak (ieq c 0) (ieq b 0) with
  |false=>have f:ay [V.str (text y),V.str (ql m),V.str (fF ok a d),V.str (Af c b)]=4:=rfl;have r0:rg [V.str (text y),V.str (ql m),V.str (fF ok a d),V.str (Af c b)] 0=text y:=rfl;have g:rg [V.str (text y),V.str (ql m),V.str (fF ok a d),V.str (Af c b)] 1=ql m:=rfl;have u:rg [V.str (text y),V.str (ql m),V.str (fF ok a d),V.str (Af c b)] 2=fF ok a d:=rfl;have E:rg [V.str (text y),V.str (ql m),V.str (fF ok a d),V.str (Af c b)] 3=Af c b:=rfl;simp only[sF,yZ,tu,y5,y7,y8,y9,za,ze,rJ,qx,JL,FC,Fz,en0,nU,tq,f,r0,g,u,E,t1,t2,o,l,q,m1,s,x,w,z,A,F,G,I,sT,show ieq (4:Int) 0=false from rfl,show aL false=true from rfl,show aW 1 4=true from rfl,show aW 2 4=true from rfl,show aW 3 4=true from rfl];exact⟨trivial,trivial,trivial,trivial,trivial,trivial,trivial,trivial,trivial⟩
  |true=>
   rw[aM,aN,aN] at C;obtain⟨rfl,rfl⟩:=C
   cases v:ak (ieq ok 0) (ak (ieq a 0) (ieq d 1)) with
   |false=>have f:ay [V.str (text y),V.str (ql m),V.str (fF ok a d)]=3:=rfl;have r0:rg [V.str (text y),V.str (ql m),V.str (fF ok a d)] 0=text y:=rfl;have g:rg [V.str (text y),V.str (ql m),V.str (fF ok a d)] 1=ql m:=rfl;have u:rg [V.str (text y),V.str (ql m),V.str (fF ok a d)] 2=fF ok a d:=rfl;simp only[sF,yZ,tu,y5,y7,y8,y9,za,ze,rJ,qx,JL,FC,Fz,en0,nU,tq,f,r0,g,u,t1,t2,o,l,q,m1,s,x,w,z,A,sT,show ieq (3:Int) 0=false from rfl,show aL false=true from rfl,show aW 1 3=true from rfl,show aW 2 3=true from rfl,show aW 3 3=false from rfl];exact⟨trivial,trivial,trivial,trivial,trivial,trivial,trivial,trivial,trivial⟩
   |true=>
    rw[aM,aM,aN,aN,aN] at v;obtain⟨rfl,rfl,rfl⟩:=v
    cases D:ieq m 1 with
    |false=>have f:ay [V.str (text y),V.str (ql m)]=2:=rfl;have r0:rg [V.str (text y),V.str (ql m)] 0=text y:=rfl;have g:rg [V.str (text y),V.str (ql m)] 1=ql m:=rfl;simp only[sF,yZ,tu,y5,y7,y8,y9,za,ze,rJ,qx,JL,FC,Fz,en0,nU,tq,f,r0,g,t1,t2,o,l,q,m1,s,sT,show ieq (2:Int) 0=false from rfl,show aL false=true from rfl,show aW 1 2=true from rfl,show aW 2 2=false from rfl,show aW 3 2=false from rfl];exact⟨trivial,trivial,trivial,trivial,trivial,trivial,trivial,trivial,trivial⟩
    |true=>rw[aN] at D;subst D;have f:ay [V.str (text y)]=1:=rfl;have r0:rg [V.str (text y)] 0=text y:=rfl;simp only[sF,yZ,tu,y5,y7,y8,y9,za,ze,rJ,qx,JL,FC,Fz,en0,nU,tq,f,r0,t1,t2,o,l,q,sT,show ieq (1:Int) 0=false from rfl,show aL false=true from rfl,show aW 1 1=false from rfl,show aW 2 1=false from rfl,show aW 3 1=false from rfl];exact⟨trivial,trivial,trivial,trivial,trivial,trivial,trivial,trivial,trivial⟩
theorem FP (o k v:Int) (r q:af) (h:Bool) (y m ok f e c b:Int):(Gj o k v r q h y m ok f e c b=true)=((-54000≤o∧o≤54000)∧(ja q=0∧(enR h y m ok f e c b=true∧(sel (ieq k 0) (ieq v 0&&seq r []) (sel (ieq k 1) (av (-10800) v&&(av v 10800&&seq r [])) (sel (ieq k 2) (ieq v 0&&ieq (dG r) 0) false)))=true))):=by
 unfold Gj;rw[bC,bC,bC,bC,aB,aB,aN];apply propext;constructor
 ·rintro⟨a,b,c,d⟩;exact⟨⟨a,b⟩,c,d⟩
 rintro⟨⟨a,b⟩,c,d⟩;exact⟨a,b,c,d⟩
theorem efT_len (h:Bool) (y m ok d a c b:Int):(Kv h y m ok d a c b).length≤4:=by
 unfold Kv
 cases h<;>cases ak (ieq c 0) (ieq b 0)<;>cases ak (ieq ok 0) (ak (ieq d 0) (ieq a 1))<;>cases ieq m 1<;>simp[sel]
theorem lsub_3 (a b c:V) (t:ah):fo (a::b::c::t) 3 (ay (a::b::c::t))=t:=by unfold fo ay;show List.take ((((a::b::c::t).length:Nat):Int).toNat-3) t=t;rw[O9];simp;omega
theorem erE_3 (a b c:af) (t:ah) (d:t.length≤4):kK (.str a::.str b::.str c::t)=sel (ieq (JM a) 0) (sel (ieq (Pn b) 0) (sel (ieq (ja c) 0) (ze t) (ja c)) (Pn b)) (JM a):=by unfold kK;rw[lsub_3,bF (by rw[aD];simp;omega),bF (by rw[aD];simp;omega)];rfl
theorem erV_3 (a b c:af) (t:ah) (h:kK (.str a::.str b::.str c::t)=0):My (.str a::.str b::.str c::t)=.tup [.agg [.int .i64 (fD a),.int .i64 (YC b),.int .i64 (Ar b),.str (VX b),.str c,.bool (tq t),.int .i64 (yZ t),.int .i64 (tu t),.int .i64 (y5 t),.int .i64 (y7 t),.int .i64 (y8 t),.int .i64 (y9 t),.int .i64 (za t)],.int .i64 0]:=by unfold My S9 VY Ta TI TJ E6 Tc Td VZ V2 Aw Ay Az;rw[h,lsub_3];rfl
theorem allS_efT (h:Bool) (y m ok a d c b:Int) (f:enR h y m ok a d c b=true):gN (Kv h y m ok a d c b)=true:=by
 cases h with
 |false=>rfl
 |true=>
  rw[Bf] at f;obtain⟨⟨p,s⟩,g,j⟩:=f;have e:=ftB_mm g;have n1:=(vY y (by unfold Fits;omega)).1;have r:=(Bc m e.1 e.2).2.2;have o:=Bz ok a d;have q:=(Bd c b j).2.2.2;have k:=kH (show(text y).length≤900 by omega);have n:=kH (show(ql m).length≤900 by omega);have l:=kH (show(fF ok a d).length≤900 by omega);have i:=kH (show(Af c b).length≤900 by omega);unfold Kv gN
  cases ak (ieq c 0) (ieq b 0)<;>cases ak (ieq ok 0) (ak (ieq a 0) (ieq d 1))<;>cases ieq m 1<;>
   simp only[sT,sF,Pg,List.all_nil,k,n,l,i]<;>rfl
theorem er_back (o k v:Int) (r q:af) (h:Bool) (y m ok a d c b:Int) (g:Gj o k v r q h y m ok a d c b=true):
  gN (Po o k v r q h y m ok a d c b)=true∧My (Po o k v r q h y m ok a d c b)=.tup [.agg [.int .i64 o,.int .i64 k,.int .i64 v,.str r,.str q,.bool h,.int .i64 y,.int .i64 m,.int .i64 ok,.int .i64 a,.int .i64 d,.int .i64 c,.int .i64 b],.int .i64 0]:=by
 rw[FP] at g;obtain⟨⟨z,w⟩,e,hE,t⟩:=g;obtain⟨f,F,J⟩:=xh o (by omega) (by omega);obtain⟨i,C,p,H,K⟩:=rl_back k v r t;obtain⟨j,D,x,E,G,l,s,n,A⟩:=en_back h y m ok a d c b hE;have I:=FN q e;constructor
 ·unfold Po gN
  rw[Pg,Pg,Pg,kH (show(Ag o).length≤900 by omega),kH (show(TK k v r).length≤900 by omega),kH (show q.length≤900 by omega)];exact allS_efT h y m ok a d c b hE
 unfold Po;have u:JM (Ag o)=0:=by unfold JM;rw[f,F,bg z,bg w];rfl
 have B:kK (.str (Ag o)::.str (TK k v r)::.str q::Kv h y m ok a d c b)=0:=by rw[erE_3 _ _ _ _ (efT_len h y m ok a d c b),u,H,e,j];rfl
 rw[erV_3 _ _ _ _ B,f,i,C,p,D,x,E,G,l,s,n,A]
theorem mo_rng (s:af) (h:qj s=0):1≤u7 s∧u7 s≤12:=by have a:oP s Tw=0:=h;have:=BA s Tw (by decide) a;have e:(Tw.length:Int)=12:=rfl;unfold u7;rw[if_pos a];omega
theorem ft_first (m:Int) (a:1≤m) (b:m≤12):oQ 0 0 1 m=true:=by
 obtain rfl|rfl|rfl|rfl|rfl|rfl|rfl|rfl|rfl|rfl|rfl|rfl:m=1∨m=2∨m=3∨m=4∨m=5∨m=6∨m=7∨m=8∨m=9∨m=10∨m=11∨m=12:=by omega
 all_goals decide+kernel
theorem od_ok (s:af) (m:Int) (h:odE s m=0):oQ (odK s m) (odW s m) (odD s m) m=true:=by
 rw[jD] at h;rw[jF,jG,jH]
 cases a:ieq (sZ s) 0 with
 |false=>rw[a] at h;rw[show sZ s=0 from h] at a;cases a
 |true=>
  rw[a] at h
  cases b:oQ (rz s) (iL s) (rA s) m with
  |false=>rw[b] at h;cases h
  |true=>exact b
theorem Ee {a c:Int} (h:sel (ieq a 0) c a=0):a=0∧c=0:=by
 by_cases b:a=0
 ·rw[bn b] at h;exact⟨b,h⟩
 rw[bD b] at h;exact absurd h b
theorem en_right (ys:ah) (h:ze ys=0):enR (tq ys) (yZ ys) (tu ys) (y5 ys) (y7 ys) (y8 ys) (y9 ys) (za ys)=true∧(Kv (tq ys) (yZ ys) (tu ys) (y5 ys) (y7 ys) (y8 ys) (y9 ys) (za ys)).length≤ys.length∧-32767≤yZ ys∧yZ ys≤32767∧0≤tu ys∧tu ys≤12:=by
 cases b:tq ys with
 |false=>unfold yZ tu y5 y7 y8 y9 za;rw[b];exact⟨rfl,JS _,le_dec rfl,le_dec rfl,le_dec rfl,le_dec rfl⟩
 |true=>
  unfold ze at h;rw[b,sT] at h;unfold JL at h;obtain⟨i,B⟩:=Ee h;have f:=i;unfold FC at i;obtain⟨m,w⟩:=Ee i;have d:=m;unfold Fz at m;obtain⟨k,y⟩:=Ee m;have r:=k;unfold en0 at k;obtain⟨H,g⟩:=Ee k;have G: ¬iG (rg ys 0)≤ -32767:=fun o=>by rw[bg o] at g;cases g
  have I: ¬32767≤iG (rg ys 0):=fun o=>by rw[mr (by omega),bg o] at g;cases g
  have z: ∀{a:Int},a=0→ieq a 0=true:=fun h=>bn h
  have n:yZ ys=iG (rg ys 0):=by unfold yZ;rw[b];rfl
  have A:tu ys=sel (aW 1 (ay ys)) (u7 (rg ys 1)) 1:=by unfold tu nU;rw[b,z r];rfl
  have c:nU ys=tu ys:=by unfold tu;rw[b];rfl
  have x:y5 ys=sel (aW 2 (ay ys)) (odK (rg ys 2) (tu ys)) 0:=by unfold y5 qx;rw[b,z d,c];rfl
  have eW:y7 ys=sel (aW 2 (ay ys)) (odW (rg ys 2) (tu ys)) 0:=by unfold y7 qx;rw[b,z d,c];rfl
  have v:y8 ys=sel (aW 2 (ay ys)) (odD (rg ys 2) (tu ys)) 1:=by unfold y8 qx;rw[b,z d,c];rfl
  have s:y9 ys=sel (aW 3 (ay ys)) (PD (rg ys 3)) 0:=by unfold y9 rJ;rw[b,z f];rfl
  have eB:za ys=sel (aW 3 (ay ys)) (PE (rg ys 3)) 0:=by unfold za rJ;rw[b,z f];rfl
  have j:1≤tu ys∧tu ys≤12:=by
   rw[A]
   cases l:aW 1 (ay ys) with
   |true=>rw[l] at y;exact mo_rng _ y
   |false=>exact⟨le_dec rfl,le_dec rfl⟩
  have F:oQ (y5 ys) (y7 ys) (y8 ys) (tu ys)=true:=by
   rw[x,eW,v]
   cases p:aW 2 (ay ys) with
   |true=>rw[p,c] at w;exact od_ok _ _ w
   |false=>exact ft_first _ j.1 j.2
  have E:dJ (y9 ys) (za ys)=true:=by
   rw[s,eB]
   cases q:aW 3 (ay ys) with
   |true=>rw[q] at B;exact QL _ B
   |false=>rfl
  have hL:1≤ys.length:=by
   unfold tq at b
   cases ys with
   |nil=>cases b
   |cons a t=>simp
  refine⟨?_,?_,by rw[n];omega,by rw[n];omega,by omega,j.2⟩
  ·rw[Bf,n]
   exact⟨⟨by omega,by omega⟩,F,E⟩
  unfold Kv;rw[sT]
  cases C:ak (ieq (y9 ys) 0) (ieq (za ys) 0) with
  |false=>
   have:3<ay ys:=by
    by_cases e:3<ay ys
    ·exact e
    rw[s,eB,bF (by omega)] at C;cases C
   rw[aD] at this;show 4≤ys.length;omega
  |true=>
   cases u:ak (ieq (y5 ys) 0) (ak (ieq (y7 ys) 0) (ieq (y8 ys) 1)) with
   |false=>
    have:2<ay ys:=by
     by_cases e:2<ay ys
     ·exact e
     rw[x,eW,v,bF (by omega)] at u;cases u
    rw[aD] at this;show 3≤ys.length;omega
   |true=>
    cases D:ieq (tu ys) 1 with
    |false=>
     have:1<ay ys:=by
      by_cases e:1<ay ys
      ·exact e
      rw[A,bF (by omega)] at D;cases D
     rw[aD] at this;show 2≤ys.length;omega
    |true=>show 1≤ys.length;exact hL
theorem rl_right (s:af) (h:Pn s=0):(sel (ieq (YC s) 0) (ieq (Ar s) 0&&seq (VX s) []) (sel (ieq (YC s) 1) (av (-10800) (Ar s)&&(av (Ar s) 10800&&seq (VX s) [])) (sel (ieq (YC s) 2) (ieq (Ar s) 0&&ieq (dG (VX s)) 0) false)))=true∧(VX s).length≤64∧-10800≤Ar s∧Ar s≤10800:=by
 rw[tY] at h;rw[iq,iw,iy]
 cases e:seq s [45] with
 |true=>exact⟨rfl,aa6 rfl,le_dec rfl,le_dec rfl⟩
 |false=>
  rw[e,sF] at h
  cases d:rD s with
  |true=>
   rw[d,sT] at h;rw[gT] at h;rw[iA]
   cases c:ieq (lT s) 0 with
   |false=>rw[c] at h;rw[show lT s=0 from h] at c;cases c
   |true=>
    rw[c,sT] at h
    cases a:av (-10800) (fD s) with
    |false=>rw[a] at h;cases h
    |true=>
     rw[a,sT] at h
     cases b:av (fD s) 10800 with
     |false=>rw[b] at h;cases h
     |true=>rw[aB] at a b;refine⟨?_,aa6 rfl,a,b⟩;show(av (-10800) (fD s)&&(av (fD s) 10800&&seq [] []))=true;rw[bg a,bg b];rfl
  |false=>rw[d,sF] at h;refine⟨?_,oh s h,le_dec rfl,le_dec rfl⟩;show(ieq 0 0&&ieq (dG s) 0)=true;rw[h];rfl
theorem er_right (xs:ah) (D:gN xs=true) (h:kK xs=0):Gj (S9 xs) (VY xs) (Ta xs) (TI xs) (TJ xs) (E6 xs) (Tc xs) (Td xs) (VZ xs) (V2 xs) (Aw xs) (Ay xs) (Az xs)=true∧(Po (S9 xs) (VY xs) (Ta xs) (TI xs) (TJ xs) (E6 xs) (Tc xs) (Td xs) (VZ xs) (V2 xs) (Aw xs) (Ay xs) (Az xs)).length≤xs.length∧
  (TI xs).length≤64∧(TJ xs).length≤16∧(-54000≤S9 xs∧S9 xs≤54000)∧(-10800≤Ta xs∧Ta xs≤10800)∧(-32767≤Tc xs∧Tc xs≤32767)∧(0≤Td xs∧Td xs≤12):=by
 have d: ¬ay xs<3:=fun e=>by unfold kK at h;rw[bH e] at h;cases h
 have f: ¬7<ay xs:=fun e=>by unfold kK at h;rw[bF (by omega),bH e] at h;cases h
 obtain⟨l,rfl,_⟩:=xG xs D;rw[aD,kJ] at d f;match l,d,f,h with
 |[],d,_,_=>exact absurd d (by simp)
 |[_],d,_,_=>exact absurd d (by simp)
 |[_,_],d,_,_=>exact absurd d (by simp)
 |a::b::c::t,_,f,h=>
  rw[qA,qA,qA] at h⊢;have v:(t.map V.str).length≤4:=by rw[kJ];simp only[fI] at f;omega
  have k:=erV_3 a b c (t.map V.str) h;rw[erE_3 a b c _ v] at h;obtain⟨g1,h⟩:=Ee h;obtain⟨A,h⟩:=Ee h;obtain⟨n,F⟩:=Ee h;unfold JM at g1;obtain⟨M,g1⟩:=Ee g1;have j: -54000≤fD a:=by
   by_cases e: -54000≤fD a
   ·exact e
   rw[mr (by omega)] at g1;cases g1
  have m:fD a≤54000:=by
   by_cases e:fD a≤54000
   ·exact e
   rw[bg j,mr (by omega)] at g1;cases g1
  obtain⟨n1,N,w,y,r,G⟩:=en_right _ F;obtain⟨s,I,q,z⟩:=rl_right b A;have C:=FN c n;unfold My at k;simp only[V.tup.injEq,Pf,V.agg.injEq,V.str.injEq,V.int.injEq,V.bool.injEq,jA,Tp] at k;obtain⟨⟨o,J,E,K,L,p,B,u,H,x,i,g,e12⟩,_⟩:=k;rw[o,J,E,K,L,p,B,u,H,x,i,g,e12];refine⟨?_,?_,I,C,⟨j,m⟩,⟨q,z⟩,⟨w,y⟩,⟨r,G⟩⟩
  ·rw[FP]
   exact⟨⟨j,m⟩,n,n1,s⟩
  unfold Po;simp only[fI];omega
noncomputable def eRdS:aC:=fun a=>match a with|[.sl 9 [.str] none xs]=>some (gN xs,.tup [.agg [.int .i64 (S9 xs),.int .i64 (VY xs),.int .i64 (Ta xs),.str (TI xs),.str (TJ xs),.bool (E6 xs),.int .i64 (Tc xs),.int .i64 (Td xs),.int .i64 (VZ xs),.int .i64 (V2 xs),.int .i64 (Aw xs),.int .i64 (Ay xs),.int .i64 (Az xs)],.int .i64 (kK xs)])|_=>none
noncomputable def eFlS:aC:=fun a=>match a with|[.agg [.int .i64 o,.int .i64 k,.int .i64 v,.str r,.str q,.bool h,.int .i64 y,.int .i64 m,.int .i64 ok,.int .i64 ow,.int .i64 od,.int .i64 c,.int .i64 b]]=>some (ak (ak (av (aA r) 900) (av (aA q) 900)) (ak (ak (ak (av (-9223372036854775808) o) (av o 9223372036854775807)) (ak (av (-9223372036854775808) v) (av v 9223372036854775807))) (ak (ak (av (-9223372036854775808) y) (av y 9223372036854775807)) (ak (av (-9223372036854775808) m) (av m 9223372036854775807)))),.tup [.sl 9 [.str] none (efV o k v r q h y m ok ow od c b),.int .i64 (efE o k v r q h y m ok ow od c b)])|_=>none
noncomputable def eLd:List (Nat×aC):=(73,eRdS)::(39,eFlS)::(63,eRightS)::[]
noncomputable def eL:List (Nat×aC):=eLd
theorem eRdS_ok (xs:ah) (a:gN xs=true):aj eE 73 [.sl 9 [.str] none xs] (.tup [.agg [.int .i64 (S9 xs),.int .i64 (VY xs),.int .i64 (Ta xs),.str (TI xs),.str (TJ xs),.bool (E6 xs),.int .i64 (Tc xs),.int .i64 (Td xs),.int .i64 (VZ xs),.int .i64 (V2 xs),.int .i64 (Aw xs),.int .i64 (Ay xs),.int .i64 (Az xs)],.int .i64 (kK xs)]):=VB xs a
theorem er_inj (xs:ah) {o k v:Int} {r q:af} {h:Bool} {y m ok i j c b e:Int} (a:My xs=.tup [.agg [.int .i64 o,.int .i64 k,.int .i64 v,.str r,.str q,.bool h,.int .i64 y,.int .i64 m,.int .i64 ok,.int .i64 i,.int .i64 j,.int .i64 c,.int .i64 b],.int .i64 e]):
  S9 xs=o∧VY xs=k∧Ta xs=v∧TI xs=r∧TJ xs=q∧E6 xs=h∧Tc xs=y∧Td xs=m∧VZ xs=ok∧V2 xs=i∧Aw xs=j∧Ay xs=c∧Az xs=b∧kK xs=e:=by
 unfold My at a;simp only[V.tup.injEq,Pf,V.agg.injEq,V.str.injEq,V.int.injEq,V.bool.injEq,jA,Tp] at a;obtain⟨⟨p,z,n,s,x,B,t,A,l,u,d,g,f⟩,w⟩:=a;exact⟨p,z,n,s,x,B,t,A,l,u,d,g,f,w⟩
end Nt.Ev.YtknhlobahpgkeaaGreatDoor
