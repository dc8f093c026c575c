/-
  Months: equations of functions, as the evaluator prints them.
-/
import Derived.Test.YtjcencojgajgdaaGreatDoorML
import Derived.Test.YtjcencojgajgdaaGreatDoorMG
import Derived.Test.YtjcencojgajgdaaGreatDoorMH
import Derived.Test.YtjcencojgajgdaaGreatDoorMJ
import Derived.Test.YtjcencojgajgdaaGreatDoorMI
set_option linter.all false
set_option maxRecDepth 100000
namespace Nt.Ev.YtjcencojgajgdaaGreatDoor
open Go Nt.Num Go.Proofs.YtjcencojgajgdaaGreatDoor
noncomputable def OT:V:=.rptr [.str,.str,.str,.str,.str,.str,.str,.str,.str,.str,.str,.str] (.agg [.str [74,97,110,117,97,114,121],.str [70,101,98,114,117,97,114,121],.str [77,97,114,99,104],.str [65,112,114,105,108],.str [77,97,121],.str [74,117,110,101],.str [74,117,108,121],.str [65,117,103,117,115,116],.str [83,101,112,116,101,109,98,101,114],.str [79,99,116,111,98,101,114],.str [78,111,118,101,109,98,101,114],.str [68,101,99,101,109,98,101,114]]) 0
noncomputable def mE:Env:=⟨Go.Proofs.Tryz.prog,fun g=>bif g==0 then some OT else none⟩
noncomputable def Yh:aD:=fun a=>match a with|[.str s,.sl e [.str] o ws]=>some (ak (ax (aB s) 1000) (uU ws),.tup [.int .i64 (mo s ws),.int .i64 (oU s ws)])|_=>none
noncomputable def mS:List (Nat×aD):=(70,Yh)::[]
theorem Wi (F s) (K:V→Option V):
 bE mE (bC mE mS F 2) F 150 [V.str s] K=
 let A:=[V.str [74,97,110,117,97,114,121],V.str [70,101,98,114,117,97,114,121],V.str [77,97,114,99,104],V.str [65,112,114,105,108],V.str [77,97,121],V.str [74,117,110,101],V.str [74,117,108,121],V.str [65,117,103,117,115,116],V.str [83,101,112,116,101,109,98,101,114],V.str [79,99,116,111,98,101,114],V.str [78,111,118,101,109,98,101,114],V.str [68,101,99,101,109,98,101,114]];sel (ak (ax (aB s) 1000) (uU A)) (sel (aL (ieq (oU s A) 0)) (K (V.tup [V.int .i64 0,V.int .i64 (oU s A)])) (K (V.tup [V.int .i64 (bg .i64 (mo s A) 1),V.int .i64 0]))) none:=by kernel_rfl
theorem Wj (F n) (K:V→Option V):
 bE mE (bC mE mS F 2) F 37 [V.int .i64 n] K=
 let A:=[V.str [74,97,110,117,97,114,121],V.str [70,101,98,114,117,97,114,121],V.str [77,97,114,99,104],V.str [65,112,114,105,108],V.str [77,97,121],V.str [74,117,110,101],V.str [74,117,108,121],V.str [65,117,103,117,115,116],V.str [83,101,112,116,101,109,98,101,114],V.str [79,99,116,111,98,101,114],V.str [78,111,118,101,109,98,101,114],V.str [68,101,99,101,109,98,101,114]];let B:=dB .i64 n 1;let D:=K (V.str []);let C:=aF (ai (aG A B) 0);sel (aR n 1) D (sel (aR B 0) D (sel (ax (ay A) B) D (sel (ak (ax 0 B) (aR B (ay A))) (sel (ak (ax 0 3) (ax 3 (aB C))) (K (V.str (dQ C 0 3))) none) none))):=by kernel_rfl
open Go.RowKit Nt
theorem mE_ok:uQ mE:=⟨by kernel_rfl,by kernel_rfl⟩
theorem toM {f:Nat} {args:ah} {r:V} (h:aj nE f args r):aj mE f args r:=aj.env (E:=nE) rfl (fun n v h=>by cases h) h
theorem JP (s:af) (e:Nat) (o:Option Nat) (a:ah) (c:ak (ax (aB s) 1000) (uU a)=true):aj mE 70 [.str s,.sl e [.str] o a] (.tup [.int .i64 (mo s a),.int .i64 (oU s a)]):=by obtain⟨b,d⟩:=aN c;exact toM (I6 s e o a (Ej b) d)
theorem mS_ok:aZ mE mS:=by
 unfold mS;refine aZ.cons (fun args r h=>?_) aZ.nil;all_goals (revert h;intro h;first|unfold Yh at h)
 all_goals (split at h;rotate_left; · cases h)
 all_goals (simp only[aT,bP] at h;obtain⟨a,rfl⟩:=h)
 ·exact JP _ _ _ _ a
def Up:ah:=[.str [74,97,110,117,97,114,121],.str [70,101,98,114,117,97,114,121],.str [77,97,114,99,104],.str [65,112,114,105,108],.str [77,97,121],.str [74,117,110,101],.str [74,117,108,121],.str [65,117,103,117,115,116],.str [83,101,112,116,101,109,98,101,114],.str [79,99,116,111,98,101,114],.str [78,111,118,101,109,98,101,114],.str [68,101,99,101,109,98,101,114]]
def ve (s:af):Int:=if oU s Up=0 then mo s Up+1 else 0
def qj (s:af):Int:=oU s Up
theorem moV_ok:uU Up=true:=by decide
theorem BD (s:af) (a:ah) (h:a.length≤1000) (b:oU s a=0):0≤mo s a∧mo s a<a.length:=by unfold oU at b;have:=mt_lt ⟨s.toArray⟩ (Uo a) (by omega);unfold mo;rw[show(Uo a).length=a.length from kS ..] at this;omega
theorem ad6 (s:af) (b:s.length≤1000):aj mE 150 [.str s] (.tup [.int .i64 (ve s),.int .i64 (qj s)]):=by
 refine au mE_ok mS_ok 5 2 ?_;have a:ak (ax (aB s) 1000) (uU Up)=true:=by rw[aM];exact⟨bn (by rw[aJ];omega),moV_ok⟩
 (rw[Wi];(conv=>zeta))
 refine(av a).trans ?_;unfold ve qj;by_cases h:oU s Up=0
 ·have:=BD s Up (by decide) h
  have e:(Up.length:Int)=12:=rfl;refine(aI (show aL (ieq (oU s Up) 0)=false by rw[bA h];rfl)).trans ?_;rw[if_pos h];show some (V.tup [V.int .i64 (bg .i64 (mo s Up) 1),V.int .i64 _])=_;rw[cr (by omega)];first|rfl|(rw[h];rfl)|(rw[h])
 refine(av (show aL (ieq (oU s Up) 0)=true by rw[bH h];rfl)).trans ?_;rw[if_neg h];rfl
def ql (n:Int):af:=if 1≤n∧n≤12 then(aF (Up.getD (n-1).toNat .any)).take 3 else[]
theorem ad7 (n:Int) (c:Fits n):aj mE 37 [.int .i64 n] (.str (ql n)):=by
 refine au mE_ok mS_ok 5 2 ?_
 (rw[Wj];(conv=>zeta))
 by_cases h:1≤n∧n≤12
 ·obtain rfl|rfl|rfl|rfl|rfl|rfl|rfl|rfl|rfl|rfl|rfl|rfl:n=1∨n=2∨n=3∨n=4∨n=5∨n=6∨n=7∨n=8∨n=9∨n=10∨n=11∨n=12:=by omega
  all_goals rfl
 have e:ql n=[]:=by unfold ql;rw[if_neg h]
 rw[e];by_cases a:n<1
 ·rw[av (bu a)]
 unfold Fits at c;have b:dB .i64 n 1=n-1:=dV (by omega);rw[aI (bB (by omega)),b,aI (bB (by omega)),av (bn (by rw[aC];show(12:Int)≤n-1;omega))]
variable [kH]
open Nt.Civil
noncomputable def zE:Env:=⟨Go.Proofs.Tryz.prog,fun g=>bif g==2 then some DT else bif g==0 then some OT else bif g==4 then some U9 else bif g==3 then some (.rptr [.int .i64] (.int .i64 kH.val) 0) else none⟩
noncomputable def zByteS:aD:=fun a=>match a with|[.str s,.int .u8 c]=>some (true,.int .i64 (vv s c))|_=>none
noncomputable def zLenS:aD:=fun a=>match a with|[.int .i64 y,.int .i64 m]=>some (ak (ax (-9223372036854775808) y) (ax y 9223372036854775807),.int .i64 (gK y m))|_=>none
noncomputable def zOnS:aD:=fun a=>match a with|[.agg [.int .i64 k,.int .i64 w,.int .i64 d]]=>some (true,.bool (Nn k w d))|_=>none
noncomputable def zS0:List (Nat×aD):=(63,zByteS)::(75,zLenS)::(53,zOnS)::[]
def UI (c:UInt8):Bool:=(decide (65≤c.toNat)&&decide (c.toNat≤90))||(decide (97≤c.toNat)&&decide (c.toNat≤122))||c==95
def UJ (c:UInt8):Bool:=(decide (48≤c.toNat)&&decide (c.toNat≤57))||c==45||c==43||c==47||c==46
def Kq (k:Nat) (c:UInt8):Bool:=UI c||(decide (0<k)&&UJ c)
def xZ:Nat→af→Bool|_,[]=>true|k,c::t=>Kq k c&&xZ (k+1) t
def dK (s:af):Int:=if 64<s.length then 9 else if xZ 0 s=true∧s≠[] then 0 else 10
def qm (k w d m:Int):Bool:=Nn k w d&&decide (1≤m∧m≤12∧d≤gK 1 m)
def yY (s:af):Int:=(pJ s).1
def K9 (s:af):Int:=(pJ s).2
def ytI (s:af) (n:Int):Int:=(CV s n).1
def Qi (s:af) (n:Int):Int:=(CV s n).2
def Qx (s:af):Int:=(uI s).1
def Qy (s:af):Int:=(uI s).2.1
def yZ (s:af):Int:=(uI s).2.2
def Ai (n b:Int):af:=(Hz n b).1
def tcW (n b:Int):Int:=(Hz n b).2
def fH (s:af):Int:=(aQ.read s).1
def lN (s:af):Int:=(aQ.read s).2
def Aj (n:Int):af:=(aQ.text n).1
def amE (n:Int):Int:=(aQ.text n).2
def La (n:Int):af:=(fw n).1
def ZB (n:Int):Int:=(fw n).2
def uV (m n:Int):af:=(iC m n).1
def CW (m n:Int):Int:=(iC m n).2
noncomputable def NT:aD:=fun a=>match a with|[.str s]=>some (ax (aB s) 1000,.int .i64 (dK s))|_=>none
noncomputable def Db:aD:=fun a=>match a with|[.agg [.int .i64 k,.int .i64 w,.int .i64 d],.int .i64 m]=>some (true,.bool (qm k w d m))|_=>none
noncomputable def zFromS:aD:=fun a=>match a with|[.str s]=>some (ax (aB s) 900,.tup [.int .i64 (yY s),.int .i64 (K9 s)])|_=>none
noncomputable def zToS:aD:=fun a=>match a with|[.str s,.int .i64 n]=>some (ax (aB s) 900,.tup [.int .i64 (ytI s n),.int .i64 (Qi s n)])|_=>none
noncomputable def Xw:aD:=fun a=>match a with|[.str s]=>some (ax (aB s) 900,.tup [.int .i64 (ve s),.int .i64 (qj s)])|_=>none
noncomputable def Xx:aD:=fun a=>match a with|[.str s]=>some (ax (aB s) 900,.tup [.agg [.int .i64 (rq s),.int .i64 (iL s),.int .i64 (ru s)],.int .i64 (sU s)])|_=>none
noncomputable def Xy:aD:=fun a=>match a with|[.str s]=>some (ax (aB s) 900,.tup [.agg [.int .i64 (Qx s),.int .i64 (Qy s)],.int .i64 (yZ s)])|_=>none
noncomputable def Xz:aD:=fun a=>match a with|[.str s]=>some (ax (aB s) 900,.tup [.int .i64 (fH s),.int .i64 (lN s)])|_=>none
noncomputable def zLetS:aD:=fun a=>match a with|[.str s]=>some (ax (aB s) 900,.tup [.str (Aq s),.int .i64 (Ak s)])|_=>none
noncomputable def zFxS:aD:=fun a=>match a with|[.int .i64 n]=>some (true,.tup [.str (La n),.int .i64 (ZB n)])|_=>none
noncomputable def zTxS:aD:=fun a=>match a with|[.int .i64 m,.int .i64 n]=>some (true,.tup [.str (uV m n),.int .i64 (CW m n)])|_=>none
noncomputable def ZL:aD:=fun a=>match a with|[.agg [.int .i64 k,.int .i64 w,.int .i64 d]]=>some (true,.tup [.str (fI k w d),.int .i64 (dsTe k w d)])|_=>none
noncomputable def ZM:aD:=fun a=>match a with|[.agg [.int .i64 n,.int .i64 b]]=>some (true,.tup [.str (Ai n b),.int .i64 (tcW n b)])|_=>none
noncomputable def ZN:aD:=fun a=>match a with|[.agg [.int .i64 n,.int .i64 b]]=>some (true,.bool (dO n b))|_=>none
noncomputable def ZO:aD:=fun a=>match a with|[.int .i64 n]=>some (ak (ax (-9223372036854775808) n) (ax n 9223372036854775807),.tup [.str (Aj n),.int .i64 (amE n)])|_=>none
noncomputable def zLtS:aD:=fun a=>match a with|[.str s]=>some (ax (aB s) 900,.tup [.str (G5 s),.int .i64 (Kr s)])|_=>none
noncomputable def ZQ:aD:=fun a=>match a with|[.int .i64 n]=>some (ak (ax (-9223372036854775808) n) (ax n 9223372036854775807),.str (ql n))|_=>none
noncomputable def zS:List (Nat×aD):=(42,NT)::(48,Db)::(148,zFromS)::(149,zToS)::(150,Xw)::(152,Xx)::(154,Xy)::(141,Xz)::(56,zLetS)::(31,zFxS)::(32,zTxS)::(33,ZL)::(34,ZM)::(49,ZN)::(35,ZO)::(36,zLtS)::(37,ZQ)::zS0
def odP (s:af) (m:Int):Int×Int×Int×Int:=if sU s=0 then(if qm (rq s) (iL s) (ru s) m=true then(rq s,iL s,ru s,0) else(0,0,0,1)) else(rq s,iL s,ru s,sU s)
def odK (s:af) (m:Int):Int:=(odP s m).1
def odW (s:af) (m:Int):Int:=(odP s m).2.1
def odD (s:af) (m:Int):Int:=(odP s m).2.2.1
def odE (s:af) (m:Int):Int:=(odP s m).2.2.2
def svP (s:af):Int×Int:=if lN s=0 then(if fH s< -10800∨10800<fH s then(0,1) else(fH s,0)) else(fH s,lN s)
def svI (s:af):Int:=(svP s).1
def svW (s:af):Int:=(svP s).2
def yrB (f t:Int):Bool:=ax (-32767) f&&(ax f t&&ax t 32767)
def Qj (n:af) (f t m k w d c b v:Int) (l:af):Bool:=ieq (dK n) 0&&(yrB f t&&(qm k w d m&&(dO c b&&((ax (-10800) v&&ax v 10800)&&ieq (Kr l) 0))))
noncomputable def pP:=fun F d n c f e a b K=>(bR zE zS0 F 2 42 [1,1,0,1,0] d K n (fB 48 [(0,V.str c),(2,V.int .i64 f),(9,V.sl 5 [Kd.int .u8] none e),(10,V.int .i64 a),(11,V.int .i64 b)] []):Option V)
theorem MF (F s) (K:V→Option V):
 bE zE (bC zE zS0 F 2) F 42 [V.str s] K=
 sel (aR 64 (aB s)) (K (V.int .i64 9)) (sel (Le s) (pP F [] F s 0 (aH s) (ay (aH s)) 0 K) none):=by kernel_rfl
theorem yH (F n d e c b a K):
 pP F [] (n+1) d e c b a K=
 let B:=pP F [] n d e c b (bg .i64 a 1) K;let C:=asInt (ai (aG c a) 0);let E:=K (V.int .i64 10);let D:=sel (ax 0 (vv [45,43,47,46] C)) B E;let G:=kg .or .u8 C 32;let A:=sel (ieq C 95) B (sel (aR 0 a) (sel (ax 48 C) (sel (ax C 57) B D) D) E);sel (aR a b) (sel (ak (ax 0 a) (aR a (ay c))) (sel (ax 97 G) (sel (ax G 122) B A) A) none) (sel (seq d []) E (K (V.int .i64 0))):=by kernel_rfl
theorem ad8 (F k w d m) (K:V→Option V):
 bE zE (bC zE zS0 F 3) F 48 [V.agg [V.int .i64 k,V.int .i64 w,V.int .i64 d],V.int .i64 m] K=
 let A:=K (V.bool false);sel (Nn k w d) (sel (ax 1 m) (sel (ax m 12) (K (V.bool (ax d (gK 1 m)))) A) A) A:=by kernel_rfl
theorem MG (F xs) (K:V→Option V):
 bE zE (bC zE zS F 10) F 98 [V.sl 9 [Kd.str] none xs] K=
 let B:=aF (ai (aG xs 5) 0);let C:=aF (ai (aG xs 1) 0);let D:=aF (ai (aG xs 7) 0);let E:=V.int .i64 0;let G:=aF (ai (aG xs 4) 0);let H:=aF (ai (aG xs 6) 0);let I:=aF (ai (aG xs 0) 0);let J:=aF (ai (aG xs 2) 0);let L:=aF (ai (aG xs 8) 0);let N:=ak (ax 0 0) (aR 0 (ay xs));let A:=V.agg [V.str [],E,E,E,E,E,E,E,E,E,V.str []];let M:=K (V.tup [A,V.int .i64 1]);sel (aL (ax 9 (ay xs))) (K (V.tup [A,V.int .i64 5])) (sel (aL (ax (ay xs) 9)) (K (V.tup [A,V.int .i64 6])) (sel N (sel N (sel (ax (aB I) 1000) (sel (aL (ieq (dK I) 0)) (K (V.tup [A,V.int .i64 (dK I)])) (sel (ak (ax 0 1) (aR 1 (ay xs))) (sel (ax (aB C) 900) (sel (aL (ieq (K9 C) 0)) (K (V.tup [A,V.int .i64 (K9 C)])) (sel (ak (ax 0 2) (aR 2 (ay xs))) (sel (ax (aB J) 900) (sel (aL (ieq (Qi J (yY C)) 0)) (K (V.tup [A,V.int .i64 (Qi J (yY C))])) (sel (ak (ax 0 3) (aR 3 (ay xs))) (sel (aL (seq (aF (ai (aG xs 3) 0)) [45])) (K (V.tup [A,V.int .i64 3])) (sel (ak (ax 0 4) (aR 4 (ay xs))) (sel (ax (aB G) 900) (sel (aL (ieq (qj G) 0)) (K (V.tup [A,V.int .i64 (qj G)])) (sel (ak (ax 0 5) (aR 5 (ay xs))) (sel (ax (aB B) 900) (sel (aL (ieq (sU B) 0)) (K (V.tup [A,V.int .i64 (sU B)])) (sel (aL (qm (rq B) (iL B) (ru B) (ve G))) M (sel (ak (ax 0 6) (aR 6 (ay xs))) (sel (ax (aB H) 900) (sel (aL (ieq (yZ H) 0)) (K (V.tup [A,V.int .i64 (yZ H)])) (sel (ak (ax 0 7) (aR 7 (ay xs))) (sel (ax (aB D) 900) (sel (aL (ieq (lN D) 0)) (K (V.tup [A,V.int .i64 (lN D)])) (sel (ax (-10800) (fH D)) (sel (aL (ax (fH D) 10800)) M (sel (ak (ax 0 8) (aR 8 (ay xs))) (sel (ax (aB L) 900) (sel (aL (ieq (Ak L) 0)) (K (V.tup [A,V.int .i64 (Ak L)])) (K (V.tup [V.agg [V.str I,V.int .i64 (yY C),V.int .i64 (ytI J (yY C)),V.int .i64 (ve G),V.int .i64 (rq B),V.int .i64 (iL B),V.int .i64 (ru B),V.int .i64 (Qx H),V.int .i64 (Qy H),V.int .i64 (fH D),V.str (Aq L)],E]))) none) none)) M)) none) none)) none) none))) none) none)) none) none)) none)) none) none)) none) none)) none) none) none)):=by kernel_rfl
theorem Wk (F g c h i d a e b f) (K:V→Option V):
 bE zE (bC zE zS F 10) F 98 [V.sl 9 [Kd.str] none [V.str g,V.str c,V.str h,V.str i,V.str d,V.str a,V.str e,V.str b,V.str f]] K=
 let B:=ay [V.str g,V.str c,V.str h,V.str i,V.str d,V.str a,V.str e,V.str b,V.str f];let C:=V.int .i64 0;let G:=Qi h (yY c);let A:=V.agg [V.str [],C,C,C,C,C,C,C,C,C,V.str []];let E:=ak (ax 0 0) (aR 0 B);let D:=K (V.tup [A,V.int .i64 1]);sel (aL (ax 9 B)) (K (V.tup [A,V.int .i64 5])) (sel (aL (ax B 9)) (K (V.tup [A,V.int .i64 6])) (sel E (sel E (sel (ax (aB g) 1000) (sel (aL (ieq (dK g) 0)) (K (V.tup [A,V.int .i64 (dK g)])) (sel (ak (ax 0 1) (aR 1 B)) (sel (ax (aB c) 900) (sel (aL (ieq (K9 c) 0)) (K (V.tup [A,V.int .i64 (K9 c)])) (sel (ak (ax 0 2) (aR 2 B)) (sel (ax (aB h) 900) (sel (aL (ieq G 0)) (K (V.tup [A,V.int .i64 G])) (sel (ak (ax 0 3) (aR 3 B)) (sel (aL (seq i [45])) (K (V.tup [A,V.int .i64 3])) (sel (ak (ax 0 4) (aR 4 B)) (sel (ax (aB d) 900) (sel (aL (ieq (qj d) 0)) (K (V.tup [A,V.int .i64 (qj d)])) (sel (ak (ax 0 5) (aR 5 B)) (sel (ax (aB a) 900) (sel (aL (ieq (sU a) 0)) (K (V.tup [A,V.int .i64 (sU a)])) (sel (aL (qm (rq a) (iL a) (ru a) (ve d))) D (sel (ak (ax 0 6) (aR 6 B)) (sel (ax (aB e) 900) (sel (aL (ieq (yZ e) 0)) (K (V.tup [A,V.int .i64 (yZ e)])) (sel (ak (ax 0 7) (aR 7 B)) (sel (ax (aB b) 900) (sel (aL (ieq (lN b) 0)) (K (V.tup [A,V.int .i64 (lN b)])) (sel (ax (-10800) (fH b)) (sel (aL (ax (fH b) 10800)) D (sel (ak (ax 0 8) (aR 8 B)) (sel (ax (aB f) 900) (sel (aL (ieq (Ak f) 0)) (K (V.tup [A,V.int .i64 (Ak f)])) (K (V.tup [V.agg [V.str g,V.int .i64 (yY c),V.int .i64 (ytI h (yY c)),V.int .i64 (ve d),V.int .i64 (rq a),V.int .i64 (iL a),V.int .i64 (ru a),V.int .i64 (Qx e),V.int .i64 (Qy e),V.int .i64 (fH b),V.str (Aq f)],C]))) none) none)) D)) none) none)) none) none))) none) none)) none) none)) none)) none) none)) none) none)) none) none) none)):=by kernel_rfl
theorem XA:uQ zE:=⟨by kernel_rfl,by kernel_rfl⟩
theorem toZ {f:Nat} {args:ah} {r:V} (h:aj nE f args r):aj zE f args r:=aj.env (E:=nE) rfl (fun n v h=>by cases h) h
theorem toZy {f:Nat} {args:ah} {r:V} (h:aj yE f args r):aj zE f args r:=aj.env (E:=yE) rfl (fun n v h=>by cases h) h
theorem toZv {f:Nat} {args:ah} {r:V} (h:aj vE f args r):aj zE f args r:=aj.env (E:=vE) rfl (fun n v h=>by cases h) h
theorem toZw {f:Nat} {args:ah} {r:V} (h:aj wE f args r):aj zE f args r:=aj.env (E:=wE) rfl (fun n v h=>by
 unfold wE at h;simp only at h
 cases e:n==2 with
 |true=>
  obtain rfl:n=2:=by simpa using e
  exact h
 |false=>rw[e] at h;cases h) h
theorem toZm {f:Nat} {args:ah} {r:V} (h:aj mE f args r):aj zE f args r:=aj.env (E:=mE) rfl (fun n v h=>by
 unfold mE at h;simp only at h
 cases e:n==0 with
 |true=>
  obtain rfl:n=0:=by simpa using e
  exact h
 |false=>rw[e] at h;cases h) h
theorem toZf {f:Nat} {args:ah} {r:V} (h:aj fE f args r):aj zE f args r:=aj.env (E:=fE) rfl (fun n v h=>by
 unfold fE at h;simp only at h
 cases e:n==3 with
 |true=>
  obtain rfl:n=3:=by simpa using e
  exact h
 |false=>rw[e] at h;cases h) h
theorem toZa {f:Nat} {args:ah} {r:V} (h:aj aE f args r):aj zE f args r:=aj.env (E:=aE) rfl (fun n v h=>by
 unfold aE at h;simp only at h
 cases e:n==4 with
 |true=>
   obtain rfl:n=4:=by simpa using e
   exact h
 |false=>
  rw[e] at h;simp only[jW] at h
  cases e:n==3 with
  |true=>
    obtain rfl:n=3:=by simpa using e
    exact h
  |false=>rw[e] at h;cases h) h
theorem len_z {s:af} (h:ax (aB s) 1000=true):s.length≤1000:=by rw[aA,aJ] at h;omega
theorem tN {s:af} (h:ax (aB s) 900=true):s.length≤900:=by rw[aA,aJ] at h;omega
theorem Im {m:Int} (h:ak (ax (-9223372036854775808) m) (ax m 9223372036854775807)=true):Fits m:=by rw[aM,aA,aA] at h;exact h
theorem ad9 (s:af) (c:Int) (a:true=true):aj zE 63 [.str s,.int .u8 c] (.int .i64 (vv s c)):=toZ (idx_c s c)
theorem zLenS_ok (y m:Int) (a:ak (ax (-9223372036854775808) y) (ax y 9223372036854775807)=true):aj zE 75 [.int .i64 y,.int .i64 m] (.int .i64 (gK y m)):=toZv (OU y m (Im a))
theorem zOnS_ok (k w d:Int) (a:true=true):aj zE 53 [.agg [.int .i64 k,.int .i64 w,.int .i64 d]] (.bool (Nn k w d)):=toZw (MC k w d)
theorem NU:aZ zE zS0:=by
 unfold zS0;refine aZ.cons (fun args r h=>?_) (aZ.cons (fun args r h=>?_) (aZ.cons (fun args r h=>?_) aZ.nil));all_goals (revert h;intro h;first|unfold zByteS at h|unfold zLenS at h|unfold zOnS at h)
 all_goals (split at h;rotate_left; · cases h)
 all_goals (simp only[aT,bP] at h;obtain⟨a,rfl⟩:=h)
 ·exact ad9 _ _ rfl
 ·exact zLenS_ok _ _ a
 exact zOnS_ok _ _ _ rfl
theorem uq (c:UInt8):(ax 97 (kg .or .u8 ((c.toNat:Nat):Int) 32)&&ax (kg .or .u8 ((c.toNat:Nat):Int) 32) 122)=((decide (65≤c.toNat)&&decide (c.toNat≤90))||(decide (97≤c.toNat)&&decide (c.toNat≤122))):=by
 have h: ∀n:Fin 256,(ax 97 (kg .or .u8 ((n.val:Nat):Int) 32)&&ax (kg .or .u8 ((n.val:Nat):Int) 32) 122)=((decide (65≤n.val)&&decide (n.val≤90))||(decide (97≤n.val)&&decide (n.val≤122))):=by decide+kernel
 exact h ⟨c.toNat,c.toNat_lt⟩
theorem OV (c:UInt8):ax 0 (vv [45,43,47,46] ((c.toNat:Nat):Int))=(c==45||c==43||c==47||c==46):=by
 have h: ∀n:Fin 256,ax 0 (vv [45,43,47,46] ((n.val:Nat):Int))=(UInt8.ofNat n==45||UInt8.ofNat n==43||UInt8.ofNat n==47||UInt8.ofNat n==46):=by decide+kernel
 have:=h ⟨c.toNat,c.toNat_lt⟩;simpa using this
theorem Va (c d:UInt8):ieq ((c.toNat:Nat):Int) ((d.toNat:Nat):Int)=(c==d):=by rw[uF,aO,iJ,←acA];omega
theorem Io (c:UInt8) (a:Nat):ax (a:Int) ((c.toNat:Nat):Int)=decide (a≤c.toNat):=by rw[uF,aA,lK];omega
theorem Be (c:UInt8) (a:Nat):ax ((c.toNat:Nat):Int) (a:Int)=decide (c.toNat≤a):=by rw[uF,aA,lK];omega
theorem Wl (s:af) (c:Int) (F n k:Nat) (h:k<s.length) (i:s.length≤64):pP F [] (n+1) s c (aH s) (ay (aH s)) (k:Int) some=
  if Kq k (s[k])=true then pP F [] n s c (aH s) (ay (aH s)) ((k+1:Nat):Int) some else some (.int .i64 10):=by
 have f:(aH s).length=s.length:=by unfold aH;rw[kS]
 have e:asInt (ai (aG (aH s) (k:Int)) 0)=((s[k].toNat:Nat):Int):=by rw[fo];unfold aH;rw[l7,uE,iK h];rfl
 have a:ieq ((s[k].toNat:Nat):Int) 95=(s[k]==95):=Va s[k] 95;have d:ax 48 ((s[k].toNat:Nat):Int)=decide (48≤s[k].toNat):=Io s[k] 48;have b:ax ((s[k].toNat:Nat):Int) 57=decide (s[k].toNat≤57):=Be s[k] 57;have g:aR 0 (k:Int)=decide (0<k):=by rw[uF,bq,lK];omega
 have hL:=uq s[k]
 (rw[yH];(conv=>zeta);rw[av (bu (by rw[aC,f];omega)),av (by rw[aM,aA,bq,aC,f];omega),e,a,d,b,g,OV,cr (by omega),show(k:Int)+1=((k+1:Nat):Int) by omega])
 unfold Kq UI UJ;rw[←hL];generalize pP F [] n s c (aH s) (ay (aH s)) ((k+1:Nat):Int) some=N;generalize ax 97 (kg .or .u8 ((s[k].toNat:Nat):Int) 32)=b1;generalize ax (kg .or .u8 ((s[k].toNat:Nat):Int) 32) 122=b2;generalize (s[k]==95)=b3;generalize decide (0<k)=b4;generalize decide (48≤s[k].toNat)=b5;generalize decide (s[k].toNat≤57)=b6;generalize (s[k]==45)=b7;generalize (s[k]==43)=b8;generalize (s[k]==47)=b9;generalize (s[k]==46)=b10
 cases b1<;>cases b2<;>cases b3<;>cases b4<;>cases b5<;>cases b6<;>cases b7<;>cases b8<;>cases b9<;>cases b10<;>rfl
theorem Wm (s:af) (b:Int) (F:Nat) (e:s.length≤64): ∀(n k:Nat),k≤s.length→s.length-k<n→
  pP F [] n s b (aH s) (ay (aH s)) (k:Int) some=some (.int .i64 (if xZ k (s.drop k)=true then(if s=[] then 10 else 0) else 10)):=by
 intro n;induction n with
 |zero=>intro k _ h;omega
 |succ n d=>
  intro k f i;by_cases h:k<s.length
  ·rw[Wl s b F n k h e,abg h]
   show _=some (V.int .i64 (if(Kq k s[k]&&xZ (k+1) (s.drop (k+1)))=true then _ else _))
   cases g:Kq k s[k] with
   |true=>rw[if_pos rfl,d (k+1) (by omega) (by omega),Ke]
   |false=>rw[if_neg (by decide),Bool.false_and,if_neg (by decide)]
  have c:(aH s).length=s.length:=by unfold aH;rw[kS]
  (rw[yH];(conv=>zeta);rw[aI (bB (by rw[aC,c];omega)),abj (by omega),if_pos (show xZ k []=true from rfl),bM])
  by_cases a:s=[]
  ·rw[if_pos (by rw[dx];exact a),if_pos a]
  rw[if_neg (by rw[dx];exact a),if_neg a]
theorem Vb (s:af):(if xZ 0 s=true then(if s=[] then(10:Int) else 0) else 10)=if xZ 0 s=true∧s≠[] then 0 else 10:=by
 by_cases h:xZ 0 s=true
 ·rw[if_pos h]
  by_cases a:s=[]
  ·rw[if_pos a,if_neg (fun e=>e.2 a)]
  rw[if_neg a,if_pos ⟨h,a⟩]
 rw[if_neg h,if_neg (fun e=>h e.1)]
theorem zName_ev (s:af) (a:s.length≤1000):aj zE 42 [.str s] (.int .i64 (dK s)):=by
 refine au XA NU 100 2 ?_;rw[MF];unfold dK;by_cases h:64<s.length
 ·rw[av (bu (by rw[aJ];omega)),if_pos h]
 rw[aI (bB (by rw[aJ];omega)),if_neg h,av (by rw[DL];omega)];have:=Wm s 0 100 (by omega) 100 0 (by omega) (by omega);rw[WX,Vb] at this;exact this
theorem DV (s:af) (a:ax (aB s) 1000=true):aj zE 42 [.str s] (.int .i64 (dK s)):=zName_ev s (len_z a)
theorem ft_tree (k w d m y:Int) (a:jo y=false):sel (Nn k w d) (sel (ax 1 m) (sel (ax m 12) (some (V.bool (ax d (gK y m)))) (some (V.bool false))) (some (V.bool false))) (some (V.bool false))=some (.bool (qm k w d m)):=by
 have e:gK y m=gK 1 m:=by unfold gK;rw[a];rfl
 rw[e];unfold qm;have b:decide (1≤m∧m≤12∧d≤gK 1 m)=(ax 1 m&&(ax m 12&&ax d (gK 1 m))):=by rw[uF,bF,bF,aA,aA,aA,lK]
 rw[b];generalize ax d (gK 1 m)=x
 cases Nn k w d<;>cases ax 1 m<;>cases ax m 12<;>rfl
theorem DW (k w d m:Int) (a:true=true):aj zE 48 [.agg [.int .i64 k,.int .i64 w,.int .i64 d],.int .i64 m] (.bool (qm k w d m)):=by
 refine au XA NU 5 3 ?_
 (rw[ad8];(conv=>zeta))
 exact ft_tree k w d m 1 (by decide)
theorem aea (s:af) (a:ax (aB s) 900=true):aj zE 148 [.str s] (.tup [.int .i64 (yY s),.int .i64 (K9 s)]):=toZy (yFrom_ev s (by have:=tN a;omega))
theorem zToS_ok (s:af) (n:Int) (a:ax (aB s) 900=true):aj zE 149 [.str s,.int .i64 n] (.tup [.int .i64 (ytI s n),.int .i64 (Qi s n)]):=toZy (yTo_ev s n (by have:=tN a;omega))
theorem RF (s:af) (a:ax (aB s) 900=true):aj zE 150 [.str s] (.tup [.int .i64 (ve s),.int .i64 (qj s)]):=toZm (ad6 s (by have:=tN a;omega))
theorem RG (s:af) (a:ax (aB s) 900=true):aj zE 152 [.str s] (.tup [.agg [.int .i64 (rq s),.int .i64 (iL s),.int .i64 (ru s)],.int .i64 (sU s)]):=toZw (dRead_ev s (tN a))
theorem RH (s:af) (a:ax (aB s) 900=true):aj zE 154 [.str s] (.tup [.agg [.int .i64 (Qx s),.int .i64 (Qy s)],.int .i64 (yZ s)]):=toZa (cRead_ev s (by have:=tN a;omega))
theorem RI (s:af) (a:ax (aB s) 900=true):aj zE 141 [.str s] (.tup [.int .i64 (fH s),.int .i64 (lN s)]):=toZa (RJ s (by have:=tN a;omega))
theorem RL (s:af) (a:ax (aB s) 900=true):aj zE 56 [.str s] (.tup [.str (Aq s),.int .i64 (Ak s)]):=toZf (JQ s (bn (by have:=tN a;rw[aJ];omega)))
theorem Yi (n:Int) (a:true=true):aj zE 31 [.int .i64 n] (.tup [.str (La n),.int .i64 (ZB n)]):=toZy (Cf n)
theorem Yj (m n:Int) (a:true=true):aj zE 32 [.int .i64 m,.int .i64 n] (.tup [.str (uV m n),.int .i64 (CW m n)]):=toZy (JR m n)
theorem OW (k w d:Int) (a:true=true):aj zE 33 [.agg [.int .i64 k,.int .i64 w,.int .i64 d]] (.tup [.str (fI k w d),.int .i64 (dsTe k w d)]):=toZw (dText_ev k w d)
theorem OX (n b:Int) (a:true=true):aj zE 34 [.agg [.int .i64 n,.int .i64 b]] (.tup [.str (Ai n b),.int .i64 (tcW n b)]):=toZa (Wn n b)
theorem OY (n b:Int) (a:true=true):aj zE 49 [.agg [.int .i64 n,.int .i64 b]] (.bool (dO n b)):=toZa (aeb n b)
theorem OZ (n:Int) (a:ak (ax (-9223372036854775808) n) (ax n 9223372036854775807)=true):aj zE 35 [.int .i64 n] (.tup [.str (Aj n),.int .i64 (amE n)]):=toZa (RN n (Im a).1 (Im a).2)
theorem zLtS_ok (s:af) (a:ax (aB s) 900=true):aj zE 36 [.str s] (.tup [.str (G5 s),.int .i64 (Kr s)]):=toZf (MH s (by have:=tN a;omega))
theorem O0 (n:Int) (a:ak (ax (-9223372036854775808) n) (ax n 9223372036854775807)=true):aj zE 37 [.int .i64 n] (.str (ql n)):=toZm (ad7 n (Im a))
theorem zS_ok:aZ zE zS:=by
 unfold zS;refine aZ.cons (fun args r h=>?_) (aZ.cons (fun args r h=>?_) (aZ.cons (fun args r h=>?_) (aZ.cons (fun args r h=>?_) (aZ.cons (fun args r h=>?_) (aZ.cons (fun args r h=>?_) (aZ.cons (fun args r h=>?_) (aZ.cons (fun args r h=>?_) (aZ.cons (fun args r h=>?_) (aZ.cons (fun args r h=>?_) (aZ.cons (fun args r h=>?_) (aZ.cons (fun args r h=>?_) (aZ.cons (fun args r h=>?_) (aZ.cons (fun args r h=>?_) (aZ.cons (fun args r h=>?_) (aZ.cons (fun args r h=>?_) (aZ.cons (fun args r h=>?_) NU))))))))))))))));all_goals (revert h;intro h;first|unfold NT at h|unfold Db at h|unfold zFromS at h|unfold zToS at h|unfold Xw at h|unfold Xx at h|unfold Xy at h|unfold Xz at h|unfold zLetS at h|unfold zFxS at h|unfold zTxS at h|unfold ZL at h|unfold ZM at h|unfold ZN at h|unfold ZO at h|unfold zLtS at h|unfold ZQ at h)
 all_goals (split at h;rotate_left; · cases h)
 all_goals (simp only[aT,bP] at h;obtain⟨a,rfl⟩:=h)
 ·exact DV _ a
 ·exact DW _ _ _ _ rfl
 ·exact aea _ a
 ·exact zToS_ok _ _ a
 ·exact RF _ a
 ·exact RG _ a
 ·exact RH _ a
 ·exact RI _ a
 ·exact RL _ a
 ·exact Yi _ rfl
 ·exact Yj _ _ rfl
 ·exact OW _ _ _ rfl
 ·exact OX _ _ rfl
 ·exact OY _ _ rfl
 ·exact OZ _ a
 ·exact zLtS_ok _ a
 exact O0 _ a
def rg (xs:ah) (i:Int):af:=aF (ai (aG xs i) 0)
def sV (v:V):Bool:=match v with| .str s=>ax (aB s) 900|_=>false
def gL (xs:ah):Bool:=xs.all sV
def G6 (xs:ah):Bool:=
 ieq (ay xs) 9&&(ieq (dK (rg xs 0)) 0&&(ieq (K9 (rg xs 1)) 0&&(ieq (Qi (rg xs 2) (yY (rg xs 1))) 0&&(seq (rg xs 3) [45]&&(ieq (qj (rg xs 4)) 0&&(ieq (sU (rg xs 5)) 0&&(qm (rq (rg xs 5)) (iL (rg xs 5)) (ru (rg xs 5)) (ve (rg xs 4))&&(ieq (yZ (rg xs 6)) 0&&(ieq (lN (rg xs 7)) 0&&(ax (-10800) (fH (rg xs 7))&&(ax (fH (rg xs 7)) 10800&&ieq (Ak (rg xs 8)) 0)))))))))))
def rdE (xs:ah):Int:=
 sel (aR (ay xs) 9) 5 (sel (aR 9 (ay xs)) 6 (sel (ieq (dK (rg xs 0)) 0) (sel (ieq (K9 (rg xs 1)) 0) (sel (ieq (Qi (rg xs 2) (yY (rg xs 1))) 0) (sel (seq (rg xs 3) [45]) (sel (ieq (qj (rg xs 4)) 0) (sel (ieq (sU (rg xs 5)) 0) (sel (qm (rq (rg xs 5)) (iL (rg xs 5)) (ru (rg xs 5)) (ve (rg xs 4))) (sel (ieq (yZ (rg xs 6)) 0) (sel (ieq (lN (rg xs 7)) 0) (sel (ax (-10800) (fH (rg xs 7))) (sel (ax (fH (rg xs 7)) 10800) (Ak (rg xs 8)) 1) 1) (lN (rg xs 7))) (yZ (rg xs 6))) 1) (sU (rg xs 5))) (qj (rg xs 4))) 3) (Qi (rg xs 2) (yY (rg xs 1)))) (K9 (rg xs 1))) (dK (rg xs 0))))
def Uq (xs:ah):af:=sel (G6 xs) (rg xs 0) []
def Ur (xs:ah):Int:=sel (G6 xs) (yY (rg xs 1)) 0
def Us (xs:ah):Int:=sel (G6 xs) (ytI (rg xs 2) (yY (rg xs 1))) 0
def Ut (xs:ah):Int:=sel (G6 xs) (ve (rg xs 4)) 0
def Uu (xs:ah):Int:=sel (G6 xs) (rq (rg xs 5)) 0
def Uv (xs:ah):Int:=sel (G6 xs) (iL (rg xs 5)) 0
def Uw (xs:ah):Int:=sel (G6 xs) (ru (rg xs 5)) 0
def Ux (xs:ah):Int:=sel (G6 xs) (Qx (rg xs 6)) 0
def Uy (xs:ah):Int:=sel (G6 xs) (Qy (rg xs 6)) 0
def Uz (xs:ah):Int:=sel (G6 xs) (fH (rg xs 7)) 0
def zh (xs:ah):af:=sel (G6 xs) (Aq (rg xs 8)) []
def Qz (xs:ah):Int:=sel (G6 xs) 0 (rdE xs)
def rdV (xs:ah):V:=.tup [.agg [.str (Uq xs),.int .i64 (Ur xs),.int .i64 (Us xs),.int .i64 (Ut xs),.int .i64 (Uu xs),.int .i64 (Uv xs),.int .i64 (Uw xs),.int .i64 (Ux xs),.int .i64 (Uy xs),.int .i64 (Uz xs),.str (zh xs)],.int .i64 (Qz xs)]
theorem rd_no (xs:ah) (h:G6 xs=false):rdV xs=.tup [.agg [.str [],.int .i64 0,.int .i64 0,.int .i64 0,.int .i64 0,.int .i64 0,.int .i64 0,.int .i64 0,.int .i64 0,.int .i64 0,.str []],.int .i64 (rdE xs)]:=by unfold rdV Uq Ur Us Ut Uu Uv Uw Ux Uy Uz zh Qz;rw[h];rfl
theorem rd_yes (xs:ah) (h:G6 xs=true):rdV xs=.tup [.agg [.str (rg xs 0),.int .i64 (yY (rg xs 1)),.int .i64 (ytI (rg xs 2) (yY (rg xs 1))),.int .i64 (ve (rg xs 4)),.int .i64 (rq (rg xs 5)),.int .i64 (iL (rg xs 5)),.int .i64 (ru (rg xs 5)),.int .i64 (Qx (rg xs 6)),.int .i64 (Qy (rg xs 6)),.int .i64 (fH (rg xs 7)),.str (Aq (rg xs 8))],.int .i64 0]:=by unfold rdV Uq Ur Us Ut Uu Uv Uw Ux Uy Uz zh Qz;rw[h];rfl
theorem xJ: ∀(xs:ah),gL xs=true→ ∃l:List (af),xs=l.map V.str∧ ∀a∈l,ax (aB a) 900=true
 |[],_=>⟨[],rfl,fun a h=>by cases h⟩
 |v::xs,h=>by
  unfold gL at h;rw[K8,bF] at h;obtain⟨l,e,c⟩:=xJ xs h.2
  cases v with
  |str s=>exact⟨s::l,by rw[e];rfl,fun a b=>by
   rw[ZA] at b;rcases b with rfl|b
   ·exact h.1
   exact c a b⟩
  |_=>exact absurd (show false=true from h.1) (by decide)
theorem nine (xs:ah) (h:gL xs=true) (m:xs.length=9): ∃f g i k b j e d c:af,xs=[.str f,.str g,.str i,.str k,.str b,.str j,.str e,.str d,.str c]∧ax (aB f) 900=true∧ax (aB g) 900=true∧ax (aB i) 900=true∧ax (aB b) 900=true∧ax (aB j) 900=true∧ax (aB e) 900=true∧ax (aB d) 900=true∧ax (aB c) 900=true:=by
 obtain⟨l,rfl,a⟩:=xJ xs h;rw[kS] at m;match l,m,a with
 |[f,g,i,k,b,j,e,d,c],_,a=>exact⟨f,g,i,k,b,j,e,d,c,rfl,a _ (by simp),a _ (by simp),a _ (by simp),a _ (by simp),a _ (by simp),a _ (by simp),a _ (by simp),a _ (by simp)⟩
theorem llen_9 (f e c b g h d i a:V):ay [f,e,c,b,g,h,d,i,a]=9:=rfl
theorem sT {α:Type} (x y:α):sel true x y=x:=rfl
theorem sF {α:Type} (x y:α):sel false x y=y:=rfl
theorem zy {s:af} (h:ax (aB s) 900=true):ax (aB s) 1000=true:=by rw[aA] at*;omega
theorem rd_len (xs:ah) (h:ay xs≠9):G6 xs=false:=by unfold G6;rw[bH h];rfl
theorem zRead_ev (xs:ah) (h:gL xs=true):aj zE 98 [.sl 9 [.str] none xs] (rdV xs):=by
 refine au XA zS_ok 5 10 ?_;by_cases l:ay xs<9
 ·(rw[MG];(conv=>zeta);rw[av (by rw[bY,aA];omega),rd_no xs (rd_len xs (by omega))])
  unfold rdE;rw[bu l];rfl
 by_cases k:9<ay xs
 ·(rw[MG];(conv=>zeta);rw[aI (by rw[bn (by omega)];rfl),av (by rw[bY,aA];omega),rd_no xs (rd_len xs (by omega))])
  unfold rdE;rw[bB (by omega),bu k];rfl
 obtain⟨e,c,g,j,d,a,f,b,i,rfl,c0,t,v,u,x,z,r,n⟩:=nine xs h (by unfold ay at l k;omega)
 (rw[Wk];(conv=>zeta))
 have g0:G6 [.str e,.str c,.str g,.str j,.str d,.str a,.str f,.str b,.str i]=(ieq (dK e) 0&&(ieq (K9 c) 0&&(ieq (Qi g (yY c)) 0&&(seq j [45]&&(ieq (qj d) 0&&(ieq (sU a) 0&&(qm (rq a) (iL a) (ru a) (ve d)&&(ieq (yZ f) 0&&(ieq (lN b) 0&&(ax (-10800) (fH b)&&(ax (fH b) 10800&&ieq (Ak i) 0))))))))))):=rfl;have g1:rdE [.str e,.str c,.str g,.str j,.str d,.str a,.str f,.str b,.str i]=sel (ieq (dK e) 0) (sel (ieq (K9 c) 0) (sel (ieq (Qi g (yY c)) 0) (sel (seq j [45]) (sel (ieq (qj d) 0) (sel (ieq (sU a) 0) (sel (qm (rq a) (iL a) (ru a) (ve d)) (sel (ieq (yZ f) 0) (sel (ieq (lN b) 0) (sel (ax (-10800) (fH b)) (sel (ax (fH b) 10800) (Ak i) 1) 1) (lN b)) (yZ f)) 1) (sU a)) (qj d)) 3) (Qi g (yY c))) (K9 c)) (dK e):=rfl;have q:rg [.str e,.str c,.str g,.str j,.str d,.str a,.str f,.str b,.str i] 0=e:=rfl;have m:rg [.str e,.str c,.str g,.str j,.str d,.str a,.str f,.str b,.str i] 1=c:=rfl;have y:rg [.str e,.str c,.str g,.str j,.str d,.str a,.str f,.str b,.str i] 2=g:=rfl;have A:rg [.str e,.str c,.str g,.str j,.str d,.str a,.str f,.str b,.str i] 4=d:=rfl;have s:rg [.str e,.str c,.str g,.str j,.str d,.str a,.str f,.str b,.str i] 5=a:=rfl;have w:rg [.str e,.str c,.str g,.str j,.str d,.str a,.str f,.str b,.str i] 6=f:=rfl;have p:rg [.str e,.str c,.str g,.str j,.str d,.str a,.str f,.str b,.str i] 7=b:=rfl;have o:rg [.str e,.str c,.str g,.str j,.str d,.str a,.str f,.str b,.str i] 8=i:=rfl;unfold rdV Uq Ur Us Ut Uu Uv Uw Ux Uy Uz zh Qz
 rw[g0,g1,q,m,y,A,s,w,p,o];simp only[llen_9,zy c0,t,v,u,x,z,r,n,sT];show sel (aL (ieq (dK e) 0)) _ (sel (aL (ieq (K9 c) 0)) _ _)=_
 cases ieq (dK e) 0 with
 |false=>rfl
 |true=>
 cases ieq (K9 c) 0 with
 |false=>rfl
 |true=>
 cases ieq (Qi g (yY c)) 0 with
 |false=>rfl
 |true=>
 cases seq j [45] with
 |false=>rfl
 |true=>
 cases ieq (qj d) 0 with
 |false=>rfl
 |true=>
 cases ieq (sU a) 0 with
 |false=>rfl
 |true=>
 cases qm (rq a) (iL a) (ru a) (ve d) with
 |false=>rfl
 |true=>
 cases ieq (yZ f) 0 with
 |false=>rfl
 |true=>
 cases ieq (lN b) 0 with
 |false=>rfl
 |true=>
 cases ax (-10800) (fH b) with
 |false=>rfl
 |true=>
 cases ax (fH b) 10800 with
 |false=>rfl
 |true=>
 cases ieq (Ak i) 0 with
 |false=>rfl
 |true=>rfl
theorem jE (s:af) (m:Int):odE s m=sel (ieq (sU s) 0) (sel (qm (rq s) (iL s) (ru s) m) 0 1) (sU s):=by
 unfold odE odP;rw[bM,bM];by_cases h:sU s=0
 ·rw[if_pos h,if_pos (bA h)]
  by_cases a:qm (rq s) (iL s) (ru s) m=true
  ·rw[if_pos a,if_pos a]
  rw[if_neg a,if_neg a]
 rw[if_neg h,if_neg (by rw[aO];exact h)]
theorem gP (s:af):svW s=sel (ieq (lN s) 0) (sel (ax (-10800) (fH s)) (sel (ax (fH s) 10800) 0 1) 1) (lN s):=by
 unfold svW svP;simp only[bM,aO,aA];by_cases h:lN s=0
 ·rw[if_pos h,if_pos h]
  by_cases a: -10800≤fH s
  ·rw[if_pos a]
   by_cases b:fH s≤10800
   ·rw[if_pos b,if_neg (by omega)]
   rw[if_neg b,if_pos (by omega)]
  rw[if_neg a,if_pos (by omega)]
 rw[if_neg h,if_neg h]
theorem yr_eq (f t:Int):(ieq (CW f t) 0&&ieq (ZB f) 0)=yrB f t:=by
 rw[uF,bF,aO,aO];unfold yrB;rw[bF,bF,aA,aA,aA];unfold CW ZB iC fw;constructor
 ·rintro⟨d,e⟩
  by_cases a: -32767≤f∧f≤32767
  ·by_cases b: -32767≤t∧t≤32767
   ·rw[if_pos b] at d
    by_cases c:t<f
    ·rw[if_pos c] at d;cases d
    omega
   rw[if_neg b] at d;cases d
  rw[if_neg a] at e;cases e
 rintro⟨d,e,g⟩;rw[if_pos (show -32767≤t∧t≤32767 by omega),if_pos (show -32767≤f∧f≤32767 by omega),if_neg (show¬t<f by omega)];constructor
 ·(repeat' split)<;>rfl
 (repeat' split)<;>rfl
theorem Bf (m:Int) (a:1≤m) (b:m≤12):ve (ql m)=m∧qj (ql m)=0∧(ql m).length≤10:=by
 obtain rfl|rfl|rfl|rfl|rfl|rfl|rfl|rfl|rfl|rfl|rfl|rfl:m=1∨m=2∨m=3∨m=4∨m=5∨m=6∨m=7∨m=8∨m=9∨m=10∨m=11∨m=12:=by omega
 all_goals decide+kernel
theorem cls_rng (x:Int):0≤ng x∧ng x≤3:=by
 unfold ng
 (repeat' split)<;>decide
theorem bsB_rng (s:af):0≤G7 s∧G7 s≤2:=by
 unfold G7 bsP;split
 ·show(0:Int)≤0∧(0:Int)≤2
  decide
 rename_i c _;have:=cls_rng (c.toNat:Int);split
 ·show(0:Int)≤0∧(0:Int)≤2
  decide
 show 0≤ng _∧ng _≤2;omega
theorem RO (s:af) (h:yZ s=0):dO (Qx s) (Qy s)=true:=by
 have c:=bsB_rng s;unfold yZ uI at h;unfold Qx Qy uI dO;by_cases b:FL (Ed s)=0
 ·rw[if_pos b] at h⊢
  by_cases a:0≤ZC (Ed s)∧ZC (Ed s)≤172800
  ·rw[if_pos a] at h⊢
   exact uG ⟨a.1,a.2,c.1,c.2⟩
  rw[if_neg a] at h;cases h
 rw[if_neg b] at h;exact absurd h b
theorem Bg (n b:Int) (g:dO n b=true):Qx (Ai n b)=n∧Qy (Ai n b)=b∧yZ (Ai n b)=0∧(Ai n b).length≤20:=by
 have a:=g;unfold dO at a;have a:=FY a;obtain⟨l,c,j,v,w,i⟩:=aec n (by omega) (by omega);have e:0≤n∧n≤172800:=by omega
 have d:=(Yk n e).2;have f:ng (c.toNat:Int)=3:=by unfold ng;rw[if_neg (by omega),if_neg (by omega),if_neg (by omega)]
 have s:Ai n b=(aQ.text n).1++letC b:=by unfold Ai Hz;rw[if_pos g];rfl
 have u:(aQ.text n).1.length≤10:=d;rw[s];generalize (aQ.text n).1=t at*;have h: ∀(x:UInt8) (q:Int),ng (x.toNat:Int)=q→q≠3→Qx (t++[x])=n∧Qy (t++[x])=q∧yZ (t++[x])=0∧(t++[x]).length≤20:=fun x q m o=>by have:=Wo t x n q m o i e;unfold Qx Qy yZ;rw[this];exact⟨rfl,rfl,rfl,by simp;omega⟩
 have k:b=0∨b=1∨b=2:=by omega
 rcases k with rfl|rfl|rfl
 ·have p:t++letC 0=t:=by unfold letC;simp
  have r:uI t=(n,0,0):=by rw[j];exact Wp l c n f (by rw[←j];exact i) e
  rw[p];unfold Qx Qy yZ;rw[r];exact⟨rfl,rfl,rfl,by omega⟩
 ·exact h 115 1 rfl (by decide)
 exact h 117 2 rfl (by decide)
theorem am_neg (k:Nat) (h:k≤604799):aQ.read ([45]++qw k)=(-(k:Int),0):=by rw[JN (posL_ne k h),xh,RP _ k h (xk k h).1 (xk k h).2];rfl
theorem xq (v:Int) (d: -604799≤v) (c:v≤604799):fH (Aj v)=v∧lN (Aj v)=0∧(Aj v).length≤40:=by
 unfold fH lN Aj;by_cases a:v=0
 ·subst a;decide
 by_cases b:0<v
 ·obtain⟨k,rfl⟩: ∃k:Nat,v=(k:Int):=⟨v.toNat,by omega⟩
  have e:=I7 k (by omega);rw[Bh k (by omega) (by omega),RQ k (by omega)];exact⟨rfl,rfl,by show(qw k).length≤40;omega⟩
 obtain⟨k,rfl⟩: ∃k:Nat,v= -(k:Int):=⟨v.natAbs,by omega⟩
 have e:=I7 k (by omega);rw[O1 k (by omega) (by omega),am_neg k (by omega)];exact⟨rfl,rfl,by show([45]++qw k).length≤40;simp;omega⟩
theorem MI (s:af) (h:(vB s).2=0): -32767≤(vB s).1∧(vB s).1≤32767:=by
 unfold vB at h⊢;by_cases a:nrW s=0
 ·rw[if_pos a] at h⊢
  by_cases b: -32767≤iF s∧iF s≤32767
  ·rw[if_pos b];exact b
  rw[if_neg b] at h;cases h
 rw[if_neg a] at h;exact absurd h a
theorem yf_rng (s:af) (h:K9 s=0): -32767≤yY s∧yY s≤32767:=by
 unfold K9 pJ at h;unfold yY pJ;by_cases a:numeral s=true
 ·rw[if_pos a] at h⊢;exact MI s h
 rw[if_neg a] at h⊢;by_cases b:oU s FE=0∧mo s FE=0
 ·rw[if_pos b];decide
 rw[if_neg b] at h;cases h
theorem yl_rng (s:af) (n:Int) (e:n≤32767) (h:(jd s n).2=0):(jd s n).1≤32767:=by
 unfold jd at h⊢;by_cases c:numeral s=true
 ·rw[if_pos c] at h⊢;exact(MI s h).2
 rw[if_neg c] at h⊢;by_cases a:oU s FE=0
 ·rw[if_pos a] at h⊢
  by_cases d:mo s FE=1
  ·rw[if_pos d];decide
  rw[if_neg d] at h⊢;by_cases b:mo s FE=2
  ·rw[if_pos b];exact e
  rw[if_neg b] at h;cases h
 rw[if_neg a] at h;cases h
theorem yt_rng (s:af) (n:Int) (b:n≤32767) (h:Qi s n=0):n≤ytI s n∧ytI s n≤32767:=by
 refine⟨(yto_err s n).2 h,?_⟩;unfold Qi CV at h;unfold ytI CV;by_cases a:(jd s n).2=0∧(jd s n).1<n
 ·rw[if_pos a] at h;cases h
 rw[if_neg a] at h⊢;exact yl_rng s n b h
theorem O3 (s:af) (h:Ak s=0):Kr (Aq s)=0∧(Aq s).length≤6:=by
 have d:=h;unfold Ak leP at h;by_cases b:s=[45]
 ·subst b;decide
 rw[if_neg b] at h;by_cases a:6<s.length
 ·rw[if_pos a] at h;cases h
 rw[if_neg a] at h;by_cases c:s=[]∨Lb.dw s=false
 ·rw[if_pos c] at h;cases h
 have e:Aq s=s:=by unfold Aq leP;rw[if_neg b,if_neg a,if_neg c]
 have f: ¬s=[]:=fun e=>c (.inl e)
 rw[e];refine⟨?_,by omega⟩;unfold Kr ltP;rw[if_neg f,if_neg (by rw[e,d];simp)]
theorem Yl (t:af) (h:Kr t=0):(G5 t).length≤6∧t.length≤6:=by
 obtain⟨b,c⟩:=Ym t h;have a:=O3 _ b;rw[c] at a;refine⟨?_,a.2⟩;unfold G5 ltP
 (repeat' split)
 ·decide
 ·decide
 exact a.2
theorem tO (n:af) (h:dK n=0):n.length≤64:=by
 unfold dK at h;by_cases a:64<n.length
 ·rw[if_pos a] at h;cases h
 omega
def rfL (n:af) (f t m k w d c b v:Int) (l:af):ah:=[.str n,.str (La f),.str (uV f t),.str [45],.str (ql m),.str (fI k w d),.str (Ai c b),.str (Aj v),.str (G5 l)]
theorem O4 (n:af) (f t m k w d c b v:Int) (l:af):(Qj n f t m k w d c b v l=true)=(dK n=0∧(yrB f t=true∧(qm k w d m=true∧(dO c b=true∧((-10800≤v∧v≤10800)∧Kr l=0))))):=by unfold Qj;rw[bF,bF,bF,bF,bF,bF,aO,aA,aA,aO]
theorem kF {s:af} (h:s.length≤900):sV (.str s)=true:=bn (by rw[aJ];omega)
theorem ru_back (n:af) (f t m k w d c b v:Int) (l:af) (h:Qj n f t m k w d c b v l=true):
  gL (rfL n f t m k w d c b v l)=true∧rdV (rfL n f t m k w d c b v l)=.tup [.agg [.str n,.int .i64 f,.int .i64 t,.int .i64 m,.int .i64 k,.int .i64 w,.int .i64 d,.int .i64 c,.int .i64 b,.int .i64 v,.str l],.int .i64 0]:=by
 rw[O4] at h;obtain⟨p,e,a,A,q,r⟩:=h;have E:=e;rw[←yr_eq,bF,aO,aO] at e;obtain⟨N,I⟩:=yf_back f e.2;obtain⟨z,G⟩:=yt_back f t e.1;have i:=a;unfold qm at a;rw[bF,lK] at a;obtain⟨m1,y,O⟩:=Bf m a.2.1 a.2.2.1;have g:=Yg k w d a.1;obtain⟨C,D,F,T⟩:=Bg c b A;obtain⟨x,K,R⟩:=xq v (by omega) (by omega);obtain⟨M,l2⟩:=Ym l r;have S:=(Yl l r).1;have u:yY (La f)=f:=N;have B:K9 (La f)=0:=I;have J:ytI (uV f t) f=t:=z;have L:Qi (uV f t) f=0:=G;have j:rq (fI k w d)=k:=by unfold rq;rw[g]
 have o:iL (fI k w d)=w:=by unfold iL;rw[g]
 have s:ru (fI k w d)=d:=by unfold ru;rw[g]
 have H:sU (fI k w d)=0:=by unfold sU;rw[g]
 have i0:ieq 0 0=true:=rfl;constructor
 ·have n1:=tO n p
  have U:(La f).length≤25:=Yn f;have P:(uV f t).length≤25:=Yo f t;have Q:=BB k w d;unfold gL rfL;simp only[K8,List.all_nil,kF (show n.length≤900 by omega),kF (show(La f).length≤900 by omega),kF (show(uV f t).length≤900 by omega),kF (show(ql m).length≤900 by omega),kF (show(fI k w d).length≤900 by omega),kF (show(Ai c b).length≤900 by omega),kF (show(Aj v).length≤900 by omega),kF (show(G5 l).length≤900 by omega),kF (show([45]:af).length≤900 by decide)];rfl
 have hB:G6 (rfL n f t m k w d c b v l)=true:=by show(ieq 9 9&&(ieq (dK n) 0&&(ieq (K9 (La f)) 0&&(ieq (Qi (uV f t) (yY (La f))) 0&&(seq [45] [45]&&(ieq (qj (ql m)) 0&&(ieq (sU (fI k w d)) 0&&(qm (rq (fI k w d)) (iL (fI k w d)) (ru (fI k w d)) (ve (ql m))&&(ieq (yZ (Ai c b)) 0&&(ieq (lN (Aj v)) 0&&(ax (-10800) (fH (Aj v))&&(ax (fH (Aj v)) 10800&&ieq (Ak (G5 l)) 0))))))))))))=true;rw[u,B,L,m1,y,j,o,s,H,F,x,K,M,p,i,i0,bn q.1,bn q.2];rfl
 rw[rd_yes _ hB];show V.tup [.agg [.str n,.int .i64 (yY (La f)),.int .i64 (ytI (uV f t) (yY (La f))),.int .i64 (ve (ql m)),.int .i64 (rq (fI k w d)),.int .i64 (iL (fI k w d)),.int .i64 (ru (fI k w d)),.int .i64 (Qx (Ai c b)),.int .i64 (Qy (Ai c b)),.int .i64 (fH (Aj v)),.str (Aq (G5 l))],.int .i64 0]=_;rw[u,J,m1,j,o,s,C,D,x,l2]
theorem ru_right (xs:ah) (h:G6 xs=true):Qj (rg xs 0) (yY (rg xs 1)) (ytI (rg xs 2) (yY (rg xs 1))) (ve (rg xs 4)) (rq (rg xs 5)) (iL (rg xs 5)) (ru (rg xs 5)) (Qx (rg xs 6)) (Qy (rg xs 6)) (fH (rg xs 7)) (Aq (rg xs 8))=true∧(rg xs 0).length≤64∧(Aq (rg xs 8)).length≤6:=by unfold G6 at h;simp only[bF,aO,aA] at h;obtain⟨j,d,f,g,m,n,k,i,e,l,b,c,a⟩:=h;have y:=yf_rng _ f;have z:=yt_rng _ _ y.2 g;refine⟨?_,tO _ d,(O3 _ a).2⟩;rw[O4];refine⟨d,?_,i,RO _ e,⟨b,c⟩,(O3 _ a).1⟩;unfold yrB;rw[bn y.1,bn z.1,bn z.2];rfl
def rfV (n:af) (f t m k w d c b v:Int) (l:af):ah:=sel (Qj n f t m k w d c b v l) (rfL n f t m k w d c b v l) []
def rfE (n:af) (f t m k w d c b v:Int) (l:af):Int:=sel (Qj n f t m k w d c b v l) 0 4
theorem zRdS_ok (xs:ah) (a:gL xs=true):aj zE 98 [.sl 9 [.str] none xs] (.tup [.agg [.str (Uq xs),.int .i64 (Ur xs),.int .i64 (Us xs),.int .i64 (Ut xs),.int .i64 (Uu xs),.int .i64 (Uv xs),.int .i64 (Uw xs),.int .i64 (Ux xs),.int .i64 (Uy xs),.int .i64 (Uz xs),.str (zh xs)],.int .i64 (Qz xs)]):=zRead_ev xs a
theorem rd_inj (xs:ah) {j a:af} {k l m c n i f d g e:Int} (h:rdV xs=.tup [.agg [.str j,.int .i64 k,.int .i64 l,.int .i64 m,.int .i64 c,.int .i64 n,.int .i64 i,.int .i64 f,.int .i64 d,.int .i64 g,.str a],.int .i64 e]):
  Uq xs=j∧Ur xs=k∧Us xs=l∧Ut xs=m∧Uu xs=c∧Uv xs=n∧Uw xs=i∧Ux xs=f∧Uy xs=d∧Uz xs=g∧zh xs=a∧Qz xs=e:=by
 unfold rdV at h;simp only[V.tup.injEq,Qg,V.agg.injEq,V.str.injEq,V.int.injEq,jC,Uj] at h;obtain⟨⟨q,w,p,r,v,y,s,x,o,t,b⟩,u⟩:=h;exact⟨q,w,p,r,v,y,s,x,o,t,b,u⟩
theorem rdE_ne (xs:ah) (h:G6 xs=false):rdE xs≠0:=by
 by_cases o:ay xs<9
 ·unfold rdE;rw[bu o];show(5:Int)≠0;decide
 by_cases k:9<ay xs
 ·unfold rdE;rw[bB (by omega),bu k];show(6:Int)≠0;decide
 unfold G6 at h;unfold rdE;rw[bA (by omega),Ke] at h;rw[bB (by omega),bB (by omega),sF,sF]
 cases b:ieq (dK (rg xs 0)) 0 with
 |false=>intro a;rw[show dK (rg xs 0)=0 from a] at b;cases b
 |true=>
 rw[b,Ke] at h;rw[sT]
 cases g:ieq (K9 (rg xs 1)) 0 with
 |false=>intro a;rw[show K9 (rg xs 1)=0 from a] at g;cases g
 |true=>
 rw[g,Ke] at h;rw[sT]
 cases f:ieq (Qi (rg xs 2) (yY (rg xs 1))) 0 with
 |false=>intro a;rw[show Qi (rg xs 2) (yY (rg xs 1))=0 from a] at f;cases f
 |true=>
 rw[f,Ke] at h;rw[sT]
 cases m:seq (rg xs 3) [45] with
 |false=>show(3:Int)≠0;decide
 |true=>
 rw[m,Ke] at h;rw[sT]
 cases i:ieq (qj (rg xs 4)) 0 with
 |false=>intro a;rw[show qj (rg xs 4)=0 from a] at i;cases i
 |true=>
 rw[i,Ke] at h;rw[sT]
 cases c:ieq (sU (rg xs 5)) 0 with
 |false=>intro a;rw[show sU (rg xs 5)=0 from a] at c;cases c
 |true=>
 rw[c,Ke] at h;rw[sT]
 cases n:qm (rq (rg xs 5)) (iL (rg xs 5)) (ru (rg xs 5)) (ve (rg xs 4)) with
 |false=>show(1:Int)≠0;decide
 |true=>
 rw[n,Ke] at h;rw[sT]
 cases d:ieq (yZ (rg xs 6)) 0 with
 |false=>intro a;rw[show yZ (rg xs 6)=0 from a] at d;cases d
 |true=>
 rw[d,Ke] at h;rw[sT]
 cases e:ieq (lN (rg xs 7)) 0 with
 |false=>intro a;rw[show lN (rg xs 7)=0 from a] at e;cases e
 |true=>
 rw[e,Ke] at h;rw[sT]
 cases l:ax (-10800) (fH (rg xs 7)) with
 |false=>show(1:Int)≠0;decide
 |true=>
 rw[l,Ke] at h;rw[sT]
 cases j:ax (fH (rg xs 7)) 10800 with
 |false=>show(1:Int)≠0;decide
 |true=>
 rw[j,Ke] at h;rw[sT];intro a;rw[a] at h
 cases h
end Nt.Ev.YtjcencojgajgdaaGreatDoor
