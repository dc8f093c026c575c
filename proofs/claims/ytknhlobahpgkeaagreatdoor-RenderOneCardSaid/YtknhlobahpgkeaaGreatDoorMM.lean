/-
  Months: equations of functions, as the evaluator prints them.
-/
import Derived.Test.YtknhlobahpgkeaaGreatDoorML
import Derived.Test.YtknhlobahpgkeaaGreatDoorMG
import Derived.Test.YtknhlobahpgkeaaGreatDoorMH
import Derived.Test.YtknhlobahpgkeaaGreatDoorMJ
import Derived.Test.YtknhlobahpgkeaaGreatDoorMI
set_option linter.all false
set_option maxRecDepth 100000
namespace Nt.Ev.YtknhlobahpgkeaaGreatDoor
open Go Nt.Num Go.Proofs.YtknhlobahpgkeaaGreatDoor
noncomputable def NU:V:=.rptr [.str,.str,.str,.str,.str,.str,.str,.str,.str,.str,.str,.str] (.agg [.str [74,97,110,117,97,114,121],.str [70,101,98,114,117,97,114,121],.str [77,97,114,99,104],.str [65,112,114,105,108],.str [77,97,121],.str [74,117,110,101],.str [74,117,108,121],.str [65,117,103,117,115,116],.str [83,101,112,116,101,109,98,101,114],.str [79,99,116,111,98,101,114],.str [78,111,118,101,109,98,101,114],.str [68,101,99,101,109,98,101,114]]) 0
noncomputable def mE:Env:=⟨Go.Proofs.Tryz.prog,fun g=>bif g==0 then some NU else none⟩
noncomputable def Xh:aC:=fun a=>match a with|[.str s,.sl e [.str] o ws]=>some (ak (av (aA s) 1000) (uO ws),.tup [.int .i64 (mo s ws),.int .i64 (oP s ws)])|_=>none
noncomputable def mS:List (Nat×aC):=(46,Xh)::[]
theorem Vj (F s) (K:V→Option V):
 bA mE (bu mE mS F 2) F 130 [V.str s] K=
 let A:=[V.str [74,97,110,117,97,114,121],V.str [70,101,98,114,117,97,114,121],V.str [77,97,114,99,104],V.str [65,112,114,105,108],V.str [77,97,121],V.str [74,117,110,101],V.str [74,117,108,121],V.str [65,117,103,117,115,116],V.str [83,101,112,116,101,109,98,101,114],V.str [79,99,116,111,98,101,114],V.str [78,111,118,101,109,98,101,114],V.str [68,101,99,101,109,98,101,114]];sel (ak (av (aA s) 1000) (uO A)) (sel (aL (ieq (oP s A) 0)) (K (V.tup [V.int .i64 0,V.int .i64 (oP s A)])) (K (V.tup [V.int .i64 (bJ .i64 (mo s A) 1),V.int .i64 0]))) none:=by kernel_rfl
theorem Vk (F n) (K:V→Option V):
 bA mE (bu mE mS F 2) F 33 [V.int .i64 n] K=
 let A:=[V.str [74,97,110,117,97,114,121],V.str [70,101,98,114,117,97,114,121],V.str [77,97,114,99,104],V.str [65,112,114,105,108],V.str [77,97,121],V.str [74,117,110,101],V.str [74,117,108,121],V.str [65,117,103,117,115,116],V.str [83,101,112,116,101,109,98,101,114],V.str [79,99,116,111,98,101,114],V.str [78,111,118,101,109,98,101,114],V.str [68,101,99,101,109,98,101,114]];let B:=dw .i64 n 1;let D:=K (V.str []);let C:=aH (ai (aG A B) 0);sel (aW n 1) D (sel (aW B 0) D (sel (av (ay A) B) D (sel (ak (av 0 B) (aW B (ay A))) (sel (ak (av 0 3) (av 3 (aA C))) (K (V.str (dN C 0 3))) none) none))):=by kernel_rfl
open Go.RowKit Nt
theorem mE_ok:uL mE:=⟨by kernel_rfl,by kernel_rfl⟩
theorem toM {f:Nat} {args:ah} {r:V} (h:aj nE f args r):aj mE f args r:=aj.env (E:=nE) rfl (fun n v h=>by cases h) h
theorem Jk (s:af) (e:Nat) (o:Option Nat) (a:ah) (c:ak (av (aA s) 1000) (uO a)=true):aj mE 46 [.str s,.sl e [.str] o a] (.tup [.int .i64 (mo s a),.int .i64 (oP s a)]):=by obtain⟨b,d⟩:=aO c;exact toM (Il s e o a (D8 b) d)
theorem mS_ok:bf mE mS:=by
 unfold mS;refine bf.cons (fun args r h=>?_) bf.nil;all_goals (revert h;intro h;first|unfold Xh at h)
 all_goals (split at h;rotate_left; · cases h)
 all_goals (simp only[aR,bM] at h;obtain⟨a,rfl⟩:=h)
 ·exact Jk _ _ _ _ a
def Tw:ah:=[.str [74,97,110,117,97,114,121],.str [70,101,98,114,117,97,114,121],.str [77,97,114,99,104],.str [65,112,114,105,108],.str [77,97,121],.str [74,117,110,101],.str [74,117,108,121],.str [65,117,103,117,115,116],.str [83,101,112,116,101,109,98,101,114],.str [79,99,116,111,98,101,114],.str [78,111,118,101,109,98,101,114],.str [68,101,99,101,109,98,101,114]]
def u7 (s:af):Int:=if oP s Tw=0 then mo s Tw+1 else 0
def qj (s:af):Int:=oP s Tw
theorem moV_ok:uO Tw=true:=by decide
theorem BA (s:af) (a:ah) (h:a.length≤1000) (b:oP s a=0):0≤mo s a∧mo s a<a.length:=by unfold oP at b;have:=mt_lt ⟨s.toArray⟩ (Tv a) (by omega);unfold mo;rw[show(Tv a).length=a.length from kJ ..] at this;omega
theorem ZV (s:af) (b:s.length≤1000):aj mE 130 [.str s] (.tup [.int .i64 (u7 s),.int .i64 (qj s)]):=by
 refine au mE_ok mS_ok 5 2 ?_;have a:ak (av (aA s) 1000) (uO Tw)=true:=by rw[aM];exact⟨bg (by rw[aI];omega),moV_ok⟩
 (rw[Vj];(conv=>zeta))
 refine(ax a).trans ?_;unfold u7 qj;by_cases h:oP s Tw=0
 ·have:=BA s Tw (by decide) h
  have e:(Tw.length:Int)=12:=rfl;refine(aK (show aL (ieq (oP s Tw) 0)=false by rw[bn h];rfl)).trans ?_;rw[if_pos h];show some (V.tup [V.int .i64 (bJ .i64 (mo s Tw) 1),V.int .i64 _])=_;rw[cZ (by omega)];first|rfl|(rw[h];rfl)|(rw[h])
 refine(ax (show aL (ieq (oP s Tw) 0)=true by rw[bD h];rfl)).trans ?_;rw[if_neg h];rfl
def ql (n:Int):af:=if 1≤n∧n≤12 then(aH (Tw.getD (n-1).toNat .any)).take 3 else[]
theorem ZW (n:Int) (c:Fits n):aj mE 33 [.int .i64 n] (.str (ql n)):=by
 refine au mE_ok mS_ok 5 2 ?_
 (rw[Vk];(conv=>zeta))
 by_cases h:1≤n∧n≤12
 ·obtain rfl|rfl|rfl|rfl|rfl|rfl|rfl|rfl|rfl|rfl|rfl|rfl:n=1∨n=2∨n=3∨n=4∨n=5∨n=6∨n=7∨n=8∨n=9∨n=10∨n=11∨n=12:=by omega
  all_goals rfl
 have e:ql n=[]:=by unfold ql;rw[if_neg h]
 rw[e];by_cases a:n<1
 ·rw[ax (bH a)]
 unfold Fits at c;have b:dw .i64 n 1=n-1:=dO (by omega);rw[aK (bF (by omega)),b,aK (bF (by omega)),ax (bg (by rw[aD];show(12:Int)≤n-1;omega))]
variable [kM]
open Nt.Civil
noncomputable def zE:Env:=⟨Go.Proofs.Tryz.prog,fun g=>bif g==2 then some Dw else bif g==0 then some NU else bif g==4 then some Uh else bif g==3 then some (.rptr [.int .i64] (.int .i64 kM.val) 0) else none⟩
noncomputable def zByteS:aC:=fun a=>match a with|[.str s,.int .u8 c]=>some (true,.int .i64 (vw s c))|_=>none
noncomputable def zLenS:aC:=fun a=>match a with|[.int .i64 y,.int .i64 m]=>some (ak (av (-9223372036854775808) y) (av y 9223372036854775807),.int .i64 (gM y m))|_=>none
noncomputable def zOnS:aC:=fun a=>match a with|[.agg [.int .i64 k,.int .i64 w,.int .i64 d]]=>some (true,.bool (Mw k w d))|_=>none
noncomputable def zS0:List (Nat×aC):=(65,zByteS)::(79,zLenS)::(55,zOnS)::[]
def TQ (c:UInt8):Bool:=(decide (65≤c.toNat)&&decide (c.toNat≤90))||(decide (97≤c.toNat)&&decide (c.toNat≤122))||c==95
def TR (c:UInt8):Bool:=(decide (48≤c.toNat)&&decide (c.toNat≤57))||c==45||c==43||c==47||c==46
def JU (k:Nat) (c:UInt8):Bool:=TQ c||(decide (0<k)&&TR c)
def xV:Nat→af→Bool|_,[]=>true|k,c::t=>JU k c&&xV (k+1) t
def dG (s:af):Int:=if 64<s.length then 9 else if xV 0 s=true∧s≠[] then 0 else 10
def oQ (k w d m:Int):Bool:=Mw k w d&&decide (1≤m∧m≤12∧d≤gM 1 m)
def yX (s:af):Int:=(pG s).1
def Ks (s:af):Int:=(pG s).2
def ytI (s:af) (n:Int):Int:=(CB s n).1
def Pk (s:af) (n:Int):Int:=(CB s n).2
def PD (s:af):Int:=(uH s).1
def PE (s:af):Int:=(uH s).2.1
def yY (s:af):Int:=(uH s).2.2
def Af (n b:Int):af:=(GA n b).1
def tcW (n b:Int):Int:=(GA n b).2
def fD (s:af):Int:=(aQ.read s).1
def lT (s:af):Int:=(aQ.read s).2
def Ag (n:Int):af:=(aQ.text n).1
def amE (n:Int):Int:=(aQ.text n).2
def Kt (n:Int):af:=(fe n).1
def YA (n:Int):Int:=(fe n).2
def uP (m n:Int):af:=(iC m n).1
def CF (m n:Int):Int:=(iC m n).2
noncomputable def Nc:aC:=fun a=>match a with|[.str s]=>some (av (aA s) 1000,.int .i64 (dG s))|_=>none
noncomputable def CV:aC:=fun a=>match a with|[.agg [.int .i64 k,.int .i64 w,.int .i64 d],.int .i64 m]=>some (true,.bool (oQ k w d m))|_=>none
noncomputable def zFromS:aC:=fun a=>match a with|[.str s]=>some (av (aA s) 900,.tup [.int .i64 (yX s),.int .i64 (Ks s)])|_=>none
noncomputable def zToS:aC:=fun a=>match a with|[.str s,.int .i64 n]=>some (av (aA s) 900,.tup [.int .i64 (ytI s n),.int .i64 (Pk s n)])|_=>none
noncomputable def Wn:aC:=fun a=>match a with|[.str s]=>some (av (aA s) 900,.tup [.int .i64 (u7 s),.int .i64 (qj s)])|_=>none
noncomputable def Wo:aC:=fun a=>match a with|[.str s]=>some (av (aA s) 900,.tup [.agg [.int .i64 (rz s),.int .i64 (iL s),.int .i64 (rA s)],.int .i64 (sZ s)])|_=>none
noncomputable def Wp:aC:=fun a=>match a with|[.str s]=>some (av (aA s) 900,.tup [.agg [.int .i64 (PD s),.int .i64 (PE s)],.int .i64 (yY s)])|_=>none
noncomputable def Wq:aC:=fun a=>match a with|[.str s]=>some (av (aA s) 900,.tup [.int .i64 (fD s),.int .i64 (lT s)])|_=>none
noncomputable def zLetS:aC:=fun a=>match a with|[.str s]=>some (av (aA s) 900,.tup [.str (Aq s),.int .i64 (Ah s)])|_=>none
noncomputable def zFxS:aC:=fun a=>match a with|[.int .i64 n]=>some (true,.tup [.str (Kt n),.int .i64 (YA n)])|_=>none
noncomputable def zTxS:aC:=fun a=>match a with|[.int .i64 m,.int .i64 n]=>some (true,.tup [.str (uP m n),.int .i64 (CF m n)])|_=>none
noncomputable def YL:aC:=fun a=>match a with|[.agg [.int .i64 k,.int .i64 w,.int .i64 d]]=>some (true,.tup [.str (fF k w d),.int .i64 (dsTe k w d)])|_=>none
noncomputable def YM:aC:=fun a=>match a with|[.agg [.int .i64 n,.int .i64 b]]=>some (true,.tup [.str (Af n b),.int .i64 (tcW n b)])|_=>none
noncomputable def YN:aC:=fun a=>match a with|[.agg [.int .i64 n,.int .i64 b]]=>some (true,.bool (dJ n b))|_=>none
noncomputable def YO:aC:=fun a=>match a with|[.int .i64 n]=>some (ak (av (-9223372036854775808) n) (av n 9223372036854775807),.tup [.str (Ag n),.int .i64 (amE n)])|_=>none
noncomputable def zLtS:aC:=fun a=>match a with|[.str s]=>some (av (aA s) 900,.tup [.str (Gg s),.int .i64 (JV s)])|_=>none
noncomputable def YP:aC:=fun a=>match a with|[.int .i64 n]=>some (ak (av (-9223372036854775808) n) (av n 9223372036854775807),.str (ql n))|_=>none
noncomputable def zS:List (Nat×aC):=(38,Nc)::(50,CV)::(128,zFromS)::(129,zToS)::(130,Wn)::(132,Wo)::(134,Wp)::(121,Wq)::(58,zLetS)::(27,zFxS)::(28,zTxS)::(29,YL)::(30,YM)::(51,YN)::(31,YO)::(32,zLtS)::(33,YP)::zS0
def odP (s:af) (m:Int):Int×Int×Int×Int:=if sZ s=0 then(if oQ (rz s) (iL s) (rA s) m=true then(rz s,iL s,rA s,0) else(0,0,0,1)) else(rz s,iL s,rA s,sZ s)
def odK (s:af) (m:Int):Int:=(odP s m).1
def odW (s:af) (m:Int):Int:=(odP s m).2.1
def odD (s:af) (m:Int):Int:=(odP s m).2.2.1
def odE (s:af) (m:Int):Int:=(odP s m).2.2.2
def svP (s:af):Int×Int:=if lT s=0 then(if fD s< -10800∨10800<fD s then(0,1) else(fD s,0)) else(fD s,lT s)
def svI (s:af):Int:=(svP s).1
def svW (s:af):Int:=(svP s).2
def yrB (f t:Int):Bool:=av (-32767) f&&(av f t&&av t 32767)
def Pm (n:af) (f t m k w d c b v:Int) (l:af):Bool:=ieq (dG n) 0&&(yrB f t&&(oQ k w d m&&(dJ c b&&((av (-10800) v&&av v 10800)&&ieq (JV l) 0))))
noncomputable def pN:=fun F d n c f e a b K=>(gH zE zS0 F 2 38 [1,1,0,1,0] d K n (kD 48 [(0,V.str c),(2,V.int .i64 f),(9,V.sl 5 [Kd.int .u8] none e),(10,V.int .i64 a),(11,V.int .i64 b)] []):Option V)
theorem LW (F s) (K:V→Option V):
 bA zE (bu zE zS0 F 2) F 38 [V.str s] K=
 sel (aW 64 (aA s)) (K (V.int .i64 9)) (sel (Ky s) (pN F [] F s 0 (aF s) (ay (aF s)) 0 K) none):=by kernel_rfl
theorem yG (F n d e c b a K):
 pN F [] (n+1) d e c b a K=
 let B:=pN F [] n d e c b (bJ .i64 a 1) K;let C:=asInt (ai (aG c a) 0);let E:=K (V.int .i64 10);let D:=sel (av 0 (vw [45,43,47,46] C)) B E;let G:=ko .or .u8 C 32;let A:=sel (ieq C 95) B (sel (aW 0 a) (sel (av 48 C) (sel (av C 57) B D) D) E);sel (aW a b) (sel (ak (av 0 a) (aW a (ay c))) (sel (av 97 G) (sel (av G 122) B A) A) none) (sel (seq d []) E (K (V.int .i64 0))):=by kernel_rfl
theorem ZX (F k w d m) (K:V→Option V):
 bA zE (bu zE zS0 F 3) F 50 [V.agg [V.int .i64 k,V.int .i64 w,V.int .i64 d],V.int .i64 m] K=
 let A:=K (V.bool false);sel (Mw k w d) (sel (av 1 m) (sel (av m 12) (K (V.bool (av d (gM 1 m)))) A) A) A:=by kernel_rfl
theorem LX (F xs) (K:V→Option V):
 bA zE (bu zE zS F 10) F 77 [V.sl 9 [Kd.str] none xs] K=
 let B:=aH (ai (aG xs 5) 0);let C:=aH (ai (aG xs 1) 0);let D:=aH (ai (aG xs 7) 0);let E:=V.int .i64 0;let G:=aH (ai (aG xs 4) 0);let H:=aH (ai (aG xs 6) 0);let I:=aH (ai (aG xs 0) 0);let J:=aH (ai (aG xs 2) 0);let L:=aH (ai (aG xs 8) 0);let N:=ak (av 0 0) (aW 0 (ay xs));let A:=V.agg [V.str [],E,E,E,E,E,E,E,E,E,V.str []];let M:=K (V.tup [A,V.int .i64 1]);sel (aL (av 9 (ay xs))) (K (V.tup [A,V.int .i64 5])) (sel (aL (av (ay xs) 9)) (K (V.tup [A,V.int .i64 6])) (sel N (sel N (sel (av (aA I) 1000) (sel (aL (ieq (dG I) 0)) (K (V.tup [A,V.int .i64 (dG I)])) (sel (ak (av 0 1) (aW 1 (ay xs))) (sel (av (aA C) 900) (sel (aL (ieq (Ks C) 0)) (K (V.tup [A,V.int .i64 (Ks C)])) (sel (ak (av 0 2) (aW 2 (ay xs))) (sel (av (aA J) 900) (sel (aL (ieq (Pk J (yX C)) 0)) (K (V.tup [A,V.int .i64 (Pk J (yX C))])) (sel (ak (av 0 3) (aW 3 (ay xs))) (sel (aL (seq (aH (ai (aG xs 3) 0)) [45])) (K (V.tup [A,V.int .i64 3])) (sel (ak (av 0 4) (aW 4 (ay xs))) (sel (av (aA G) 900) (sel (aL (ieq (qj G) 0)) (K (V.tup [A,V.int .i64 (qj G)])) (sel (ak (av 0 5) (aW 5 (ay xs))) (sel (av (aA B) 900) (sel (aL (ieq (sZ B) 0)) (K (V.tup [A,V.int .i64 (sZ B)])) (sel (aL (oQ (rz B) (iL B) (rA B) (u7 G))) M (sel (ak (av 0 6) (aW 6 (ay xs))) (sel (av (aA H) 900) (sel (aL (ieq (yY H) 0)) (K (V.tup [A,V.int .i64 (yY H)])) (sel (ak (av 0 7) (aW 7 (ay xs))) (sel (av (aA D) 900) (sel (aL (ieq (lT D) 0)) (K (V.tup [A,V.int .i64 (lT D)])) (sel (av (-10800) (fD D)) (sel (aL (av (fD D) 10800)) M (sel (ak (av 0 8) (aW 8 (ay xs))) (sel (av (aA L) 900) (sel (aL (ieq (Ah L) 0)) (K (V.tup [A,V.int .i64 (Ah L)])) (K (V.tup [V.agg [V.str I,V.int .i64 (yX C),V.int .i64 (ytI J (yX C)),V.int .i64 (u7 G),V.int .i64 (rz B),V.int .i64 (iL B),V.int .i64 (rA B),V.int .i64 (PD H),V.int .i64 (PE H),V.int .i64 (fD D),V.str (Aq L)],E]))) none) none)) M)) none) none)) none) none))) none) none)) none) none)) none)) none) none)) none) none)) none) none) none)):=by kernel_rfl
theorem Vl (F g c h i d a e b f) (K:V→Option V):
 bA zE (bu zE zS F 10) F 77 [V.sl 9 [Kd.str] none [V.str g,V.str c,V.str h,V.str i,V.str d,V.str a,V.str e,V.str b,V.str f]] K=
 let B:=ay [V.str g,V.str c,V.str h,V.str i,V.str d,V.str a,V.str e,V.str b,V.str f];let C:=V.int .i64 0;let G:=Pk h (yX c);let A:=V.agg [V.str [],C,C,C,C,C,C,C,C,C,V.str []];let E:=ak (av 0 0) (aW 0 B);let D:=K (V.tup [A,V.int .i64 1]);sel (aL (av 9 B)) (K (V.tup [A,V.int .i64 5])) (sel (aL (av B 9)) (K (V.tup [A,V.int .i64 6])) (sel E (sel E (sel (av (aA g) 1000) (sel (aL (ieq (dG g) 0)) (K (V.tup [A,V.int .i64 (dG g)])) (sel (ak (av 0 1) (aW 1 B)) (sel (av (aA c) 900) (sel (aL (ieq (Ks c) 0)) (K (V.tup [A,V.int .i64 (Ks c)])) (sel (ak (av 0 2) (aW 2 B)) (sel (av (aA h) 900) (sel (aL (ieq G 0)) (K (V.tup [A,V.int .i64 G])) (sel (ak (av 0 3) (aW 3 B)) (sel (aL (seq i [45])) (K (V.tup [A,V.int .i64 3])) (sel (ak (av 0 4) (aW 4 B)) (sel (av (aA d) 900) (sel (aL (ieq (qj d) 0)) (K (V.tup [A,V.int .i64 (qj d)])) (sel (ak (av 0 5) (aW 5 B)) (sel (av (aA a) 900) (sel (aL (ieq (sZ a) 0)) (K (V.tup [A,V.int .i64 (sZ a)])) (sel (aL (oQ (rz a) (iL a) (rA a) (u7 d))) D (sel (ak (av 0 6) (aW 6 B)) (sel (av (aA e) 900) (sel (aL (ieq (yY e) 0)) (K (V.tup [A,V.int .i64 (yY e)])) (sel (ak (av 0 7) (aW 7 B)) (sel (av (aA b) 900) (sel (aL (ieq (lT b) 0)) (K (V.tup [A,V.int .i64 (lT b)])) (sel (av (-10800) (fD b)) (sel (aL (av (fD b) 10800)) D (sel (ak (av 0 8) (aW 8 B)) (sel (av (aA f) 900) (sel (aL (ieq (Ah f) 0)) (K (V.tup [A,V.int .i64 (Ah f)])) (K (V.tup [V.agg [V.str g,V.int .i64 (yX c),V.int .i64 (ytI h (yX c)),V.int .i64 (u7 d),V.int .i64 (rz a),V.int .i64 (iL a),V.int .i64 (rA a),V.int .i64 (PD e),V.int .i64 (PE e),V.int .i64 (fD b),V.str (Aq f)],C]))) none) none)) D)) none) none)) none) none))) none) none)) none) none)) none)) none) none)) none) none)) none) none) none)):=by kernel_rfl
theorem Ws:uL zE:=⟨by kernel_rfl,by kernel_rfl⟩
theorem toZ {f:Nat} {args:ah} {r:V} (h:aj nE f args r):aj zE f args r:=aj.env (E:=nE) rfl (fun n v h=>by cases h) h
theorem toZy {f:Nat} {args:ah} {r:V} (h:aj yE f args r):aj zE f args r:=aj.env (E:=yE) rfl (fun n v h=>by cases h) h
theorem toZv {f:Nat} {args:ah} {r:V} (h:aj vE f args r):aj zE f args r:=aj.env (E:=vE) rfl (fun n v h=>by cases h) h
theorem toZw {f:Nat} {args:ah} {r:V} (h:aj wE f args r):aj zE f args r:=aj.env (E:=wE) rfl (fun n v h=>by
 unfold wE at h;simp only at h
 cases e:n==2 with
 |true=>
  obtain rfl:n=2:=by simpa using e
  exact h
 |false=>rw[e] at h;cases h) h
theorem toZm {f:Nat} {args:ah} {r:V} (h:aj mE f args r):aj zE f args r:=aj.env (E:=mE) rfl (fun n v h=>by
 unfold mE at h;simp only at h
 cases e:n==0 with
 |true=>
  obtain rfl:n=0:=by simpa using e
  exact h
 |false=>rw[e] at h;cases h) h
theorem toZf {f:Nat} {args:ah} {r:V} (h:aj fE f args r):aj zE f args r:=aj.env (E:=fE) rfl (fun n v h=>by
 unfold fE at h;simp only at h
 cases e:n==3 with
 |true=>
  obtain rfl:n=3:=by simpa using e
  exact h
 |false=>rw[e] at h;cases h) h
theorem toZa {f:Nat} {args:ah} {r:V} (h:aj aE f args r):aj zE f args r:=aj.env (E:=aE) rfl (fun n v h=>by
 unfold aE at h;simp only at h
 cases e:n==4 with
 |true=>
   obtain rfl:n=4:=by simpa using e
   exact h
 |false=>
  rw[e] at h;simp only[jW] at h
  cases e:n==3 with
  |true=>
    obtain rfl:n=3:=by simpa using e
    exact h
  |false=>rw[e] at h;cases h) h
theorem len_z {s:af} (h:av (aA s) 1000=true):s.length≤1000:=by rw[aB,aI] at h;omega
theorem tQ {s:af} (h:av (aA s) 900=true):s.length≤900:=by rw[aB,aI] at h;omega
theorem G5 {m:Int} (h:ak (av (-9223372036854775808) m) (av m 9223372036854775807)=true):Fits m:=by rw[aM,aB,aB] at h;exact h
theorem ZY (s:af) (c:Int) (a:true=true):aj zE 65 [.str s,.int .u8 c] (.int .i64 (vw s c)):=toZ (idx_c s c)
theorem zLenS_ok (y m:Int) (a:ak (av (-9223372036854775808) y) (av y 9223372036854775807)=true):aj zE 79 [.int .i64 y,.int .i64 m] (.int .i64 (gM y m)):=toZv (NV y m (G5 a))
theorem zOnS_ok (k w d:Int) (a:true=true):aj zE 55 [.agg [.int .i64 k,.int .i64 w,.int .i64 d]] (.bool (Mw k w d)):=toZw (LU k w d)
theorem Nf:bf zE zS0:=by
 unfold zS0;refine bf.cons (fun args r h=>?_) (bf.cons (fun args r h=>?_) (bf.cons (fun args r h=>?_) bf.nil));all_goals (revert h;intro h;first|unfold zByteS at h|unfold zLenS at h|unfold zOnS at h)
 all_goals (split at h;rotate_left; · cases h)
 all_goals (simp only[aR,bM] at h;obtain⟨a,rfl⟩:=h)
 ·exact ZY _ _ rfl
 ·exact zLenS_ok _ _ a
 exact zOnS_ok _ _ _ rfl
theorem uy (c:UInt8):(av 97 (ko .or .u8 ((c.toNat:Nat):Int) 32)&&av (ko .or .u8 ((c.toNat:Nat):Int) 32) 122)=((decide (65≤c.toNat)&&decide (c.toNat≤90))||(decide (97≤c.toNat)&&decide (c.toNat≤122))):=by
 have h: ∀n:Fin 256,(av 97 (ko .or .u8 ((n.val:Nat):Int) 32)&&av (ko .or .u8 ((n.val:Nat):Int) 32) 122)=((decide (65≤n.val)&&decide (n.val≤90))||(decide (97≤n.val)&&decide (n.val≤122))):=by decide+kernel
 exact h ⟨c.toNat,c.toNat_lt⟩
theorem NW (c:UInt8):av 0 (vw [45,43,47,46] ((c.toNat:Nat):Int))=(c==45||c==43||c==47||c==46):=by
 have h: ∀n:Fin 256,av 0 (vw [45,43,47,46] ((n.val:Nat):Int))=(UInt8.ofNat n==45||UInt8.ofNat n==43||UInt8.ofNat n==47||UInt8.ofNat n==46):=by decide+kernel
 have:=h ⟨c.toNat,c.toNat_lt⟩;simpa using this
theorem Ui (c d:UInt8):ieq ((c.toNat:Nat):Int) ((d.toNat:Nat):Int)=(c==d):=by rw[uF,aN,iM,←acy];omega
theorem G6 (c:UInt8) (a:Nat):av (a:Int) ((c.toNat:Nat):Int)=decide (a≤c.toNat):=by rw[uF,aB,lG];omega
theorem Bb (c:UInt8) (a:Nat):av ((c.toNat:Nat):Int) (a:Int)=decide (c.toNat≤a):=by rw[uF,aB,lG];omega
theorem Vm (s:af) (c:Int) (F n k:Nat) (h:k<s.length) (i:s.length≤64):pN F [] (n+1) s c (aF s) (ay (aF s)) (k:Int) some=
  if JU k (s[k])=true then pN F [] n s c (aF s) (ay (aF s)) ((k+1:Nat):Int) some else some (.int .i64 10):=by
 have f:(aF s).length=s.length:=by unfold aF;rw[kJ]
 have e:asInt (ai (aG (aF s) (k:Int)) 0)=((s[k].toNat:Nat):Int):=by rw[eX];unfold aF;rw[mg,sW,iZ h];rfl
 have a:ieq ((s[k].toNat:Nat):Int) 95=(s[k]==95):=Ui s[k] 95;have d:av 48 ((s[k].toNat:Nat):Int)=decide (48≤s[k].toNat):=G6 s[k] 48;have b:av ((s[k].toNat:Nat):Int) 57=decide (s[k].toNat≤57):=Bb s[k] 57;have g:aW 0 (k:Int)=decide (0<k):=by rw[uF,bq,lG];omega
 have hL:=uy s[k]
 (rw[yG];(conv=>zeta);rw[ax (bH (by rw[aD,f];omega)),ax (by rw[aM,aB,bq,aD,f];omega),e,a,d,b,g,NW,cZ (by omega),show(k:Int)+1=((k+1:Nat):Int) by omega])
 unfold JU TQ TR;rw[←hL];generalize pN F [] n s c (aF s) (ay (aF s)) ((k+1:Nat):Int) some=N;generalize av 97 (ko .or .u8 ((s[k].toNat:Nat):Int) 32)=b1;generalize av (ko .or .u8 ((s[k].toNat:Nat):Int) 32) 122=b2;generalize (s[k]==95)=b3;generalize decide (0<k)=b4;generalize decide (48≤s[k].toNat)=b5;generalize decide (s[k].toNat≤57)=b6;generalize (s[k]==45)=b7;generalize (s[k]==43)=b8;generalize (s[k]==47)=b9;generalize (s[k]==46)=b10
 cases b1<;>cases b2<;>cases b3<;>cases b4<;>cases b5<;>cases b6<;>cases b7<;>cases b8<;>cases b9<;>cases b10<;>rfl
theorem Vn (s:af) (b:Int) (F:Nat) (e:s.length≤64): ∀(n k:Nat),k≤s.length→s.length-k<n→
  pN F [] n s b (aF s) (ay (aF s)) (k:Int) some=some (.int .i64 (if xV k (s.drop k)=true then(if s=[] then 10 else 0) else 10)):=by
 intro n;induction n with
 |zero=>intro k _ h;omega
 |succ n d=>
  intro k f i;by_cases h:k<s.length
  ·rw[Vm s b F n k h e,abf h]
   show _=some (V.int .i64 (if(JU k s[k]&&xV (k+1) (s.drop (k+1)))=true then _ else _))
   cases g:JU k s[k] with
   |true=>rw[if_pos rfl,d (k+1) (by omega) (by omega),JH]
   |false=>rw[if_neg (by decide),Bool.false_and,if_neg (by decide)]
  have c:(aF s).length=s.length:=by unfold aF;rw[kJ]
  (rw[yG];(conv=>zeta);rw[aK (bF (by rw[aD,c];omega)),abh (by omega),if_pos (show xV k []=true from rfl),bK])
  by_cases a:s=[]
  ·rw[if_pos (by rw[cK];exact a),if_pos a]
  rw[if_neg (by rw[cK];exact a),if_neg a]
theorem Uj (s:af):(if xV 0 s=true then(if s=[] then(10:Int) else 0) else 10)=if xV 0 s=true∧s≠[] then 0 else 10:=by
 by_cases h:xV 0 s=true
 ·rw[if_pos h]
  by_cases a:s=[]
  ·rw[if_pos a,if_neg (fun e=>e.2 a)]
  rw[if_neg a,if_pos ⟨h,a⟩]
 rw[if_neg h,if_neg (fun e=>h e.1)]
theorem zName_ev (s:af) (a:s.length≤1000):aj zE 38 [.str s] (.int .i64 (dG s)):=by
 refine au Ws Nf 100 2 ?_;rw[LW];unfold dG;by_cases h:64<s.length
 ·rw[ax (bH (by rw[aI];omega)),if_pos h]
 rw[aK (bF (by rw[aI];omega)),if_neg h,ax (by rw[Dt];omega)];have:=Vn s 0 100 (by omega) 100 0 (by omega) (by omega);rw[Yx,Uj] at this;exact this
theorem Dx (s:af) (a:av (aA s) 1000=true):aj zE 38 [.str s] (.int .i64 (dG s)):=zName_ev s (len_z a)
theorem ft_tree (k w d m y:Int) (a:jq y=false):sel (Mw k w d) (sel (av 1 m) (sel (av m 12) (some (V.bool (av d (gM y m)))) (some (V.bool false))) (some (V.bool false))) (some (V.bool false))=some (.bool (oQ k w d m)):=by
 have e:gM y m=gM 1 m:=by unfold gM;rw[a];rfl
 rw[e];unfold oQ;have b:decide (1≤m∧m≤12∧d≤gM 1 m)=(av 1 m&&(av m 12&&av d (gM 1 m))):=by rw[uF,bC,bC,aB,aB,aB,lG]
 rw[b];generalize av d (gM 1 m)=x
 cases Mw k w d<;>cases av 1 m<;>cases av m 12<;>rfl
theorem Dy (k w d m:Int) (a:true=true):aj zE 50 [.agg [.int .i64 k,.int .i64 w,.int .i64 d],.int .i64 m] (.bool (oQ k w d m)):=by
 refine au Ws Nf 5 3 ?_
 (rw[ZX];(conv=>zeta))
 exact ft_tree k w d m 1 (by decide)
theorem ZZ (s:af) (a:av (aA s) 900=true):aj zE 128 [.str s] (.tup [.int .i64 (yX s),.int .i64 (Ks s)]):=toZy (yFrom_ev s (by have:=tQ a;omega))
theorem zToS_ok (s:af) (n:Int) (a:av (aA s) 900=true):aj zE 129 [.str s,.int .i64 n] (.tup [.int .i64 (ytI s n),.int .i64 (Pk s n)]):=toZy (yTo_ev s n (by have:=tQ a;omega))
theorem QE (s:af) (a:av (aA s) 900=true):aj zE 130 [.str s] (.tup [.int .i64 (u7 s),.int .i64 (qj s)]):=toZm (ZV s (by have:=tQ a;omega))
theorem QF (s:af) (a:av (aA s) 900=true):aj zE 132 [.str s] (.tup [.agg [.int .i64 (rz s),.int .i64 (iL s),.int .i64 (rA s)],.int .i64 (sZ s)]):=toZw (dRead_ev s (tQ a))
theorem QG (s:af) (a:av (aA s) 900=true):aj zE 134 [.str s] (.tup [.agg [.int .i64 (PD s),.int .i64 (PE s)],.int .i64 (yY s)]):=toZa (cRead_ev s (by have:=tQ a;omega))
theorem QH (s:af) (a:av (aA s) 900=true):aj zE 121 [.str s] (.tup [.int .i64 (fD s),.int .i64 (lT s)]):=toZa (QI s (by have:=tQ a;omega))
theorem QJ (s:af) (a:av (aA s) 900=true):aj zE 58 [.str s] (.tup [.str (Aq s),.int .i64 (Ah s)]):=toZf (Jl s (bg (by have:=tQ a;rw[aI];omega)))
theorem Xi (n:Int) (a:true=true):aj zE 27 [.int .i64 n] (.tup [.str (Kt n),.int .i64 (YA n)]):=toZy (Cf n)
theorem Xj (m n:Int) (a:true=true):aj zE 28 [.int .i64 m,.int .i64 n] (.tup [.str (uP m n),.int .i64 (CF m n)]):=toZy (Jm m n)
theorem NY (k w d:Int) (a:true=true):aj zE 29 [.agg [.int .i64 k,.int .i64 w,.int .i64 d]] (.tup [.str (fF k w d),.int .i64 (dsTe k w d)]):=toZw (dText_ev k w d)
theorem NZ (n b:Int) (a:true=true):aj zE 30 [.agg [.int .i64 n,.int .i64 b]] (.tup [.str (Af n b),.int .i64 (tcW n b)]):=toZa (Vo n b)
theorem N5 (n b:Int) (a:true=true):aj zE 51 [.agg [.int .i64 n,.int .i64 b]] (.bool (dJ n b)):=toZa (Z0 n b)
theorem N6 (n:Int) (a:ak (av (-9223372036854775808) n) (av n 9223372036854775807)=true):aj zE 31 [.int .i64 n] (.tup [.str (Ag n),.int .i64 (amE n)]):=toZa (QK n (G5 a).1 (G5 a).2)
theorem zLtS_ok (s:af) (a:av (aA s) 900=true):aj zE 32 [.str s] (.tup [.str (Gg s),.int .i64 (JV s)]):=toZf (LY s (by have:=tQ a;omega))
theorem N7 (n:Int) (a:ak (av (-9223372036854775808) n) (av n 9223372036854775807)=true):aj zE 33 [.int .i64 n] (.str (ql n)):=toZm (ZW n (G5 a))
theorem zS_ok:bf zE zS:=by
 unfold zS;refine bf.cons (fun args r h=>?_) (bf.cons (fun args r h=>?_) (bf.cons (fun args r h=>?_) (bf.cons (fun args r h=>?_) (bf.cons (fun args r h=>?_) (bf.cons (fun args r h=>?_) (bf.cons (fun args r h=>?_) (bf.cons (fun args r h=>?_) (bf.cons (fun args r h=>?_) (bf.cons (fun args r h=>?_) (bf.cons (fun args r h=>?_) (bf.cons (fun args r h=>?_) (bf.cons (fun args r h=>?_) (bf.cons (fun args r h=>?_) (bf.cons (fun args r h=>?_) (bf.cons (fun args r h=>?_) (bf.cons (fun args r h=>?_) Nf))))))))))))))));all_goals (revert h;intro h;first|unfold Nc at h|unfold CV at h|unfold zFromS at h|unfold zToS at h|unfold Wn at h|unfold Wo at h|unfold Wp at h|unfold Wq at h|unfold zLetS at h|unfold zFxS at h|unfold zTxS at h|unfold YL at h|unfold YM at h|unfold YN at h|unfold YO at h|unfold zLtS at h|unfold YP at h)
 all_goals (split at h;rotate_left; · cases h)
 all_goals (simp only[aR,bM] at h;obtain⟨a,rfl⟩:=h)
 ·exact Dx _ a
 ·exact Dy _ _ _ _ rfl
 ·exact ZZ _ a
 ·exact zToS_ok _ _ a
 ·exact QE _ a
 ·exact QF _ a
 ·exact QG _ a
 ·exact QH _ a
 ·exact QJ _ a
 ·exact Xi _ rfl
 ·exact Xj _ _ rfl
 ·exact NY _ _ _ rfl
 ·exact NZ _ _ rfl
 ·exact N5 _ _ rfl
 ·exact N6 _ a
 ·exact zLtS_ok _ a
 exact N7 _ a
def rg (xs:ah) (i:Int):af:=aH (ai (aG xs i) 0)
def sV (v:V):Bool:=match v with| .str s=>av (aA s) 900|_=>false
def gN (xs:ah):Bool:=xs.all sV
def EZ (xs:ah):Bool:=
 ieq (ay xs) 9&&(ieq (dG (rg xs 0)) 0&&(ieq (Ks (rg xs 1)) 0&&(ieq (Pk (rg xs 2) (yX (rg xs 1))) 0&&(seq (rg xs 3) [45]&&(ieq (qj (rg xs 4)) 0&&(ieq (sZ (rg xs 5)) 0&&(oQ (rz (rg xs 5)) (iL (rg xs 5)) (rA (rg xs 5)) (u7 (rg xs 4))&&(ieq (yY (rg xs 6)) 0&&(ieq (lT (rg xs 7)) 0&&(av (-10800) (fD (rg xs 7))&&(av (fD (rg xs 7)) 10800&&ieq (Ah (rg xs 8)) 0)))))))))))
def rdE (xs:ah):Int:=
 sel (aW (ay xs) 9) 5 (sel (aW 9 (ay xs)) 6 (sel (ieq (dG (rg xs 0)) 0) (sel (ieq (Ks (rg xs 1)) 0) (sel (ieq (Pk (rg xs 2) (yX (rg xs 1))) 0) (sel (seq (rg xs 3) [45]) (sel (ieq (qj (rg xs 4)) 0) (sel (ieq (sZ (rg xs 5)) 0) (sel (oQ (rz (rg xs 5)) (iL (rg xs 5)) (rA (rg xs 5)) (u7 (rg xs 4))) (sel (ieq (yY (rg xs 6)) 0) (sel (ieq (lT (rg xs 7)) 0) (sel (av (-10800) (fD (rg xs 7))) (sel (av (fD (rg xs 7)) 10800) (Ah (rg xs 8)) 1) 1) (lT (rg xs 7))) (yY (rg xs 6))) 1) (sZ (rg xs 5))) (qj (rg xs 4))) 3) (Pk (rg xs 2) (yX (rg xs 1)))) (Ks (rg xs 1))) (dG (rg xs 0))))
def Tx (xs:ah):af:=sel (EZ xs) (rg xs 0) []
def Ty (xs:ah):Int:=sel (EZ xs) (yX (rg xs 1)) 0
def Tz (xs:ah):Int:=sel (EZ xs) (ytI (rg xs 2) (yX (rg xs 1))) 0
def TB (xs:ah):Int:=sel (EZ xs) (u7 (rg xs 4)) 0
def TC (xs:ah):Int:=sel (EZ xs) (rz (rg xs 5)) 0
def TD (xs:ah):Int:=sel (EZ xs) (iL (rg xs 5)) 0
def TE (xs:ah):Int:=sel (EZ xs) (rA (rg xs 5)) 0
def TF (xs:ah):Int:=sel (EZ xs) (PD (rg xs 6)) 0
def TG (xs:ah):Int:=sel (EZ xs) (PE (rg xs 6)) 0
def TH (xs:ah):Int:=sel (EZ xs) (fD (rg xs 7)) 0
def zf (xs:ah):af:=sel (EZ xs) (Aq (rg xs 8)) []
def Mx (xs:ah):Int:=sel (EZ xs) 0 (rdE xs)
def rdV (xs:ah):V:=.tup [.agg [.str (Tx xs),.int .i64 (Ty xs),.int .i64 (Tz xs),.int .i64 (TB xs),.int .i64 (TC xs),.int .i64 (TD xs),.int .i64 (TE xs),.int .i64 (TF xs),.int .i64 (TG xs),.int .i64 (TH xs),.str (zf xs)],.int .i64 (Mx xs)]
theorem rd_no (xs:ah) (h:EZ xs=false):rdV xs=.tup [.agg [.str [],.int .i64 0,.int .i64 0,.int .i64 0,.int .i64 0,.int .i64 0,.int .i64 0,.int .i64 0,.int .i64 0,.int .i64 0,.str []],.int .i64 (rdE xs)]:=by unfold rdV Tx Ty Tz TB TC TD TE TF TG TH zf Mx;rw[h];rfl
theorem rd_yes (xs:ah) (h:EZ xs=true):rdV xs=.tup [.agg [.str (rg xs 0),.int .i64 (yX (rg xs 1)),.int .i64 (ytI (rg xs 2) (yX (rg xs 1))),.int .i64 (u7 (rg xs 4)),.int .i64 (rz (rg xs 5)),.int .i64 (iL (rg xs 5)),.int .i64 (rA (rg xs 5)),.int .i64 (PD (rg xs 6)),.int .i64 (PE (rg xs 6)),.int .i64 (fD (rg xs 7)),.str (Aq (rg xs 8))],.int .i64 0]:=by unfold rdV Tx Ty Tz TB TC TD TE TF TG TH zf Mx;rw[h];rfl
theorem xG: ∀(xs:ah),gN xs=true→ ∃l:List (af),xs=l.map V.str∧ ∀a∈l,av (aA a) 900=true
 |[],_=>⟨[],rfl,fun a h=>by cases h⟩
 |v::xs,h=>by
  unfold gN at h;rw[Pg,bC] at h;obtain⟨l,e,c⟩:=xG xs h.2
  cases v with
  |str s=>exact⟨s::l,by rw[e];rfl,fun a b=>by
   rw[Yy] at b;rcases b with rfl|b
   ·exact h.1
   exact c a b⟩
  |_=>exact absurd (show false=true from h.1) (by decide)
theorem nine (xs:ah) (h:gN xs=true) (m:xs.length=9): ∃f g i k b j e d c:af,xs=[.str f,.str g,.str i,.str k,.str b,.str j,.str e,.str d,.str c]∧av (aA f) 900=true∧av (aA g) 900=true∧av (aA i) 900=true∧av (aA b) 900=true∧av (aA j) 900=true∧av (aA e) 900=true∧av (aA d) 900=true∧av (aA c) 900=true:=by
 obtain⟨l,rfl,a⟩:=xG xs h;rw[kJ] at m;match l,m,a with
 |[f,g,i,k,b,j,e,d,c],_,a=>exact⟨f,g,i,k,b,j,e,d,c,rfl,a _ (by simp),a _ (by simp),a _ (by simp),a _ (by simp),a _ (by simp),a _ (by simp),a _ (by simp),a _ (by simp)⟩
theorem llen_9 (f e c b g h d i a:V):ay [f,e,c,b,g,h,d,i,a]=9:=rfl
theorem sT {α:Type} (x y:α):sel true x y=x:=rfl
theorem sF {α:Type} (x y:α):sel false x y=y:=rfl
theorem zu {s:af} (h:av (aA s) 900=true):av (aA s) 1000=true:=by rw[aB] at*;omega
theorem rd_len (xs:ah) (h:ay xs≠9):EZ xs=false:=by unfold EZ;rw[bD h];rfl
theorem zRead_ev (xs:ah) (h:gN xs=true):aj zE 77 [.sl 9 [.str] none xs] (rdV xs):=by
 refine au Ws zS_ok 5 10 ?_;by_cases l:ay xs<9
 ·(rw[LX];(conv=>zeta);rw[ax (by rw[bW,aB];omega),rd_no xs (rd_len xs (by omega))])
  unfold rdE;rw[bH l];rfl
 by_cases k:9<ay xs
 ·(rw[LX];(conv=>zeta);rw[aK (by rw[bg (by omega)];rfl),ax (by rw[bW,aB];omega),rd_no xs (rd_len xs (by omega))])
  unfold rdE;rw[bF (by omega),bH k];rfl
 obtain⟨e,c,g,j,d,a,f,b,i,rfl,c0,t,v,u,x,z,r,n⟩:=nine xs h (by unfold ay at l k;omega)
 (rw[Vl];(conv=>zeta))
 have g0:EZ [.str e,.str c,.str g,.str j,.str d,.str a,.str f,.str b,.str i]=(ieq (dG e) 0&&(ieq (Ks c) 0&&(ieq (Pk g (yX c)) 0&&(seq j [45]&&(ieq (qj d) 0&&(ieq (sZ a) 0&&(oQ (rz a) (iL a) (rA a) (u7 d)&&(ieq (yY f) 0&&(ieq (lT b) 0&&(av (-10800) (fD b)&&(av (fD b) 10800&&ieq (Ah i) 0))))))))))):=rfl;have g1:rdE [.str e,.str c,.str g,.str j,.str d,.str a,.str f,.str b,.str i]=sel (ieq (dG e) 0) (sel (ieq (Ks c) 0) (sel (ieq (Pk g (yX c)) 0) (sel (seq j [45]) (sel (ieq (qj d) 0) (sel (ieq (sZ a) 0) (sel (oQ (rz a) (iL a) (rA a) (u7 d)) (sel (ieq (yY f) 0) (sel (ieq (lT b) 0) (sel (av (-10800) (fD b)) (sel (av (fD b) 10800) (Ah i) 1) 1) (lT b)) (yY f)) 1) (sZ a)) (qj d)) 3) (Pk g (yX c))) (Ks c)) (dG e):=rfl;have q:rg [.str e,.str c,.str g,.str j,.str d,.str a,.str f,.str b,.str i] 0=e:=rfl;have m:rg [.str e,.str c,.str g,.str j,.str d,.str a,.str f,.str b,.str i] 1=c:=rfl;have y:rg [.str e,.str c,.str g,.str j,.str d,.str a,.str f,.str b,.str i] 2=g:=rfl;have A:rg [.str e,.str c,.str g,.str j,.str d,.str a,.str f,.str b,.str i] 4=d:=rfl;have s:rg [.str e,.str c,.str g,.str j,.str d,.str a,.str f,.str b,.str i] 5=a:=rfl;have w:rg [.str e,.str c,.str g,.str j,.str d,.str a,.str f,.str b,.str i] 6=f:=rfl;have p:rg [.str e,.str c,.str g,.str j,.str d,.str a,.str f,.str b,.str i] 7=b:=rfl;have o:rg [.str e,.str c,.str g,.str j,.str d,.str a,.str f,.str b,.str i] 8=i:=rfl;unfold rdV Tx Ty Tz TB TC TD TE TF TG TH zf Mx
 rw[g0,g1,q,m,y,A,s,w,p,o];simp only[llen_9,zu c0,t,v,u,x,z,r,n,sT];show sel (aL (ieq (dG e) 0)) _ (sel (aL (ieq (Ks c) 0)) _ _)=_
 cases ieq (dG e) 0 with
 |false=>rfl
 |true=>
 cases ieq (Ks c) 0 with
 |false=>rfl
 |true=>
 cases ieq (Pk g (yX c)) 0 with
 |false=>rfl
 |true=>
 cases seq j [45] with
 |false=>rfl
 |true=>
 cases ieq (qj d) 0 with
 |false=>rfl
 |true=>
 cases ieq (sZ a) 0 with
 |false=>rfl
 |true=>
 cases oQ (rz a) (iL a) (rA a) (u7 d) with
 |false=>rfl
 |true=>
 cases ieq (yY f) 0 with
 |false=>rfl
 |true=>
 cases ieq (lT b) 0 with
 |false=>rfl
 |true=>
 cases av (-10800) (fD b) with
 |false=>rfl
 |true=>
 cases av (fD b) 10800 with
 |false=>rfl
 |true=>
 cases ieq (Ah i) 0 with
 |false=>rfl
 |true=>rfl
theorem jD (s:af) (m:Int):odE s m=sel (ieq (sZ s) 0) (sel (oQ (rz s) (iL s) (rA s) m) 0 1) (sZ s):=by
 unfold odE odP;rw[bK,bK];by_cases h:sZ s=0
 ·rw[if_pos h,if_pos (bn h)]
  by_cases a:oQ (rz s) (iL s) (rA s) m=true
  ·rw[if_pos a,if_pos a]
  rw[if_neg a,if_neg a]
 rw[if_neg h,if_neg (by rw[aN];exact h)]
theorem gT (s:af):svW s=sel (ieq (lT s) 0) (sel (av (-10800) (fD s)) (sel (av (fD s) 10800) 0 1) 1) (lT s):=by
 unfold svW svP;simp only[bK,aN,aB];by_cases h:lT s=0
 ·rw[if_pos h,if_pos h]
  by_cases a: -10800≤fD s
  ·rw[if_pos a]
   by_cases b:fD s≤10800
   ·rw[if_pos b,if_neg (by omega)]
   rw[if_neg b,if_pos (by omega)]
  rw[if_neg a,if_pos (by omega)]
 rw[if_neg h,if_neg h]
theorem yr_eq (f t:Int):(ieq (CF f t) 0&&ieq (YA f) 0)=yrB f t:=by
 rw[uF,bC,aN,aN];unfold yrB;rw[bC,bC,aB,aB,aB];unfold CF YA iC fe;constructor
 ·rintro⟨d,e⟩
  by_cases a: -32767≤f∧f≤32767
  ·by_cases b: -32767≤t∧t≤32767
   ·rw[if_pos b] at d
    by_cases c:t<f
    ·rw[if_pos c] at d;cases d
    omega
   rw[if_neg b] at d;cases d
  rw[if_neg a] at e;cases e
 rintro⟨d,e,g⟩;rw[if_pos (show -32767≤t∧t≤32767 by omega),if_pos (show -32767≤f∧f≤32767 by omega),if_neg (show¬t<f by omega)];constructor
 ·(repeat' split)<;>rfl
 (repeat' split)<;>rfl
theorem Bc (m:Int) (a:1≤m) (b:m≤12):u7 (ql m)=m∧qj (ql m)=0∧(ql m).length≤10:=by
 obtain rfl|rfl|rfl|rfl|rfl|rfl|rfl|rfl|rfl|rfl|rfl|rfl:m=1∨m=2∨m=3∨m=4∨m=5∨m=6∨m=7∨m=8∨m=9∨m=10∨m=11∨m=12:=by omega
 all_goals decide+kernel
theorem cls_rng (x:Int):0≤nA x∧nA x≤3:=by
 unfold nA
 (repeat' split)<;>decide
theorem bsB_rng (s:af):0≤Gi s∧Gi s≤2:=by
 unfold Gi bsP;split
 ·show(0:Int)≤0∧(0:Int)≤2
  decide
 rename_i c _;have:=cls_rng (c.toNat:Int);split
 ·show(0:Int)≤0∧(0:Int)≤2
  decide
 show 0≤nA _∧nA _≤2;omega
theorem QL (s:af) (h:yY s=0):dJ (PD s) (PE s)=true:=by
 have c:=bsB_rng s;unfold yY uH at h;unfold PD PE uH dJ;by_cases b:Fb (DY s)=0
 ·rw[if_pos b] at h⊢
  by_cases a:0≤YB (DY s)∧YB (DY s)≤172800
  ·rw[if_pos a] at h⊢
   exact u6 ⟨a.1,a.2,c.1,c.2⟩
  rw[if_neg a] at h;cases h
 rw[if_neg b] at h;exact absurd h b
theorem Bd (n b:Int) (g:dJ n b=true):PD (Af n b)=n∧PE (Af n b)=b∧yY (Af n b)=0∧(Af n b).length≤20:=by
 have a:=g;unfold dJ at a;have a:=Fw a;obtain⟨l,c,j,v,w,i⟩:=Z4 n (by omega) (by omega);have e:0≤n∧n≤172800:=by omega
 have d:=(Xk n e).2;have f:nA (c.toNat:Int)=3:=by unfold nA;rw[if_neg (by omega),if_neg (by omega),if_neg (by omega)]
 have s:Af n b=(aQ.text n).1++letC b:=by unfold Af GA;rw[if_pos g];rfl
 have u:(aQ.text n).1.length≤10:=d;rw[s];generalize (aQ.text n).1=t at*;have h: ∀(x:UInt8) (q:Int),nA (x.toNat:Int)=q→q≠3→PD (t++[x])=n∧PE (t++[x])=q∧yY (t++[x])=0∧(t++[x]).length≤20:=fun x q m o=>by have:=Vp t x n q m o i e;unfold PD PE yY;rw[this];exact⟨rfl,rfl,rfl,by simp;omega⟩
 have k:b=0∨b=1∨b=2:=by omega
 rcases k with rfl|rfl|rfl
 ·have p:t++letC 0=t:=by unfold letC;simp
  have r:uH t=(n,0,0):=by rw[j];exact Vq l c n f (by rw[←j];exact i) e
  rw[p];unfold PD PE yY;rw[r];exact⟨rfl,rfl,rfl,by omega⟩
 ·exact h 115 1 rfl (by decide)
 exact h 117 2 rfl (by decide)
theorem am_neg (k:Nat) (h:k≤604799):aQ.read ([45]++qp k)=(-(k:Int),0):=by rw[Ji (posL_ne k h),w9,QM _ k h (xg k h).1 (xg k h).2];rfl
theorem xh (v:Int) (d: -604799≤v) (c:v≤604799):fD (Ag v)=v∧lT (Ag v)=0∧(Ag v).length≤40:=by
 unfold fD lT Ag;by_cases a:v=0
 ·subst a;decide
 by_cases b:0<v
 ·obtain⟨k,rfl⟩: ∃k:Nat,v=(k:Int):=⟨v.toNat,by omega⟩
  have e:=Im k (by omega);rw[Be k (by omega) (by omega),QN k (by omega)];exact⟨rfl,rfl,by show(qp k).length≤40;omega⟩
 obtain⟨k,rfl⟩: ∃k:Nat,v= -(k:Int):=⟨v.natAbs,by omega⟩
 have e:=Im k (by omega);rw[N8 k (by omega) (by omega),am_neg k (by omega)];exact⟨rfl,rfl,by show([45]++qp k).length≤40;simp;omega⟩
theorem LZ (s:af) (h:(vD s).2=0): -32767≤(vD s).1∧(vD s).1≤32767:=by
 unfold vD at h⊢;by_cases a:nrW s=0
 ·rw[if_pos a] at h⊢
  by_cases b: -32767≤iG s∧iG s≤32767
  ·rw[if_pos b];exact b
  rw[if_neg b] at h;cases h
 rw[if_neg a] at h;exact absurd h a
theorem yf_rng (s:af) (h:Ks s=0): -32767≤yX s∧yX s≤32767:=by
 unfold Ks pG at h;unfold yX pG;by_cases a:numeral s=true
 ·rw[if_pos a] at h⊢;exact LZ s h
 rw[if_neg a] at h⊢;by_cases b:oP s E4=0∧mo s E4=0
 ·rw[if_pos b];decide
 rw[if_neg b] at h;cases h
theorem yl_rng (s:af) (n:Int) (e:n≤32767) (h:(jg s n).2=0):(jg s n).1≤32767:=by
 unfold jg at h⊢;by_cases c:numeral s=true
 ·rw[if_pos c] at h⊢;exact(LZ s h).2
 rw[if_neg c] at h⊢;by_cases a:oP s E4=0
 ·rw[if_pos a] at h⊢
  by_cases d:mo s E4=1
  ·rw[if_pos d];decide
  rw[if_neg d] at h⊢;by_cases b:mo s E4=2
  ·rw[if_pos b];exact e
  rw[if_neg b] at h;cases h
 rw[if_neg a] at h;cases h
theorem yt_rng (s:af) (n:Int) (b:n≤32767) (h:Pk s n=0):n≤ytI s n∧ytI s n≤32767:=by
 refine⟨(yto_err s n).2 h,?_⟩;unfold Pk CB at h;unfold ytI CB;by_cases a:(jg s n).2=0∧(jg s n).1<n
 ·rw[if_pos a] at h;cases h
 rw[if_neg a] at h⊢;exact yl_rng s n b h
theorem N9 (s:af) (h:Ah s=0):JV (Aq s)=0∧(Aq s).length≤6:=by
 have d:=h;unfold Ah leP at h;by_cases b:s=[45]
 ·subst b;decide
 rw[if_neg b] at h;by_cases a:6<s.length
 ·rw[if_pos a] at h;cases h
 rw[if_neg a] at h;by_cases c:s=[]∨Ku.dm s=false
 ·rw[if_pos c] at h;cases h
 have e:Aq s=s:=by unfold Aq leP;rw[if_neg b,if_neg a,if_neg c]
 have f: ¬s=[]:=fun e=>c (.inl e)
 rw[e];refine⟨?_,by omega⟩;unfold JV ltP;rw[if_neg f,if_neg (by rw[e,d];simp)]
theorem Oa (t:af) (h:JV t=0):(Gg t).length≤6∧t.length≤6:=by
 obtain⟨b,c⟩:=Xl t h;have a:=N9 _ b;rw[c] at a;refine⟨?_,a.2⟩;unfold Gg ltP
 (repeat' split)
 ·decide
 ·decide
 exact a.2
theorem oh (n:af) (h:dG n=0):n.length≤64:=by
 unfold dG at h;by_cases a:64<n.length
 ·rw[if_pos a] at h;cases h
 omega
def rfL (n:af) (f t m k w d c b v:Int) (l:af):ah:=[.str n,.str (Kt f),.str (uP f t),.str [45],.str (ql m),.str (fF k w d),.str (Af c b),.str (Ag v),.str (Gg l)]
theorem FK (n:af) (f t m k w d c b v:Int) (l:af):(Pm n f t m k w d c b v l=true)=(dG n=0∧(yrB f t=true∧(oQ k w d m=true∧(dJ c b=true∧((-10800≤v∧v≤10800)∧JV l=0))))):=by unfold Pm;rw[bC,bC,bC,bC,bC,bC,aN,aB,aB,aN]
theorem kH {s:af} (h:s.length≤900):sV (.str s)=true:=bg (by rw[aI];omega)
theorem ru_back (n:af) (f t m k w d c b v:Int) (l:af) (h:Pm n f t m k w d c b v l=true):
  gN (rfL n f t m k w d c b v l)=true∧rdV (rfL n f t m k w d c b v l)=.tup [.agg [.str n,.int .i64 f,.int .i64 t,.int .i64 m,.int .i64 k,.int .i64 w,.int .i64 d,.int .i64 c,.int .i64 b,.int .i64 v,.str l],.int .i64 0]:=by
 rw[FK] at h;obtain⟨p,e,a,A,q,r⟩:=h;have E:=e;rw[←yr_eq,bC,aN,aN] at e;obtain⟨N,I⟩:=yf_back f e.2;obtain⟨z,G⟩:=yt_back f t e.1;have i:=a;unfold oQ at a;rw[bC,lG] at a;obtain⟨m1,y,O⟩:=Bc m a.2.1 a.2.2.1;have g:=Xg k w d a.1;obtain⟨C,D,F,T⟩:=Bd c b A;obtain⟨x,K,R⟩:=xh v (by omega) (by omega);obtain⟨M,l2⟩:=Xl l r;have S:=(Oa l r).1;have u:yX (Kt f)=f:=N;have B:Ks (Kt f)=0:=I;have J:ytI (uP f t) f=t:=z;have L:Pk (uP f t) f=0:=G;have j:rz (fF k w d)=k:=by unfold rz;rw[g]
 have o:iL (fF k w d)=w:=by unfold iL;rw[g]
 have s:rA (fF k w d)=d:=by unfold rA;rw[g]
 have H:sZ (fF k w d)=0:=by unfold sZ;rw[g]
 have i0:ieq 0 0=true:=rfl;constructor
 ·have n1:=oh n p
  have U:(Kt f).length≤25:=Xm f;have P:(uP f t).length≤25:=Xn f t;have Q:=Bz k w d;unfold gN rfL;simp only[Pg,List.all_nil,kH (show n.length≤900 by omega),kH (show(Kt f).length≤900 by omega),kH (show(uP f t).length≤900 by omega),kH (show(ql m).length≤900 by omega),kH (show(fF k w d).length≤900 by omega),kH (show(Af c b).length≤900 by omega),kH (show(Ag v).length≤900 by omega),kH (show(Gg l).length≤900 by omega),kH (show([45]:af).length≤900 by decide)];rfl
 have hB:EZ (rfL n f t m k w d c b v l)=true:=by show(ieq 9 9&&(ieq (dG n) 0&&(ieq (Ks (Kt f)) 0&&(ieq (Pk (uP f t) (yX (Kt f))) 0&&(seq [45] [45]&&(ieq (qj (ql m)) 0&&(ieq (sZ (fF k w d)) 0&&(oQ (rz (fF k w d)) (iL (fF k w d)) (rA (fF k w d)) (u7 (ql m))&&(ieq (yY (Af c b)) 0&&(ieq (lT (Ag v)) 0&&(av (-10800) (fD (Ag v))&&(av (fD (Ag v)) 10800&&ieq (Ah (Gg l)) 0))))))))))))=true;rw[u,B,L,m1,y,j,o,s,H,F,x,K,M,p,i,i0,bg q.1,bg q.2];rfl
 rw[rd_yes _ hB];show V.tup [.agg [.str n,.int .i64 (yX (Kt f)),.int .i64 (ytI (uP f t) (yX (Kt f))),.int .i64 (u7 (ql m)),.int .i64 (rz (fF k w d)),.int .i64 (iL (fF k w d)),.int .i64 (rA (fF k w d)),.int .i64 (PD (Af c b)),.int .i64 (PE (Af c b)),.int .i64 (fD (Ag v)),.str (Aq (Gg l))],.int .i64 0]=_;rw[u,J,m1,j,o,s,C,D,x,l2]
theorem ru_right (xs:ah) (h:EZ xs=true):Pm (rg xs 0) (yX (rg xs 1)) (ytI (rg xs 2) (yX (rg xs 1))) (u7 (rg xs 4)) (rz (rg xs 5)) (iL (rg xs 5)) (rA (rg xs 5)) (PD (rg xs 6)) (PE (rg xs 6)) (fD (rg xs 7)) (Aq (rg xs 8))=true∧(rg xs 0).length≤64∧(Aq (rg xs 8)).length≤6:=by unfold EZ at h;simp only[bC,aN,aB] at h;obtain⟨j,d,f,g,m,n,k,i,e,l,b,c,a⟩:=h;have y:=yf_rng _ f;have z:=yt_rng _ _ y.2 g;refine⟨?_,oh _ d,(N9 _ a).2⟩;rw[FK];refine⟨d,?_,i,QL _ e,⟨b,c⟩,(N9 _ a).1⟩;unfold yrB;rw[bg y.1,bg z.1,bg z.2];rfl
def rfV (n:af) (f t m k w d c b v:Int) (l:af):ah:=sel (Pm n f t m k w d c b v l) (rfL n f t m k w d c b v l) []
def rfE (n:af) (f t m k w d c b v:Int) (l:af):Int:=sel (Pm n f t m k w d c b v l) 0 4
theorem zRdS_ok (xs:ah) (a:gN xs=true):aj zE 77 [.sl 9 [.str] none xs] (.tup [.agg [.str (Tx xs),.int .i64 (Ty xs),.int .i64 (Tz xs),.int .i64 (TB xs),.int .i64 (TC xs),.int .i64 (TD xs),.int .i64 (TE xs),.int .i64 (TF xs),.int .i64 (TG xs),.int .i64 (TH xs),.str (zf xs)],.int .i64 (Mx xs)]):=zRead_ev xs a
theorem rd_inj (xs:ah) {j a:af} {k l m c n i f d g e:Int} (h:rdV xs=.tup [.agg [.str j,.int .i64 k,.int .i64 l,.int .i64 m,.int .i64 c,.int .i64 n,.int .i64 i,.int .i64 f,.int .i64 d,.int .i64 g,.str a],.int .i64 e]):
  Tx xs=j∧Ty xs=k∧Tz xs=l∧TB xs=m∧TC xs=c∧TD xs=n∧TE xs=i∧TF xs=f∧TG xs=d∧TH xs=g∧zf xs=a∧Mx xs=e:=by
 unfold rdV at h;simp only[V.tup.injEq,Pf,V.agg.injEq,V.str.injEq,V.int.injEq,jA,Tp] at h;obtain⟨⟨q,w,p,r,v,y,s,x,o,t,b⟩,u⟩:=h;exact⟨q,w,p,r,v,y,s,x,o,t,b,u⟩
theorem rdE_ne (xs:ah) (h:EZ xs=false):rdE xs≠0:=by
 by_cases o:ay xs<9
 ·unfold rdE;rw[bH o];show(5:Int)≠0;decide
 by_cases k:9<ay xs
 ·unfold rdE;rw[bF (by omega),bH k];show(6:Int)≠0;decide
 unfold EZ at h;unfold rdE;rw[bn (by omega),JH] at h;rw[bF (by omega),bF (by omega),sF,sF]
 cases b:ieq (dG (rg xs 0)) 0 with
 |false=>intro a;rw[show dG (rg xs 0)=0 from a] at b;cases b
 |true=>
 rw[b,JH] at h;rw[sT]
 cases g:ieq (Ks (rg xs 1)) 0 with
 |false=>intro a;rw[show Ks (rg xs 1)=0 from a] at g;cases g
 |true=>
 rw[g,JH] at h;rw[sT]
 cases f:ieq (Pk (rg xs 2) (yX (rg xs 1))) 0 with
 |false=>intro a;rw[show Pk (rg xs 2) (yX (rg xs 1))=0 from a] at f;cases f
 |true=>
 rw[f,JH] at h;rw[sT]
 cases m:seq (rg xs 3) [45] with
 |false=>show(3:Int)≠0;decide
 |true=>
 rw[m,JH] at h;rw[sT]
 cases i:ieq (qj (rg xs 4)) 0 with
 |false=>intro a;rw[show qj (rg xs 4)=0 from a] at i;cases i
 |true=>
 rw[i,JH] at h;rw[sT]
 cases c:ieq (sZ (rg xs 5)) 0 with
 |false=>intro a;rw[show sZ (rg xs 5)=0 from a] at c;cases c
 |true=>
 rw[c,JH] at h;rw[sT]
 cases n:oQ (rz (rg xs 5)) (iL (rg xs 5)) (rA (rg xs 5)) (u7 (rg xs 4)) with
 |false=>show(1:Int)≠0;decide
 |true=>
 rw[n,JH] at h;rw[sT]
 cases d:ieq (yY (rg xs 6)) 0 with
 |false=>intro a;rw[show yY (rg xs 6)=0 from a] at d;cases d
 |true=>
 rw[d,JH] at h;rw[sT]
 cases e:ieq (lT (rg xs 7)) 0 with
 |false=>intro a;rw[show lT (rg xs 7)=0 from a] at e;cases e
 |true=>
 rw[e,JH] at h;rw[sT]
 cases l:av (-10800) (fD (rg xs 7)) with
 |false=>show(1:Int)≠0;decide
 |true=>
 rw[l,JH] at h;rw[sT]
 cases j:av (fD (rg xs 7)) 10800 with
 |false=>show(1:Int)≠0;decide
 |true=>
 rw[j,JH] at h;rw[sT];intro a;rw[a] at h
 cases h
end Nt.Ev.YtknhlobahpgkeaaGreatDoor
