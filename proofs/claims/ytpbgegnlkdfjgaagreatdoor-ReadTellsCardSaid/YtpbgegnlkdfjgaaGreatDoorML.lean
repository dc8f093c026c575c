/-
  Words: equations of functions, as the evaluator prints them. Words: weekdays, and whether two texts are the same, for the evaluator, both sides. Dayspec: equations of functions, as the evaluator prints them. Names of days: what the program's functions and the document's answer. DayspecLaw: equations of functions, as the evaluator prints them. Names of days: the statements DayspecTells and DayspecBack.
-/
import Derived.Test.YtpbgegnlkdfjgaaGreatDoorME
import Derived.Test.YtpbgegnlkdfjgaaGreatDoorMD
set_option linter.unusedVariables false
set_option linter.unusedSimpArgs false
set_option linter.unusedSectionVars false
namespace Nt.Ev.YtpbgegnlkdfjgaaGreatDoor
set_option maxRecDepth 100000
open Go Nt.Num Go.Proofs.YtpbgegnlkdfjgaaGreatDoor
noncomputable def Dw:V:=.rptr [.str,.str,.str,.str,.str,.str,.str] (.agg [.str [83,117,110,100,97,121],.str [77,111,110,100,97,121],.str [84,117,101,115,100,97,121],.str [87,101,100,110,101,115,100,97,121],.str [84,104,117,114,115,100,97,121],.str [70,114,105,100,97,121],.str [83,97,116,117,114,100,97,121]]) 0
noncomputable def wE:Env:=⟨Go.Proofs.Tryz.prog,fun g=>bif g==6 then some Dw else none⟩
noncomputable def MJ:aL:=fun a=>match a with|[.str s,.sl e [.str] o ws]=>some (av (ak (ah s) 1000) (mV ws),.tup [.int .i64 (kH s ws),.int .i64 (mO s ws)])|_=>none
noncomputable def wS:List (Nat×aL):=(31,MJ)::(22,MJ)::[]
theorem Ns (F:Nat) (s:List UInt8) (K:V→Option V):
 bD wE (bB wE wS F 2) F 173 [V.str s] K=
 let A:=[V.str [83,117,110,100,97,121],V.str [77,111,110,100,97,121],V.str [84,117,101,115,100,97,121],V.str [87,101,100,110,101,115,100,97,121],V.str [84,104,117,114,115,100,97,121],V.str [70,114,105,100,97,121],V.str [83,97,116,117,114,100,97,121]];sel (av (ak (ah s) 1000) (mV A)) (K (V.tup [V.int .i64 (kH s A),V.int .i64 (mO s A)])) none:=by kernel_rfl
theorem Nu (F:Nat) (s:List UInt8) (K:V→Option V):
 bD wE (bB wE wS F 2) F 127 [V.str s] K=
 let A:=[V.str [83,117,110,100,97,121],V.str [77,111,110,100,97,121],V.str [84,117,101,115,100,97,121],V.str [87,101,100,110,101,115,100,97,121],V.str [84,104,117,114,115,100,97,121],V.str [70,114,105,100,97,121],V.str [83,97,116,117,114,100,97,121]];sel (av (ak (ah s) 1000) (mV A)) (K (V.tup [V.int .i64 (kH s A),V.int .i64 (mO s A)])) none:=by kernel_rfl
open Go.RowKit Nt
theorem D6:vT wE:=⟨by kernel_rfl,by kernel_rfl⟩
theorem toW {f:Nat} {args:List V} {r:V} (h:af nE f args r):af wE f args r:=af.env (E:=nE) rfl (fun n v h=>by cases h) h
theorem o8 {s:List UInt8} (h:ak (ah s) 1000=true):s.length≤1000:=by rw[aA,au] at h;omega
theorem Tc (s:List UInt8) (e:Nat) (o:Option Nat) (ws:List V) (hc:av (ak (ah s) 1000) (mV ws)=true):af wE 31 [.str s,.sl e [.str] o ws] (.tup [.int .i64 (kH s ws),.int .i64 (mO s ws)]):=by
 obtain⟨h1,h2⟩:=aV hc;exact toW (Ho s e o ws (o8 h1) h2)
theorem nJ (s:List UInt8) (e:Nat) (o:Option Nat) (ws:List V) (hc:av (ak (ah s) 1000) (mV ws)=true):af wE 22 [.str s,.sl e [.str] o ws] (.tup [.int .i64 (kH s ws),.int .i64 (mO s ws)]):=by
 obtain⟨h1,h2⟩:=aV hc;exact toW (Hq s e o ws (o8 h1) h2)
theorem wS_ok:bF wE wS:=by
 unfold wS;refine bF.cons (fun args r h=>?_) (bF.cons (fun args r h=>?_) bF.nil);all_goals (revert h;intro h;first|unfold MJ at h)
 all_goals (split at h;rotate_left; · cases h)
 all_goals (simp only[Option.some.injEq,Prod.mk.injEq] at h;obtain⟨hc,rfl⟩:=h)
 ·exact Tc _ _ _ _ hc
 ·exact nJ _ _ _ _ hc
theorem mt_lt (s:ByteArray) (ws:List ByteArray) (h:(Words.mt s ws).2=0):(Words.mt s ws).1<ws.length:=by
 unfold Words.mt at*;split at h
 ·cases h
 ·rename_i h1
  rw[if_neg h1];split at h
  ·rename_i i hi
   have:=List.mem_of_find?_eq_some hi;exact List.mem_range.1 this
  ·rename_i hi
   split at h
   ·cases h
   ·rename_i f r hf
    split at h
    ·rename_i ha
     rw[if_pos ha];exact Words.BL s ws ws.length f (by rw[hf];exact List.mem_cons_self)
    ·cases h
def wdV:List V:=[.str [83,117,110,100,97,121],.str [77,111,110,100,97,121],.str [84,117,101,115,100,97,121],.str [87,101,100,110,101,115,100,97,121],.str [84,104,117,114,115,100,97,121],.str [70,114,105,100,97,121],.str [83,97,116,117,114,100,97,121]]
def Ra (s:List UInt8):Int:=kH s wdV
def AY (s:List UInt8):Int:=mO s wdV
theorem ZP:mV wdV=true:=by decide
theorem QC (s:List UInt8) (hs:s.length≤1000):af wE 173 [.str s] (.tup [.int .i64 (Ra s),.int .i64 (AY s)]):=by
 refine ai D6 wS_ok 5 2 ?_
 (rw[Ns];(conv=>zeta);rw[aj])
 ·rfl
 ·rw[aC];exact⟨bA (by rw[au];omega),ZP⟩
theorem QD (s:List UInt8) (hs:s.length≤1000):af wE 127 [.str s] (.tup [.int .i64 (Ra s),.int .i64 (AY s)]):=by
 refine ai D6 wS_ok 5 2 ?_
 (rw[Nu];(conv=>zeta);rw[aj])
 ·rfl
 ·rw[aC];exact⟨bA (by rw[au];omega),ZP⟩
def T8 (a b:List UInt8):Bool:=Words.same ⟨a.toArray⟩ ⟨b.toArray⟩
theorem aa1 (a b:List UInt8) (ha:a.length≤1000) (hb:b.length≤1000):af wE 51 [.str a,.str b] (.bool (T8 a b)):=by
 refine bJ fun G w vs hG hg hp=>?_
 obtain⟨x,y,rfl,hx,hy⟩:=jo hp;unfold aP at hx hy;subst hx;subst hy;refine(CR ⟨a.toArray⟩ ⟨b.toArray⟩ w (wW ha) (wW hb)).mono ?_;rintro e w' ⟨rfl,n,rfl⟩;exact⟨_,rfl,Nt.below_drewN (Below.refl _ _) _,Hf _⟩
theorem aa2 (a b:List UInt8) (ha:a.length≤1000) (hb:b.length≤1000):af wE 37 [.str a,.str b] (.bool (T8 a b)):=by
 refine bJ fun G w vs hG hg hp=>?_
 obtain⟨x,y,rfl,hx,hy⟩:=jo hp;unfold aP at hx hy;subst hx;subst hy;refine(GA ⟨a.toArray⟩ ⟨b.toArray⟩ w (wW ha) (wW hb)).mono ?_;rintro e w' ⟨rfl,n,rfl⟩;exact⟨_,rfl,Nt.below_drewN (Below.refl _ _) _,Hf _⟩
def Je (s p:List UInt8):Bool:=Lib.hasPrefix s p
def YN (s p:List UInt8):List UInt8:=Lib.trimPrefix s p
def AV (s c:List UInt8):Int:=Lib.indexAny s c
def MK (l:List UInt8):Bool:=l.all fun c=>decide (c.toNat<128)
def Rb (k w d:Int):Bool:=if k=1 then decide (0≤w∧w≤6∧d=0) else if k=0 then decide (w=0∧1≤d∧d≤31) else decide ((k=2∨k=3)∧0≤w∧w≤6∧1≤d∧d≤31)
noncomputable def dCutS:aL:=fun a=>match a with|[.str s,.str p]=>some (ak (ah s) 1000,.tup [.str (YN s p),.bool (Je s p)])|_=>none
noncomputable def dAnyS:aL:=fun a=>match a with|[.str s,.str c]=>some (av (ak (ah s) 1000) (av (av (ak 2 (ah c)) (ak (ah c) 1000)) (MK c)),.int .i64 (AV s c))|_=>none
noncomputable def ZQ:aL:=fun a=>match a with|[.str s,.int .u8 c]=>some (true,.int .i64 (wo s c))|_=>none
noncomputable def MN:aL:=fun a=>match a with|[.str s]=>some (ak (ah s) 1000,.tup [.int .i64 (eU s),.int .i64 (nrW s)])|_=>none
noncomputable def dWdS:aL:=fun a=>match a with|[.str s]=>some (ak (ah s) 1000,.tup [.int .i64 (Ra s),.int .i64 (AY s)])|_=>none
noncomputable def dSmS:aL:=fun a=>match a with|[.str a,.str b]=>some (av (ak (ah a) 1000) (ak (ah b) 1000),.bool (T8 a b))|_=>none
noncomputable def dOnS:aL:=fun a=>match a with|[.agg [.int .i64 k,.int .i64 w,.int .i64 d]]=>some (true,.bool (Rb k w d))|_=>none
noncomputable def dS:List (Nat×aL):=(137,dCutS)::(169,dAnyS)::(43,ZQ)::(142,MN)::(85,MN)::(173,dWdS)::(127,dWdS)::(51,dSmS)::(37,dSmS)::[]
noncomputable def dS2:List (Nat×aL):=(152,dOnS)::(129,dOnS)::dS
def Yx (s:List UInt8):Int×Int:=if nrW s=0 then(if eU s<1∨31<eU s then(0,1) else(eU s,0)) else(0,nrW s)
def Yy (s:List UInt8):Int:=(Yx s).1
def FR (s:List UInt8):Int:=(Yx s).2
def Yr (s:List UInt8):Int:=AV s [60,62]
noncomputable def ZR:aL:=fun a=>match a with|[.str s]=>some (ak (ah s) 1000,.int .i64 (Yr s))|_=>none
noncomputable def rDayS:aL:=fun a=>match a with|[.str s]=>some (ak (ah s) 1000,.tup [.int .i64 (Yy s),.int .i64 (FR s)])|_=>none
noncomputable def dS3:List (Nat×aL):=(126,ZR)::(128,rDayS)::dS2
theorem Td (F:Nat) (k w d:Int) (K:V→Option V):
 bD wE (bB wE dS F 3) F 152 [V.agg [V.int .i64 k,V.int .i64 w,V.int .i64 d]] K=
 let A:=K (V.bool false);let B:=sel (ak 1 d) (K (V.bool (ak d 31))) A;sel (ieq k 1) (sel (ak 0 w) (sel (ak w 6) (K (V.bool (ieq d 0))) A) A) (sel (ieq k 0) (sel (ak 0 k) (sel (ak k 3) (sel (ak 0 w) (sel (ak w 0) B A) A) A) A) (sel (ak 0 k) (sel (ak k 3) (sel (ak 0 w) (sel (ak w 6) B A) A) A) A)):=by kernel_rfl
theorem QE (F:Nat) (k w d:Int) (K:V→Option V):
 bD wE (bB wE dS F 3) F 129 [V.agg [V.int .i64 k,V.int .i64 w,V.int .i64 d]] K=
 let A:=K (V.bool false);let B:=sel (ieq k 1) A (sel (ieq k 2) (sel (ieq k 2) A A) (sel (ieq k 3) A A));let C:=sel (ak d 31) (K (V.bool (ieq w 0))) A;let D:=sel (ak w 6) (K (V.bool (ak d 31))) A;let E:=sel (ak w 6) (K (V.bool (ieq d 0))) A;let G:=sel (ak w 6) A A;sel (ak 1 d) (sel (ak 0 w) (sel (ieq k 0) C (sel (ieq k 1) E (sel (ieq k 2) (sel (ieq k 2) D A) (sel (ieq k 3) D A)))) (sel (ieq k 0) C B)) (sel (ak 0 w) (sel (ieq k 0) A (sel (ieq k 1) E (sel (ieq k 2) (sel (ieq k 2) G A) (sel (ieq k 3) G A)))) (sel (ieq k 0) A B)):=by kernel_rfl
noncomputable def BN (F:Nat) (ns:List Nat) (n:Nat) (x0:List UInt8) (x2 x3:Int) (K:V→Option V):Option V:=
 dN wE dS2 F 2 126 [1,0,1,0] ns K n (iY 21 [(0,V.str x0),(2,V.int .i64 x2),(3,V.int .i64 x3)] [])
theorem WE (F:Nat) (s:List UInt8) (K:V→Option V):
 bD wE (bB wE dS2 F 2) F 126 [V.str s] K=
 BN F [] F s 0 0 K:=by kernel_rfl
theorem Ju (F n:Nat) (x0:List UInt8) (x2 x3:Int) (K:V→Option V):
 BN F [] (n+1) x0 x2 x3 K=
 let B:=K (V.int .i64 x3);let C:=aK x3 (ah x0);let A:=av (ak 0 x3) C;sel C (sel A (sel (ieq (sat x0 x3) 60) B (sel A (sel (ieq (sat x0 x3) 62) B (BN F [] n x0 x2 (bP .i64 x3 1) K)) none)) none) (K (V.int .i64 (-1))):=by kernel_rfl
theorem aa3 (F:Nat) (s:List UInt8) (K:V→Option V):
 bD wE (bB wE dS2 F 2) F 128 [V.str s] K=
 let C:=V.int .i64 0;let A:=sel (aB (ieq (nrW s) 0)) (K (V.tup [C,V.int .i64 (nrW s)])) (K (V.tup [V.int .i64 (eU s),C]));let B:=K (V.tup [C,V.int .i64 1]);sel (ak (ah s) 1000) (sel (ieq (nrW s) 0) (sel (aK (eU s) 1) B (sel (aK 31 (eU s)) B A)) A) none:=by kernel_rfl
theorem WG (F:Nat) (s:List UInt8) (K:V→Option V):
 bD wE (bB wE dS2 F 8) F 117 [V.str s] K=
 let D:=AV s [60,62];let G:=V.int .i64 0;let J:=bU s 4 (ah s);let N:=av (ak 0 4) (ak 4 (ah s));let S:=ak (ah s) 1000;let A:=V.agg [G,G,G];let L:=bU s 0 D;let O:=bP .i64 D 1;let E:=K (V.tup [A,V.int .i64 1]);let H:=bU s O (ah s);let I:=K (V.tup [A,V.int .i64 4]);let Q:=V.int .i64 (Ra L);let B:=YN H [61];let C:=sel (ak 4 (ah s)) (sel N (sel (av (ak (ah (bU s 0 4)) 1000) (ak (ah [108,97,115,116]) 1000)) (sel (T8 (bU s 0 4) [108,97,115,116]) (sel N (sel (ak (ah J) 1000) (sel (aB (ieq (AY J) 0)) (K (V.tup [A,V.int .i64 (AY J)])) (K (V.tup [V.agg [V.int .i64 1,V.int .i64 (Ra J),G],G]))) none) none) I) none) none) I;let M:=K (V.tup [A,V.int .i64 (nrW B)]);let P:=aB (ieq (nrW B) 0);let R:=V.int .i64 (eU B);let T:=ak (ah B) 1000;sel (av S (av (av (ak 2 (ah [60,62])) (ak (ah [60,62]) 1000)) (MK [60,62]))) (sel (ak 0 D) (sel (av (ak 0 O) (ak O (ah s))) (sel (ak (ah H) 1000) (sel (aB (Je H [61])) I (sel (av (ak 0 D) (ak D (ah s))) (sel (ak (ah L) 1000) (sel (aB (ieq (AY L) 0)) (K (V.tup [A,V.int .i64 (AY L)])) (sel (av (ak 0 D) (aK D (ah s))) (sel (ieq (sat s D) 60) (sel T (sel P M (sel (aK (eU B) 1) E (sel (aK 31 (eU B)) E (K (V.tup [V.agg [V.int .i64 3,Q,R],G]))))) none) (sel T (sel P M (sel (aK (eU B) 1) E (sel (aK 31 (eU B)) E (K (V.tup [V.agg [V.int .i64 2,Q,R],G]))))) none)) none)) none) none)) none) none) (sel (aB (seq s [])) (sel (av (ak 0 0) (aK 0 (ah s))) (sel (ak 0 (wo [45,48,49,50,51,52,53,54,55,56,57] (sat s 0))) (sel S (sel (aB (ieq (nrW s) 0)) (K (V.tup [A,V.int .i64 (nrW s)])) (sel (aK (eU s) 1) E (sel (aK 31 (eU s)) E (K (V.tup [V.agg [G,G,V.int .i64 (eU s)],G]))))) none) C) none) C)) none:=by kernel_rfl
theorem QF (F:Nat) (s:List UInt8) (K:V→Option V):
 bD wE (bB wE dS3 F 2) F 92 [V.str s] K=
 let E:=bU s 0 (Yr s);let G:=V.int .i64 0;let I:=bP .i64 (Yr s) 2;let J:=av (ak 0 0) (aK 0 (ah s));let L:=bP .i64 (Yr s) 1;let M:=bU s 4 (ah s);let R:=av (ak 0 4) (ak 4 (ah s));let S:=ak 0 (Yr s);let Y:=ak (ah s) 1000;let B:=V.agg [G,G,G];let C:=bU s I (ah s);let N:=av S (ak (Yr s) (ah s));let Q:=av (ak 0 I) (ak I (ah s));let T:=aB (ieq (AY E) 0);let W:=V.int .i64 (Ra E);let Z:=ak (ah E) 1000;let D:=sel Y (sel (aB (ieq (FR s) 0)) (K (V.tup [B,V.int .i64 (FR s)])) (K (V.tup [V.agg [G,G,V.int .i64 (Yy s)],G]))) (none);let H:=K (V.tup [B,V.int .i64 4]);let O:=K (V.tup [B,V.int .i64 (AY E)]);let P:=K (V.tup [B,V.int .i64 (FR C)]);let U:=aB (ieq (FR C) 0);let X:=V.int .i64 (Yy C);let A:=sel (aK (ah s) 4) H (sel R (sel (av (ak (ah (bU s 0 4)) 1000) (ak (ah [108,97,115,116]) 1000)) (sel (aB (T8 (bU s 0 4) [108,97,115,116])) H (sel R (sel (ak (ah M) 1000) (sel (aB (ieq (AY M) 0)) (K (V.tup [B,V.int .i64 (AY M)])) (K (V.tup [V.agg [V.int .i64 1,V.int .i64 (Ra M),G],G]))) none) none)) none) none);sel Y (sel S (sel (ak (ah s) L) H (sel (av (ak 0 L) (aK L (ah s))) (sel (aB (ieq (sat s L) 61)) H (sel (av S (aK (Yr s) (ah s))) (sel (ieq (sat s (Yr s)) 60) (sel N (sel Z (sel T O (sel Q (sel (ak (ah C) 1000) (sel U P (K (V.tup [V.agg [V.int .i64 3,W,X],G]))) none) none)) none) none) (sel N (sel Z (sel T O (sel Q (sel (ak (ah C) 1000) (sel U P (K (V.tup [V.agg [V.int .i64 2,W,X],G]))) none) none)) none) none)) none)) none)) (sel (aB (seq s [])) (sel J (sel (ieq (sat s 0) 45) D (sel J (sel (ak 48 (sat s 0)) (sel J (sel (ak (sat s 0) 57) D A) none) A) none)) none) A)) none:=by kernel_rfl
theorem aa4 (s p:List UInt8) (hc:ak (ah s) 1000=true):af wE 137 [.str s,.str p] (.tup [.str (YN s p),.bool (Je s p)]):=by
 refine bJ fun G w vs hG hg hp=>?_
 obtain⟨x,y,rfl,hx,hy⟩:=jo hp;unfold aP at hx hy;subst hx;subst hy;refine(Go.Proofs.Tryz.strings_CutPrefix ⟨s.toArray⟩ ⟨p.toArray⟩ w).mono ?_;rintro e w' ⟨rfl,rfl⟩;exact⟨_,rfl,Below.refl _ _,Bv (Hg _) (KV _)⟩
theorem aa5 (s c:List UInt8) (hc:av (ak (ah s) 1000) (av (av (ak 2 (ah c)) (ak (ah c) 1000)) (MK c))=true):af wE 169 [.str s,.str c] (.int .i64 (AV s c)):=by
 obtain⟨h1,h2⟩:=aV hc;obtain⟨h2,h3⟩:=aV h2;obtain⟨h2,h4⟩:=aV h2;have h1:=o8 h1;have h4:=o8 h4;rw[aA,au] at h2;refine bJ fun G w vs hG hg hp=>?_
 obtain⟨x,y,rfl,hx,hy⟩:=jo hp;unfold aP at hx hy;subst hx;subst hy;refine(Nt.AnyS.KY Go.Proofs.Tryz.MG (by kernel_rfl) ⟨s.toArray⟩ ⟨c.toArray⟩ w (by rw[yF];omega) (by rw[yF];omega) (by rw[yF];omega) (fun b hb=>?_)).mono ?_
 ·have h3:(c.all fun c=>decide (c.toNat<128))=true:=h3
  exact of_decide_eq_true (List.all_eq_true.1 h3 b hb)
 ·rintro e w' ⟨rfl,hb⟩
  exact⟨_,rfl,hb,r9 _ _⟩
theorem WH (s:List UInt8) (c:Int) (hc:true=true):af wE 43 [.str s,.int .u8 c] (.int .i64 (wo s c)):=toW (Zh s c)
theorem Te (s:List UInt8) (hc:ak (ah s) 1000=true):af wE 142 [.str s] (.tup [.int .i64 (eU s),.int .i64 (nrW s)]):=toW (MH s (o8 hc))
theorem oH (s:List UInt8) (hc:ak (ah s) 1000=true):af wE 85 [.str s] (.tup [.int .i64 (eU s),.int .i64 (nrW s)]):=toW (MI s (o8 hc))
theorem dWdS_ok (s:List UInt8) (hc:ak (ah s) 1000=true):af wE 173 [.str s] (.tup [.int .i64 (Ra s),.int .i64 (AY s)]):=QC s (o8 hc)
theorem oI (s:List UInt8) (hc:ak (ah s) 1000=true):af wE 127 [.str s] (.tup [.int .i64 (Ra s),.int .i64 (AY s)]):=QD s (o8 hc)
theorem dSmS_ok (a b:List UInt8) (hc:av (ak (ah a) 1000) (ak (ah b) 1000)=true):af wE 51 [.str a,.str b] (.bool (T8 a b)):=aa1 a b (o8 (aV hc).1) (o8 (aV hc).2)
theorem q8 (a b:List UInt8) (hc:av (ak (ah a) 1000) (ak (ah b) 1000)=true):af wE 37 [.str a,.str b] (.bool (T8 a b)):=aa2 a b (o8 (aV hc).1) (o8 (aV hc).2)
theorem Zi:bF wE dS:=by
 unfold dS;refine bF.cons (fun args r h=>?_) (bF.cons (fun args r h=>?_) (bF.cons (fun args r h=>?_) (bF.cons (fun args r h=>?_) (bF.cons (fun args r h=>?_) (bF.cons (fun args r h=>?_) (bF.cons (fun args r h=>?_) (bF.cons (fun args r h=>?_) (bF.cons (fun args r h=>?_) bF.nil))))))));all_goals (revert h;intro h;first|unfold dCutS at h|unfold dAnyS at h|unfold ZQ at h|unfold MN at h|unfold dWdS at h|unfold dSmS at h)
 all_goals (split at h;rotate_left; · cases h)
 all_goals (simp only[Option.some.injEq,Prod.mk.injEq] at h;obtain⟨hc,rfl⟩:=h)
 ·exact aa4 _ _ hc
 ·exact aa5 _ _ hc
 ·exact WH _ _ rfl
 ·exact Te _ hc
 ·exact oH _ hc
 ·exact dWdS_ok _ hc
 ·exact oI _ hc
 ·exact dSmS_ok _ _ hc
 ·exact q8 _ _ hc
theorem KZ (k w d:Int):af wE 152 [.agg [.int .i64 k,.int .i64 w,.int .i64 d]] (.bool (Rb k w d)):=by
 refine ai D6 Zi 5 3 ?_
 (rw[Td];(conv=>zeta))
 unfold Rb;simp only[bI,aH,aA];repeat' split
 all_goals first
  |(rw[decide_eq_false (by omega)];done)
  |(exfalso;omega)
  |(congr 2;unfold ak;rw[Bool.eq_iff_iff];simp;omega)
  |(congr 2;unfold ieq;rw[Bool.eq_iff_iff];simp;omega)
theorem IE (k w d:Int):af wE 129 [.agg [.int .i64 k,.int .i64 w,.int .i64 d]] (.bool (Rb k w d)):=by
 refine ai D6 Zi 5 3 ?_
 (rw[QE];(conv=>zeta))
 unfold Rb;simp only[bI,aH,aA];repeat' split
 all_goals first
  |(rw[decide_eq_false (by omega)];done)
  |(exfalso;omega)
  |(congr 2;unfold ak;rw[Bool.eq_iff_iff];simp;omega)
  |(congr 2;unfold ieq;rw[Bool.eq_iff_iff];simp;omega)
theorem dOnS_ok (k w d:Int) (hc:true=true):af wE 152 [.agg [.int .i64 k,.int .i64 w,.int .i64 d]] (.bool (Rb k w d)):=KZ k w d
theorem p8 (k w d:Int) (hc:true=true):af wE 129 [.agg [.int .i64 k,.int .i64 w,.int .i64 d]] (.bool (Rb k w d)):=IE k w d
theorem Mb:bF wE dS2:=by
 unfold dS2;refine bF.cons (fun args r h=>?_) (bF.cons (fun args r h=>?_) Zi);all_goals (revert h;intro h;first|unfold dOnS at h)
 all_goals (split at h;rotate_left; · cases h)
 all_goals (simp only[Option.some.injEq,Prod.mk.injEq] at h;obtain⟨hc,rfl⟩:=h)
 ·exact dOnS_ok _ _ _ rfl
 ·exact p8 _ _ _ rfl
theorem rDay_ev (s:List UInt8) (hs:s.length≤1000):af wE 128 [.str s] (.tup [.int .i64 (Yy s),.int .i64 (FR s)]):=by
 refine ai D6 Mb 5 2 ?_
 (rw[aa3];(conv=>zeta);rw[aj (bA (by rw[au];omega))])
 unfold Yy FR Yx;simp only[bI,aH,aU,bE];repeat' split
 all_goals first|rfl|(exfalso;omega)|(exfalso;simp_all;done)
theorem yR (s:List UInt8) (k:Nat):bU s (k:Int) (ah s)=s.drop k:=by
 rw[au,xB];exact List.take_of_length_le (by rw[List.length_drop];omega)
theorem FH (s:List UInt8) (k:Nat):bU s 0 (k:Int)=s.take k:=by
 have:bU s ((0:Nat):Int) (k:Int)=(s.drop 0).take (k-0):=xB s 0 k;rw[List.drop_zero,Nat.sub_zero] at this;exact this
theorem O8 (b:UInt8) (l:List UInt8):AV (b::l) [60,62]=if b=60∨b=62 then 0 else if AV l [60,62]= -1 then -1 else AV l [60,62]+1:=by
 unfold AV;rw[Lib.indexAny];have e:(List.contains [60,62] b=true)=(b=60∨b=62):=by simp
 simp only[e,beq_iff_eq]
theorem ZS (l:List UInt8): -1≤AV l [60,62]:=Lib.indexAny_ge _ _
theorem RX: ∀(l:List UInt8),0≤AV l [60,62]→AV l [60,62]<l.length∧(l.getD (AV l [60,62]).toNat 0=60∨l.getD (AV l [60,62]).toNat 0=62)
 |[],h=>by exact absurd h (by decide)
 |b::l,h=>by
  have ih:=RX l;have hg:=ZS l;rw[O8] at*;split
  ·rename_i h1
   exact⟨by rw[List.length_cons];omega,h1⟩
  ·rename_i h1
   rw[if_neg h1] at h;split
   ·rename_i h2
    rw[if_pos h2] at h;exact absurd h (by decide)
   ·obtain⟨k1,k2⟩:=ih (by omega)
    refine⟨by rw[List.length_cons];omega,?_⟩;rw[show(AV l [60,62]+1).toNat=(AV l [60,62]).toNat+1 by omega,List.getD_cons_succ];exact k2
theorem WI (F:Nat) (s:List UInt8) (x2:Int) (hs:s.length≤1000): ∀(n k:Nat),k≤s.length→s.length-k<n→
  BN F [] n s x2 (k:Int) some=some (.int .i64 (if AV (s.drop k) [60,62]= -1 then -1 else k+AV (s.drop k) [60,62])):=by
 intro n;induction n with
 |zero=>intro k _ h;omega
 |succ n ih=>
  intro k hk hn
  (rw[Ju];(conv=>zeta))
  by_cases h:k<s.length
  ·have e:s.drop k=s[k]::s.drop (k+1):=List.drop_eq_getElem_cons h
   have hb:av (ak 0 (k:Int)) (aK (k:Int) (ah s))=true:=by rw[aC,aA,aU,au];omega
   have hg:(s.getD k 0)=s[k]:=by rw[List.getD_eq_getElem?_getD,List.getElem?_eq_getElem h];rfl
   rw[aj (bq (by rw[au];omega)),aj hb,aj hb,mg,hg,e,O8];have i1:=ih (k+1) (by omega) (by omega);have hge:=ZS (s.drop (k+1));have e60:ieq (s[k].toNat:Int) 60=decide (s[k]=60):=by
    rw[Bool.eq_iff_iff,aH,decide_eq_true_eq,←UInt8.toNat_inj];show((s[k].toNat:Int)=60)↔s[k].toNat=60;omega
   have e62:ieq (s[k].toNat:Int) 62=decide (s[k]=62):=by
    rw[Bool.eq_iff_iff,aH,decide_eq_true_eq,←UInt8.toNat_inj];show((s[k].toNat:Int)=62)↔s[k].toNat=62;omega
   rw[e60,e62];by_cases h0:s[k]=60
   ·rw[aj (decide_eq_true h0),if_pos (show s[k]=60∨s[k]=62 from .inl h0)]
    rw[if_neg (by decide),Int.add_zero]
   ·rw[aG (decide_eq_false h0)]
    by_cases h2:s[k]=62
    ·rw[aj (decide_eq_true h2),if_pos (show s[k]=60∨s[k]=62 from .inr h2)]
     rw[if_neg (by decide),Int.add_zero]
    ·rw[aG (decide_eq_false h2),if_neg (show¬(s[k]=60∨s[k]=62) from fun h=>h.elim h0 h2),dh (by omega)]
     rw[show(k:Int)+1=((k+1:Nat):Int) by omega,i1];by_cases h3:AV (s.drop (k+1)) [60,62]= -1
     ·rw[if_pos h3,if_pos h3,if_pos rfl]
     ·have e9:((k+1:Nat):Int)+AV (s.drop (k+1)) [60,62]=(k:Int)+(AV (s.drop (k+1)) [60,62]+1):=by omega
      rw[if_neg h3,if_neg h3,if_neg (by omega),e9]
  ·have e0:AV [] [60,62]= -1:=rfl
   rw[aG (bu (by rw[au];omega)),List.drop_of_length_le (by omega),if_pos e0]
set_option maxRecDepth 100000 in
theorem aa6 (s:List UInt8) (hs:s.length≤1000):af wE 126 [.str s] (.int .i64 (Yr s)):=by
 refine ai D6 Mb 1002 2 ?_;rw[WE];have:=WI 1002 s 0 hs 1002 0 (by omega) (by omega);rw[List.drop_zero] at this;refine this.trans ?_;unfold Yr;split
 ·rename_i h;rw[h]
 ·congr 2;omega
theorem WJ (s:List UInt8) (hc:ak (ah s) 1000=true):af wE 126 [.str s] (.int .i64 (Yr s)):=aa6 s (o8 hc)
theorem aa7 (s:List UInt8) (hc:ak (ah s) 1000=true):af wE 128 [.str s] (.tup [.int .i64 (Yy s),.int .i64 (FR s)]):=rDay_ev s (o8 hc)
theorem dS3_ok:bF wE dS3:=by
 unfold dS3;refine bF.cons (fun args r h=>?_) (bF.cons (fun args r h=>?_) Mb);all_goals (revert h;intro h;first|unfold ZR at h|unfold rDayS at h)
 all_goals (split at h;rotate_left; · cases h)
 all_goals (simp only[Option.some.injEq,Prod.mk.injEq] at h;obtain⟨hc,rfl⟩:=h)
 ·exact WJ _ hc
 ·exact aa7 _ hc
def dsSg (s:List UInt8) (a:Nat):Int×Int×Int×Int:=
 if Je (s.drop (a+1)) [61]=true then(if AY (s.take a)=0 then(if FR (s.drop (a+2))=0 then(if s.getD a 0=60 then 3 else 2,Ra (s.take a),Yy (s.drop (a+2)),0) else(0,0,0,FR (s.drop (a+2)))) else(0,0,0,AY (s.take a))) else(0,0,0,4)
def dsNm (s:List UInt8):Int×Int×Int×Int:=if FR s=0 then(0,0,Yy s,0) else(0,0,0,FR s)
def YO (s:List UInt8):Int×Int×Int×Int:=if 4≤s.length∧T8 (s.take 4) [108,97,115,116]=true then(if AY (s.drop 4)=0 then(1,Ra (s.drop 4),0,0) else(0,0,0,AY (s.drop 4))) else(0,0,0,4)
def Yt (c:UInt8):Bool:=c==45||(decide (48≤c.toNat)&&decide (c.toNat≤57))
def dsP (s:List UInt8):Int×Int×Int×Int:=
 if 0≤AV s [60,62] then dsSg s (AV s [60,62]).toNat else if s≠[]∧Yt (s.getD 0 0)=true then dsNm s else YO s
def wM (p:Int×Int×Int×Int):V:=.tup [.agg [.int .i64 p.1,.int .i64 p.2.1,.int .i64 p.2.2.1],.int .i64 p.2.2.2]
theorem MO (s:List UInt8) (k:Nat):Je (s.drop k) [61]=true↔(k<s.length∧s.getD k 0=61):=by
 unfold Je Lib.hasPrefix;by_cases h:k<s.length
 ·rw[List.drop_eq_getElem_cons h,List.getD_eq_getElem?_getD,List.getElem?_eq_getElem h]
  show((61==s[k])&&true)=true↔_;rw[Bool.and_true,beq_iff_eq];constructor
  ·intro e;exact⟨h,e.symm⟩
  ·intro e;exact e.2.symm
 ·rw[List.drop_of_length_le (by omega)]
  constructor
  ·intro e;cases e
  ·intro e;exact absurd e.1 h
theorem aa8 (s:List UInt8) (k:Nat) (h:Je (s.drop k) [61]=true):YN (s.drop k) [61]=s.drop (k+1):=by
 unfold YN Lib.trimPrefix;rw[if_pos (show Lib.hasPrefix (s.drop k) [61]=true from h),List.drop_drop];rfl
theorem idx_dm (c:UInt8):ak 0 (wo [45,48,49,50,51,52,53,54,55,56,57] ((c.toNat:Nat):Int))=Yt c:=by
 have h: ∀n:Fin 256,ak 0 (wo [45,48,49,50,51,52,53,54,55,56,57] (((n:Nat)):Int))=Yt (UInt8.ofNat n):=by decide+kernel
 have:=h ⟨c.toNat,c.toNat_lt⟩;simpa using this
theorem MP (x:List UInt8) (e o:Int→Option V):sel (aB (ieq (nrW x) 0)) (e (nrW x)) (sel (aK (eU x) 1) (e 1) (sel (aK 31 (eU x)) (e 1) (o (eU x))))=if FR x=0 then o (Yy x) else e (FR x):=by
 unfold FR Yy;by_cases h:nrW x=0
 ·rw[aG (by rw[aR h];rfl)]
  by_cases h1:eU x<1
  ·have e1:Yx x=(0,1):=by unfold Yx;rw[if_pos h,if_pos (show eU x<1∨31<eU x from .inl h1)]
   rw[aj (bq h1),e1,if_neg (show¬(1:Int)=0 by decide)]
  ·rw[aG (bu (by omega))]
   by_cases h2:31<eU x
   ·have e1:Yx x=(0,1):=by unfold Yx;rw[if_pos h,if_pos (show eU x<1∨31<eU x from .inr h2)]
    rw[aj (bq h2),e1,if_neg (show¬(1:Int)=0 by decide)]
   ·have e1:Yx x=(eU x,0):=by unfold Yx;rw[if_pos h,if_neg (show¬(eU x<1∨31<eU x) by omega)]
    rw[aG (bu (by omega)),e1,if_pos (show(0:Int)=0 from rfl)]
 ·have e1:Yx x=(0,nrW x):=by unfold Yx;rw[if_neg h]
  rw[aj (by rw[bf h];rfl),e1,if_neg h]
theorem ls_sel (s:List UInt8) (hs:s.length≤1000):(sel (ak 4 (ah s))
     (sel (av (ak 0 4) (ak 4 (ah s)))
      (sel (av (ak (ah (bU s 0 4)) 1000) (ak (ah [108,97,115,116]) 1000))
       (sel (T8 (bU s 0 4) [108,97,115,116])
        (sel (av (ak 0 4) (ak 4 (ah s)))
         (sel (ak (ah (bU s 4 (ah s))) 1000)
          (sel (aB (ieq (AY (bU s 4 (ah s))) 0))
           (some (V.tup [V.agg [V.int .i64 0,V.int .i64 0,V.int .i64 0],V.int .i64 (AY (bU s 4 (ah s)))]))
           (some (V.tup [V.agg [V.int .i64 1,V.int .i64 (Ra (bU s 4 (ah s))),V.int .i64 0],V.int .i64 0])))
          none)
         none)
        (some (V.tup [V.agg [V.int .i64 0,V.int .i64 0,V.int .i64 0],V.int .i64 4])))
       none)
      none)
     (some (V.tup [V.agg [V.int .i64 0,V.int .i64 0,V.int .i64 0],V.int .i64 4])))=some (wM (YO s)):=by
 have e0:bU s 0 4=s.take 4:=FH s 4;have e1:bU s 4 (ah s)=s.drop 4:=yR s 4;rw[e0,e1];unfold YO;by_cases h4:4≤s.length
 ·have hb:av (ak 0 4) (ak 4 (ah s))=true:=by rw[aC,aA,aA,au];omega
  have l1:(s.take 4).length≤1000:=by rw[List.length_take];omega
  have l2:(s.drop 4).length≤1000:=by rw[List.length_drop];omega
  rw[aj (bA (by rw[au];omega)),aj hb,aj (by rw[aC,aA,au];exact⟨by omega,rfl⟩)];by_cases h:T8 (s.take 4) [108,97,115,116]=true
  ·rw[aj h,aj hb,aj (bA (by rw[au];omega)),if_pos (show 4≤s.length∧T8 (s.take 4) [108,97,115,116]=true from⟨h4,h⟩)]
   by_cases hw:AY (s.drop 4)=0
   ·rw[aG (by rw[aR hw];rfl),if_pos hw];rfl
   ·rw[aj (by rw[bf hw];rfl),if_neg hw];rfl
  ·rw[aG (by simpa using h),if_neg (fun e=>h e.2)];rfl
 ·rw[aG (zq (by rw[au];omega)),if_neg (fun e=>h4 e.1)];rfl
theorem ls_sel' (s:List UInt8) (hs:s.length≤1000):(sel (aK (ah s) 4)
     (some (V.tup [V.agg [V.int .i64 0,V.int .i64 0,V.int .i64 0],V.int .i64 4]))
     (sel (av (ak 0 4) (ak 4 (ah s)))
      (sel (av (ak (ah (bU s 0 4)) 1000) (ak (ah [108,97,115,116]) 1000))
       (sel (aB (T8 (bU s 0 4) [108,97,115,116]))
        (some (V.tup [V.agg [V.int .i64 0,V.int .i64 0,V.int .i64 0],V.int .i64 4]))
        (sel (av (ak 0 4) (ak 4 (ah s)))
         (sel (ak (ah (bU s 4 (ah s))) 1000)
          (sel (aB (ieq (AY (bU s 4 (ah s))) 0))
           (some (V.tup [V.agg [V.int .i64 0,V.int .i64 0,V.int .i64 0],V.int .i64 (AY (bU s 4 (ah s)))]))
           (some (V.tup [V.agg [V.int .i64 1,V.int .i64 (Ra (bU s 4 (ah s))),V.int .i64 0],V.int .i64 0])))
          none)
         none))
       none)
      none))=some (wM (YO s)):=by
 have e0:bU s 0 4=s.take 4:=FH s 4;have e1:bU s 4 (ah s)=s.drop 4:=yR s 4;rw[e0,e1];unfold YO;by_cases h4:4≤s.length
 ·have hb:av (ak 0 4) (ak 4 (ah s))=true:=by rw[aC,aA,aA,au];omega
  have l1:(s.take 4).length≤1000:=by rw[List.length_take];omega
  have l2:(s.drop 4).length≤1000:=by rw[List.length_drop];omega
  rw[aG (bu (by rw[au];omega)),aj hb,aj (by rw[aC,aA,au];exact⟨by omega,rfl⟩)];by_cases h:T8 (s.take 4) [108,97,115,116]=true
  ·rw[aG (by rw[h];rfl),aj hb,aj (bA (by rw[au];omega)),if_pos (show 4≤s.length∧T8 (s.take 4) [108,97,115,116]=true from⟨h4,h⟩)]
   by_cases hw:AY (s.drop 4)=0
   ·rw[aG (by rw[aR hw];rfl),if_pos hw];rfl
   ·rw[aj (by rw[bf hw];rfl),if_neg hw];rfl
  ·rw[aj (by rw[bE];exact h),if_neg (fun e=>h e.2)];rfl
 ·rw[aj (bq (by rw[au];omega)),if_neg (fun e=>h4 e.1)];rfl
theorem aa9 (s:List UInt8) (hs:s.length≤900):af wE 117 [.str s] (wM (dsP s)):=by
 refine ai D6 Mb 5 8 ?_;have l0:ak (ah s) 1000=true:=bA (by rw[au];omega)
 (rw[WG];(conv=>zeta);rw[aj (by rw[l0];rfl)])
 unfold dsP;by_cases h0:0≤AV s [60,62]
 ·obtain⟨k1,k2⟩:=RX s h0
  obtain⟨a,ha⟩: ∃a:Nat,AV s [60,62]=(a:Int):=⟨(AV s [60,62]).toNat,by omega⟩
  rw[ha] at h0 k1 k2⊢;rw[if_pos h0,Int.toNat_natCast];have e1:bP .i64 (a:Int) 1=((a+1:Nat):Int):=by rw[dh (by omega)];omega
  rw[e1,yR,FH,aj (bA h0),aj (show av (ak 0 ((a+1:Nat):Int)) (ak ((a+1:Nat):Int) (ah s))=true by rw[aC,aA,aA,au];omega),aj (show ak (ah (s.drop (a+1))) 1000=true from bA (by rw[au,List.length_drop];omega))];unfold dsSg;by_cases hp:Je (s.drop (a+1)) [61]=true
  ·rw[if_pos hp,aG (show aB (Je (s.drop (a+1)) [61])=false by rw[hp];rfl),aa8 s (a+1) hp,aj (show av (ak 0 (a:Int)) (ak (a:Int) (ah s))=true by rw[aC,aA,aA,au];omega),aj (show ak (ah (s.take a)) 1000=true from bA (by rw[au,List.length_take];omega))]
   by_cases hw:AY (s.take a)=0
   ·rw[aG (show aB (ieq (AY (s.take a)) 0)=false by rw[aR hw];rfl),if_pos hw,aj (show av (ak 0 (a:Int)) (aK (a:Int) (ah s))=true by rw[aC,aA,aU,au];omega)]
    have l2:ak (ah (s.drop (a+1+1))) 1000=true:=bA (by rw[au,List.length_drop];omega);rw[l2,mg];by_cases hk:s.getD a 0=60
    ·rw[aj (show ieq ((s.getD a 0).toNat:Int) 60=true by rw[hk];rfl),aj rfl]
     refine(MP (s.drop (a+2)) (fun n=>some (wM (0,0,0,n))) (fun n=>some (wM (3,Ra (s.take a),n,0)))).trans ?_;by_cases he:FR (s.drop (a+2))=0
     ·rw[if_pos he,if_pos he,if_pos hk]
     ·rw[if_neg he,if_neg he]
    ·have hk':ieq ((s.getD a 0).toNat:Int) 60=false:=bf (fun e=>hk (by rw[←UInt8.toNat_inj];show(s.getD a 0).toNat=60;omega))
     rw[aG hk',aj rfl];refine(MP (s.drop (a+2)) (fun n=>some (wM (0,0,0,n))) (fun n=>some (wM (2,Ra (s.take a),n,0)))).trans ?_;by_cases he:FR (s.drop (a+2))=0
     ·rw[if_pos he,if_pos he,if_neg hk]
     ·rw[if_neg he,if_neg he]
   ·rw[aj (show aB (ieq (AY (s.take a)) 0)=true by rw[bf hw];rfl),if_neg hw];rfl
  ·rw[if_neg hp,aj (show aB (Je (s.drop (a+1)) [61])=true by rw[bE];exact hp)];rfl
 ·rw[if_neg h0,aG (zq (by omega)),ls_sel s (by omega)]
  cases s with
  |nil=>rfl
  |cons c t=>
   have e2:(c::t).getD 0 0=c:=rfl;have e3:sat (c::t) 0=(c.toNat:Int):=rfl;rw[aj (show aB (seq (c::t) [])=true from rfl),aj (show av (ak 0 0) (aK 0 (ah (c::t)))=true by rw[aC,aU,au];exact⟨rfl,by simp only[List.length_cons];omega⟩),e3,e2,idx_dm,l0]
   cases hd:Yt c with
   |true=>
    rw[aj rfl,aj rfl,if_pos ⟨by simp,rfl⟩];refine(MP (c::t) (fun n=>some (wM (0,0,0,n))) (fun n=>some (wM (0,0,n,0)))).trans ?_;unfold dsNm;by_cases he:FR (c::t)=0
    ·rw[if_pos he,if_pos he]
    ·rw[if_neg he,if_neg he]
   |false=>
    rw[aG rfl,if_neg (fun e=>by cases e.2)]
theorem nm_sel (s:List UInt8):sel (aB (ieq (FR s) 0)) (some (V.tup [V.agg [V.int .i64 0,V.int .i64 0,V.int .i64 0],V.int .i64 (FR s)])) (some (V.tup [V.agg [V.int .i64 0,V.int .i64 0,V.int .i64 (Yy s)],V.int .i64 0]))=some (wM (dsNm s)):=by
 unfold dsNm;by_cases he:FR s=0
 ·rw[aG (by rw[aR he];rfl),if_pos he];rfl
 ·rw[aj (by rw[bf he];rfl),if_neg he];rfl
theorem Tf (s:List UInt8) (hs:s.length≤900):af wE 92 [.str s] (wM (dsP s)):=by
 refine ai D6 dS3_ok 5 2 ?_;have l0:ak (ah s) 1000=true:=bA (by rw[au];omega);have eg:Yr s=AV s [60,62]:=rfl
 (rw[QF];(conv=>zeta);rw[eg,l0,aj rfl])
 unfold dsP;by_cases h0:0≤AV s [60,62]
 ·obtain⟨k1,k2⟩:=RX s h0
  obtain⟨a,ha⟩: ∃a:Nat,AV s [60,62]=(a:Int):=⟨(AV s [60,62]).toNat,by omega⟩
  rw[ha] at h0 k1 k2⊢;rw[if_pos h0,Int.toNat_natCast];have e1:bP .i64 (a:Int) 1=((a+1:Nat):Int):=by rw[dh (by omega)];omega
  have e2:bP .i64 (a:Int) 2=((a+2:Nat):Int):=by rw[dh (by omega)];omega
  rw[e1,e2,yR,FH,aj (bA h0)];unfold dsSg;have hb1:av (ak 0 (a:Int)) (aK (a:Int) (ah s))=true:=by rw[aC,aA,aU,au];omega
  have hb2:av (ak 0 (a:Int)) (ak (a:Int) (ah s))=true:=by rw[aC,aA,aA,au];omega
  have hl1:ak (ah (s.take a)) 1000=true:=bA (by rw[au,List.length_take];omega);have hl2:ak (ah (s.drop (a+2))) 1000=true:=bA (by rw[au,List.length_drop];omega);rw[hb1,hb2,hl1,hl2];by_cases h1:a+1<s.length
  ·rw[aG (zq (by rw[au];omega)),aj (show av (ak 0 ((a+1:Nat):Int)) (aK ((a+1:Nat):Int) (ah s))=true by rw[aC,aA,aU,au];omega),mg]
   have hb3:av (ak 0 ((a+2:Nat):Int)) (ak ((a+2:Nat):Int) (ah s))=true:=by rw[aC,aA,aA,au];omega
   rw[hb3];by_cases hp:s.getD (a+1) 0=61
   ·rw[aG (show aB (ieq ((s.getD (a+1) 0).toNat:Int) 61)=false by rw[hp];rfl),if_pos ((MO s (a+1)).2 ⟨h1,hp⟩),aj rfl,mg]
    by_cases hw:AY (s.take a)=0
    ·rw[if_pos hw]
     have hww:aB (ieq (AY (s.take a)) 0)=false:=by rw[aR hw];rfl
     rw[hww];by_cases hk:s.getD a 0=60
     ·rw[aj (show ieq ((s.getD a 0).toNat:Int) 60=true by rw[hk];rfl),aj rfl,aj rfl,aG rfl,aj rfl,aj rfl]
      by_cases he:FR (s.drop (a+2))=0
      ·rw[if_pos he,if_pos hk,aG (by rw[aR he];rfl)];rfl
      ·rw[if_neg he,aj (by rw[bf he];rfl)];rfl
     ·have hk':ieq ((s.getD a 0).toNat:Int) 60=false:=bf (fun e=>hk (by rw[←UInt8.toNat_inj];show(s.getD a 0).toNat=60;omega))
      rw[aG hk',aj rfl,aj rfl,aG rfl,aj rfl,aj rfl];by_cases he:FR (s.drop (a+2))=0
      ·rw[if_pos he,if_neg hk,aG (by rw[aR he];rfl)];rfl
      ·rw[if_neg he,aj (by rw[bf he];rfl)];rfl
    ·rw[if_neg hw]
     have hww:aB (ieq (AY (s.take a)) 0)=true:=by rw[bf hw];rfl
     rw[hww]
     cases hk:ieq ((s.getD a 0).toNat:Int) 60<;>rfl
   ·have hp':ieq ((s.getD (a+1) 0).toNat:Int) 61=false:=bf (fun e=>hp (by rw[←UInt8.toNat_inj];show(s.getD (a+1) 0).toNat=61;omega))
    rw[aj (show aB (ieq ((s.getD (a+1) 0).toNat:Int) 61)=true by rw[hp'];rfl),if_neg (fun e=>hp ((MO s (a+1)).1 e).2)];rfl
  ·rw[aj (bA (by rw[au];omega)),if_neg (fun e=>h1 ((MO s (a+1)).1 e).1)];rfl
 ·rw[if_neg h0,aG (zq (by omega)),ls_sel' s (by omega),nm_sel]
  cases s with
  |nil=>rfl
  |cons c t=>
   have e2:(c::t).getD 0 0=c:=rfl;have e3:sat (c::t) 0=(c.toNat:Int):=rfl;have hb:av (ak 0 0) (aK 0 (ah (c::t)))=true:=by rw[aC,aU,au];exact⟨rfl,by simp only[List.length_cons];omega⟩
   rw[hb,e3,e2,aj (show aB (seq (c::t) [])=true from rfl),aj rfl];by_cases h45:c.toNat=45
   ·have hd:Yt c=true:=by unfold Yt;rw[show(c==45)=true by rw[beq_iff_eq,←UInt8.toNat_inj];exact h45];rfl
    rw[aj (aR (by omega)),hd,if_pos ⟨by simp,rfl⟩];rfl
   ·have h45':(c==45)=false:=by
     rw[beq_eq_false_iff_ne];intro e;rw[e] at h45;exact h45 rfl
    rw[aG (bf (by omega))];by_cases h48:48≤c.toNat
    ·rw[aj rfl,aj (bA (by omega)),aj rfl]
     by_cases h57:c.toNat≤57
     ·have hd:Yt c=true:=by unfold Yt;rw[h45',decide_eq_true h48,decide_eq_true h57];rfl
      rw[aj (bA (by omega)),hd,if_pos ⟨by simp,rfl⟩];rfl
     ·have hd:Yt c=false:=by unfold Yt;rw[h45',decide_eq_true h48,decide_eq_false h57];rfl
      rw[aG (zq (by omega)),hd,if_neg (fun e=>by cases e.2)]
    ·have hd:Yt c=false:=by unfold Yt;rw[h45',decide_eq_false h48];rfl
     rw[aj rfl,aG (zq (by omega)),hd,if_neg (fun e=>by cases e.2)]
def tX (s:List UInt8):Int:=(dsP s).1
def iB (s:List UInt8):Int:=(dsP s).2.1
def tY (s:List UInt8):Int:=(dsP s).2.2.1
def uQ (s:List UInt8):Int:=(dsP s).2.2.2
end Nt.Ev.YtpbgegnlkdfjgaaGreatDoor
