/-
  Words: equations of functions, as the evaluator prints them. Words: weekdays, and whether two texts are the same, for the evaluator, both sides. Dayspec: equations of functions, as the evaluator prints them. Names of days: what the program's functions and the document's answer. DayspecLaw: equations of functions, as the evaluator prints them. Names of days: the statements DayspecTells and DayspecBack.
-/
import Derived.Test.YtplklcejbmfgdaaGreatDoorME
import Derived.Test.YtplklcejbmfgdaaGreatDoorMD
set_option linter.unusedVariables false
set_option linter.unusedSimpArgs false
set_option linter.unusedSectionVars false
namespace Nt.Ev.YtplklcejbmfgdaaGreatDoor
set_option maxRecDepth 100000
open Go Nt.Num Go.Proofs.YtplklcejbmfgdaaGreatDoor
noncomputable def Bd:V:=.rptr [.str,.str,.str,.str,.str,.str,.str] (.agg [.str [83,117,110,100,97,121],.str [77,111,110,100,97,121],.str [84,117,101,115,100,97,121],.str [87,101,100,110,101,115,100,97,121],.str [84,104,117,114,115,100,97,121],.str [70,114,105,100,97,121],.str [83,97,116,117,114,100,97,121]]) 0
noncomputable def wE:Env:=⟨Go.Proofs.Tryz.prog,fun g=>bif g==2 then some Bd else none⟩
noncomputable def Sf:aF:=fun a=>match a with|[.str s,.sl e [.str] o ws]=>some (ak (ai (aj s) 1000) (rX ws),.tup [.int .i64 (nY s ws),.int .i64 (qo s ws)])|_=>none
noncomputable def wS:List (Nat×aF):=(89,Sf)::[]
theorem KU (F:Nat) (s:List UInt8) (K:V→Option V):
 cr wE (bV wE wS F 2) F 202 [V.str s] K=
 let A:=[V.str [83,117,110,100,97,121],V.str [77,111,110,100,97,121],V.str [84,117,101,115,100,97,121],V.str [87,101,100,110,101,115,100,97,121],V.str [84,104,117,114,115,100,97,121],V.str [70,114,105,100,97,121],V.str [83,97,116,117,114,100,97,121]];sel (ak (ai (aj s) 1000) (rX A)) (K (V.tup [V.int .i64 (nY s A),V.int .i64 (qo s A)])) none:=by kernel_rfl
theorem Qt (F:Nat) (n:Int) (K:V→Option V):
 cr wE (bV wE wS F 2) F 79 [V.int .i64 n] K=
 let A:=[V.str [83,117,110,100,97,121],V.str [77,111,110,100,97,121],V.str [84,117,101,115,100,97,121],V.str [87,101,100,110,101,115,100,97,121],V.str [84,104,117,114,115,100,97,121],V.str [70,114,105,100,97,121],V.str [83,97,116,117,114,100,97,121]];let B:=aR (ax (aP A n) 0);sel (aT n 0) (K (V.str [])) (sel (ai (av A) n) (K (V.str [])) (sel (ak (ai 0 n) (aT n (av A))) (sel (ak (ai 0 3) (ai 3 (aj B))) (K (V.str (dF B 0 3))) none) none)):=by kernel_rfl
open Go.RowKit Nt
theorem LQ:sO wE:=⟨by kernel_rfl,by kernel_rfl⟩
theorem toW {f:Nat} {args:List V} {r:V} (h:af nE f args r):af wE f args r:=af.env (E:=nE) rfl (fun n v h=>by cases h) h
theorem BI {s:List UInt8} (h:ai (aj s) 1000=true):s.length≤1000:=by rw[aA,aB] at h;omega
theorem Qu (s:List UInt8) (e:Nat) (o:Option Nat) (ws:List V) (hc:ak (ai (aj s) 1000) (rX ws)=true):af wE 89 [.str s,.sl e [.str] o ws] (.tup [.int .i64 (nY s ws),.int .i64 (qo s ws)]):=by
 obtain⟨h1,h2⟩:=aY hc;exact toW (EQ s e o ws (BI h1) h2)
theorem wS_ok:bq wE wS:=by
 unfold wS;refine bq.cons (fun args r h=>?_) bq.nil;all_goals (revert h;intro h;first|unfold Sf at h)
 all_goals (split at h;rotate_left; · cases h)
 all_goals (simp only[Option.some.injEq,Prod.mk.injEq] at h;obtain⟨hc,rfl⟩:=h)
 ·exact Qu _ _ _ _ hc
theorem mt_lt (s:ByteArray) (ws:List ByteArray) (h:(Words.mt s ws).2=0):(Words.mt s ws).1<ws.length:=by
 unfold Words.mt at*;split at h
 ·cases h
 ·rename_i h1
  rw[if_neg h1];split at h
  ·rename_i i hi
   have:=List.mem_of_find?_eq_some hi;exact List.mem_range.1 this
  ·rename_i hi
   split at h
   ·cases h
   ·rename_i f r hf
    split at h
    ·rename_i ha
     rw[if_pos ha];exact Words.EM s ws ws.length f (by rw[hf];exact List.mem_cons_self)
    ·cases h
def wdV:List V:=[.str [83,117,110,100,97,121],.str [77,111,110,100,97,121],.str [84,117,101,115,100,97,121],.str [87,101,100,110,101,115,100,97,121],.str [84,104,117,114,115,100,97,121],.str [70,114,105,100,97,121],.str [83,97,116,117,114,100,97,121]]
def wdI (s:List UInt8):Int:=nY s wdV
def Lb (s:List UInt8):Int:=qo s wdV
theorem wdV_ok:rX wdV=true:=by decide
theorem Oa (s:List UInt8) (hs:s.length≤1000):af wE 202 [.str s] (.tup [.int .i64 (wdI s),.int .i64 (Lb s)]):=by
 refine ah LQ wS_ok 5 2 ?_
 (rw[KU];(conv=>zeta);rw[ay])
 ·rfl
 ·rw[aH];exact⟨bF (by rw[aB];omega),wdV_ok⟩
def Oq (n:Int):List UInt8:=if 0≤n∧n≤6 then(aR (wdV.getD n.toNat .any)).take 3 else[]
theorem UK (n:Int):af wE 79 [.int .i64 n] (.str (Oq n)):=by
 refine ah LQ wS_ok 5 2 ?_
 (rw[Qt];(conv=>zeta))
 by_cases h:0≤n∧n≤6
 ·obtain rfl|rfl|rfl|rfl|rfl|rfl|rfl:n=0∨n=1∨n=2∨n=3∨n=4∨n=5∨n=6:=by omega
  all_goals rfl
 ·have e:Oq n=[]:=by unfold Oq;rw[if_neg h]
  rw[e];by_cases h1:n<0
  ·rw[ay (bD h1)]
  ·rw[aU (bB (by omega)),ay (bF (by rw[aD];show(7:Int)≤n;omega))]
def smB (a b:List UInt8):Bool:=Words.same ⟨a.toArray⟩ ⟨b.toArray⟩
theorem Y6 (a b:List UInt8) (ha:a.length≤1000) (hb:b.length≤1000):af wE 108 [.str a,.str b] (.bool (smB a b)):=by
 refine bU fun G w vs hG hg hp=>?_
 obtain⟨x,y,rfl,hx,hy⟩:=kJ hp;unfold aN at hx hy;subst hx;subst hy;refine(Ar ⟨a.toArray⟩ ⟨b.toArray⟩ w (JD ha) (JD hb)).mono ?_;rintro e w' ⟨rfl,n,rfl⟩;exact⟨_,rfl,Nt.below_drewN (Below.refl _ _) _,Mx _⟩
def Ls (s p:List UInt8):Bool:=Lib.hasPrefix s p
def Wx (s p:List UInt8):List UInt8:=Lib.trimPrefix s p
def I8 (s c:List UInt8):Int:=Lib.indexAny s c
def J8 (l:List UInt8):Bool:=l.all fun c=>decide (c.toNat<128)
def Ot (k w d:Int):Bool:=if k=1 then decide (0≤w∧w≤6∧d=0) else if k=0 then decide (w=0∧1≤d∧d≤31) else decide ((k=2∨k=3)∧0≤w∧w≤6∧1≤d∧d≤31)
noncomputable def dCutS:aF:=fun a=>match a with|[.str s,.str p]=>some (ai (aj s) 1000,.tup [.str (Wx s p),.bool (Ls s p)])|_=>none
noncomputable def dAnyS:aF:=fun a=>match a with|[.str s,.str c]=>some (ak (ai (aj s) 1000) (ak (ak (ai 2 (aj c)) (ai (aj c) 1000)) (J8 c)),.int .i64 (I8 s c))|_=>none
noncomputable def XN:aF:=fun a=>match a with|[.str s,.int .u8 c]=>some (true,.int .i64 (sZ s c))|_=>none
noncomputable def Sg:aF:=fun a=>match a with|[.str s]=>some (ai (aj s) 1000,.tup [.int .i64 (gW s),.int .i64 (nrW s)])|_=>none
noncomputable def XO:aF:=fun a=>match a with|[.int .i64 n]=>some (ak (ai (-9223372036854775808) n) (ai n 9223372036854775807),.str (text n))|_=>none
noncomputable def dWdS:aF:=fun a=>match a with|[.str s]=>some (ai (aj s) 1000,.tup [.int .i64 (wdI s),.int .i64 (Lb s)])|_=>none
noncomputable def dWtS:aF:=fun a=>match a with|[.int .i64 n]=>some (true,.str (Oq n))|_=>none
noncomputable def dSmS:aF:=fun a=>match a with|[.str a,.str b]=>some (ak (ai (aj a) 1000) (ai (aj b) 1000),.bool (smB a b))|_=>none
noncomputable def dOnS:aF:=fun a=>match a with|[.agg [.int .i64 k,.int .i64 w,.int .i64 d]]=>some (true,.bool (Ot k w d))|_=>none
noncomputable def dS:List (Nat×aF):=(169,dCutS)::(116,dAnyS)::(43,XN)::(173,Sg)::(63,XO)::(202,dWdS)::(79,dWtS)::(108,dSmS)::[]
noncomputable def dS2:List (Nat×aF):=(71,dOnS)::dS
def dyP (s:List UInt8):Int×Int:=if nrW s=0 then(if gW s<1∨31<gW s then(0,1) else(gW s,0)) else(0,nrW s)
def dyD (s:List UInt8):Int:=(dyP s).1
def dyE (s:List UInt8):Int:=(dyP s).2
theorem Qv (F:Nat) (k w d:Int) (K:V→Option V):
 cr wE (bV wE dS F 3) F 71 [V.agg [V.int .i64 k,V.int .i64 w,V.int .i64 d]] K=
 let A:=K (V.bool false);let B:=sel (ai 1 d) (K (V.bool (ai d 31))) A;sel (ieq k 1) (sel (ai 0 w) (sel (ai w 6) (K (V.bool (ieq d 0))) A) A) (sel (ieq k 0) (sel (ai 0 k) (sel (ai k 3) (sel (ai 0 w) (sel (ai w 0) B A) A) A) A) (sel (ai 0 k) (sel (ai k 3) (sel (ai 0 w) (sel (ai w 6) B A) A) A) A)):=by kernel_rfl
theorem UL (F:Nat) (k w d:Int) (K:V→Option V):
 cr wE (bV wE dS2 F 3) F 58 [V.agg [V.int .i64 k,V.int .i64 w,V.int .i64 d]] K=
 let A:=V.int .i64 0;let B:=jX (Oq w) [62,61];let C:=jX (Oq w) [60,61];sel (aG (Ot k w d)) (K (V.tup [V.str [],V.int .i64 4])) (sel (ak (ai (-9223372036854775808) d) (ai d 9223372036854775807)) (sel (ieq k 1) (sel (kS [108,97,115,116] (Oq w)) (K (V.tup [V.str (jX [108,97,115,116] (Oq w)),A])) none) (sel (ieq k 2) (sel (kS (Oq w) [62,61]) (sel (kS B (text d)) (K (V.tup [V.str (jX B (text d)),A])) none) none) (sel (ieq k 3) (sel (kS (Oq w) [60,61]) (sel (kS C (text d)) (K (V.tup [V.str (jX C (text d)),A])) none) none) (K (V.tup [V.str (text d),A]))))) none):=by kernel_rfl
theorem UM (F:Nat) (s:List UInt8) (K:V→Option V):
 cr wE (bV wE dS2 F 8) F 159 [V.str s] K=
 let D:=I8 s [60,62];let G:=V.int .i64 0;let J:=dF s 4 (aj s);let N:=ak (ai 0 4) (ai 4 (aj s));let S:=ai (aj s) 1000;let A:=V.agg [G,G,G];let L:=dF s 0 D;let O:=fB .i64 D 1;let E:=K (V.tup [A,V.int .i64 1]);let H:=dF s O (aj s);let I:=K (V.tup [A,V.int .i64 4]);let Q:=V.int .i64 (wdI L);let B:=Wx H [61];let C:=sel (ai 4 (aj s)) (sel N (sel (ak (ai (aj (dF s 0 4)) 1000) (ai (aj [108,97,115,116]) 1000)) (sel (smB (dF s 0 4) [108,97,115,116]) (sel N (sel (ai (aj J) 1000) (sel (aG (ieq (Lb J) 0)) (K (V.tup [A,V.int .i64 (Lb J)])) (K (V.tup [V.agg [V.int .i64 1,V.int .i64 (wdI J),G],G]))) none) none) I) none) none) I;let M:=K (V.tup [A,V.int .i64 (nrW B)]);let P:=aG (ieq (nrW B) 0);let R:=V.int .i64 (gW B);let T:=ai (aj B) 1000;sel (ak S (ak (ak (ai 2 (aj [60,62])) (ai (aj [60,62]) 1000)) (J8 [60,62]))) (sel (ai 0 D) (sel (ak (ai 0 O) (ai O (aj s))) (sel (ai (aj H) 1000) (sel (aG (Ls H [61])) I (sel (ak (ai 0 D) (ai D (aj s))) (sel (ai (aj L) 1000) (sel (aG (ieq (Lb L) 0)) (K (V.tup [A,V.int .i64 (Lb L)])) (sel (ak (ai 0 D) (aT D (aj s))) (sel (ieq (sat s D) 60) (sel T (sel P M (sel (aT (gW B) 1) E (sel (aT 31 (gW B)) E (K (V.tup [V.agg [V.int .i64 3,Q,R],G]))))) none) (sel T (sel P M (sel (aT (gW B) 1) E (sel (aT 31 (gW B)) E (K (V.tup [V.agg [V.int .i64 2,Q,R],G]))))) none)) none)) none) none)) none) none) (sel (aG (seq s [])) (sel (ak (ai 0 0) (aT 0 (aj s))) (sel (ai 0 (sZ [45,48,49,50,51,52,53,54,55,56,57] (sat s 0))) (sel S (sel (aG (ieq (nrW s) 0)) (K (V.tup [A,V.int .i64 (nrW s)])) (sel (aT (gW s) 1) E (sel (aT 31 (gW s)) E (K (V.tup [V.agg [G,G,V.int .i64 (gW s)],G]))))) none) C) none) C)) none:=by kernel_rfl
theorem Y7 (s p:List UInt8) (hc:ai (aj s) 1000=true):af wE 169 [.str s,.str p] (.tup [.str (Wx s p),.bool (Ls s p)]):=by
 refine bU fun G w vs hG hg hp=>?_
 obtain⟨x,y,rfl,hx,hy⟩:=kJ hp;unfold aN at hx hy;subst hx;subst hy;refine(Go.Proofs.Tryz.strings_CutPrefix ⟨s.toArray⟩ ⟨p.toArray⟩ w).mono ?_;rintro e w' ⟨rfl,rfl⟩;exact⟨_,rfl,Below.refl _ _,J6 (EO _) (IC _)⟩
theorem Y8 (s c:List UInt8) (hc:ak (ai (aj s) 1000) (ak (ak (ai 2 (aj c)) (ai (aj c) 1000)) (J8 c))=true):af wE 116 [.str s,.str c] (.int .i64 (I8 s c)):=by
 obtain⟨h1,h2⟩:=aY hc;obtain⟨h2,h3⟩:=aY h2;obtain⟨h2,h4⟩:=aY h2;have h1:=BI h1;have h4:=BI h4;rw[aA,aB] at h2;refine bU fun G w vs hG hg hp=>?_
 obtain⟨x,y,rfl,hx,hy⟩:=kJ hp;unfold aN at hx hy;subst hx;subst hy;refine(Nt.AnyS.UN Go.Proofs.Tryz.Se (by kernel_rfl) ⟨s.toArray⟩ ⟨c.toArray⟩ w (by rw[uZ];omega) (by rw[uZ];omega) (by rw[uZ];omega) (fun b hb=>?_)).mono ?_
 ·have h3:(c.all fun c=>decide (c.toNat<128))=true:=h3
  exact of_decide_eq_true (List.all_eq_true.1 h3 b hb)
 ·rintro e w' ⟨rfl,hb⟩
  exact⟨_,rfl,hb,uY _ _⟩
theorem UO (s:List UInt8) (c:Int) (hc:true=true):af wE 43 [.str s,.int .u8 c] (.int .i64 (sZ s c)):=toW (Xe s c)
theorem Qw (s:List UInt8) (hc:ai (aj s) 1000=true):af wE 173 [.str s] (.tup [.int .i64 (gW s),.int .i64 (nrW s)]):=toW (J7 s (BI hc))
theorem fits_w {m:Int} (h:ak (ai (-9223372036854775808) m) (ai m 9223372036854775807)=true):Fits m:=by rw[aH,aA,aA] at h;exact h
theorem UQ (m:Int) (hc:ak (ai (-9223372036854775808) m) (ai m 9223372036854775807)=true):af wE 63 [.int .i64 m] (.str (text m)):=toW (y9 m (fits_w hc))
theorem dWdS_ok (s:List UInt8) (hc:ai (aj s) 1000=true):af wE 202 [.str s] (.tup [.int .i64 (wdI s),.int .i64 (Lb s)]):=Oa s (BI hc)
theorem dWtS_ok (n:Int) (hc:true=true):af wE 79 [.int .i64 n] (.str (Oq n)):=UK n
theorem dSmS_ok (a b:List UInt8) (hc:ak (ai (aj a) 1000) (ai (aj b) 1000)=true):af wE 108 [.str a,.str b] (.bool (smB a b)):=Y6 a b (BI (aY hc).1) (BI (aY hc).2)
theorem dS_ok:bq wE dS:=by
 unfold dS;refine bq.cons (fun args r h=>?_) (bq.cons (fun args r h=>?_) (bq.cons (fun args r h=>?_) (bq.cons (fun args r h=>?_) (bq.cons (fun args r h=>?_) (bq.cons (fun args r h=>?_) (bq.cons (fun args r h=>?_) (bq.cons (fun args r h=>?_) bq.nil)))))));all_goals (revert h;intro h;first|unfold dCutS at h|unfold dAnyS at h|unfold XN at h|unfold Sg at h|unfold XO at h|unfold dWdS at h|unfold dWtS at h|unfold dSmS at h)
 all_goals (split at h;rotate_left; · cases h)
 all_goals (simp only[Option.some.injEq,Prod.mk.injEq] at h;obtain⟨hc,rfl⟩:=h)
 ·exact Y7 _ _ hc
 ·exact Y8 _ _ hc
 ·exact UO _ _ rfl
 ·exact Qw _ hc
 ·exact UQ _ hc
 ·exact dWdS_ok _ hc
 ·exact dWtS_ok _ rfl
 ·exact dSmS_ok _ _ hc
theorem ID (k w d:Int):af wE 71 [.agg [.int .i64 k,.int .i64 w,.int .i64 d]] (.bool (Ot k w d)):=by
 refine ah LQ dS_ok 5 3 ?_
 (rw[Qv];(conv=>zeta))
 unfold Ot;simp only[bJ,aK,aA];repeat' split
 all_goals first
  |(rw[decide_eq_false (by omega)];done)
  |(exfalso;omega)
  |(congr 2;unfold ai;rw[Bool.eq_iff_iff];simp;omega)
  |(congr 2;unfold ieq;rw[Bool.eq_iff_iff];simp;omega)
theorem dOnS_ok (k w d:Int) (hc:true=true):af wE 71 [.agg [.int .i64 k,.int .i64 w,.int .i64 d]] (.bool (Ot k w d)):=ID k w d
theorem XP:bq wE dS2:=by
 unfold dS2;refine bq.cons (fun args r h=>?_) dS_ok;all_goals (revert h;intro h;first|unfold dOnS at h)
 all_goals (split at h;rotate_left; · cases h)
 all_goals (simp only[Option.some.injEq,Prod.mk.injEq] at h;obtain⟨hc,rfl⟩:=h)
 ·exact dOnS_ok _ _ _ rfl
def dsT (k w d:Int):List UInt8:=if k=1 then[108,97,115,116]++Oq w else if k=2 then Oq w++[62,61]++text d else if k=3 then Oq w++[60,61]++text d else text d
def O7 (k w d:Int):List UInt8:=if Ot k w d=true then dsT k w d else[]
def dsTe (k w d:Int):Int:=if Ot k w d=true then 0 else 4
theorem on_day {k w d:Int} (h:Ot k w d=true):0≤d∧d≤31∧0≤w∧w≤6∧0≤k∧k≤3:=by
 unfold Ot at h;repeat' split at h
 all_goals (rw[decide_eq_true_eq] at h;omega)
theorem wt_len (n:Int):(Oq n).length≤3:=by
 unfold Oq;split
 ·rw[List.length_take];omega
 ·simp
theorem Qx (d:Int) (h:0≤d∧d≤31):(text d).length≤40:=by
 have:=(Mt d (by unfold Fits;omega)).1;omega
theorem Y9 (k w d:Int):af wE 58 [.agg [.int .i64 k,.int .i64 w,.int .i64 d]] (.tup [.str (O7 k w d),.int .i64 (dsTe k w d)]):=by
 refine ah LQ XP 5 3 ?_
 (rw[UL];(conv=>zeta))
 unfold O7 dsTe
 cases h:Ot k w d with
 |false=>rfl
 |true=>
  obtain⟨d0,d1,w0,w1,k0,k1⟩:=on_day h;have hw:=wt_len w;have ht:=Qx d ⟨d0,d1⟩;rw[aU (by rfl),ay (by rw[aH,aA,aA];omega),if_pos rfl,if_pos rfl];unfold dsT;obtain rfl|rfl|rfl|rfl:k=0∨k=1∨k=2∨k=3:=by omega
  ·rfl
  ·rw[ay (bn rfl),ay (by rw[iG];simp only[List.length_cons,List.length_nil];omega)];rfl
  ·rw[aU (cO (by decide)),ay (bn rfl),ay (by rw[iG];simp only[List.length_cons,List.length_nil];omega),ay (by rw[iG];unfold jX;simp only[List.length_append,List.length_cons,List.length_nil];omega)];rfl
  ·rw[aU (cO (by decide)),aU (cO (by decide)),ay (bn rfl),ay (by rw[iG];simp only[List.length_cons,List.length_nil];omega),ay (by rw[iG];unfold jX;simp only[List.length_append,List.length_cons,List.length_nil];omega)];rfl
theorem IE (s:List UInt8) (k:Nat):dF s (k:Int) (aj s)=s.drop k:=by
 rw[aB,EL];exact List.take_of_length_le (by rw[List.length_drop];omega)
theorem Si (s:List UInt8) (k:Nat):dF s 0 (k:Int)=s.take k:=by
 have:dF s ((0:Nat):Int) (k:Int)=(s.drop 0).take (k-0):=EL s 0 k;rw[List.drop_zero,Nat.sub_zero] at this;exact this
theorem Za (b:UInt8) (l:List UInt8):I8 (b::l) [60,62]=if b=60∨b=62 then 0 else if I8 l [60,62]= -1 then -1 else I8 l [60,62]+1:=by
 unfold I8;rw[Lib.indexAny];have e:(List.contains [60,62] b=true)=(b=60∨b=62):=by simp
 simp only[e,beq_iff_eq]
theorem ixA_ge (l:List UInt8): -1≤I8 l [60,62]:=Lib.indexAny_ge _ _
theorem XQ: ∀(l:List UInt8),0≤I8 l [60,62]→I8 l [60,62]<l.length∧(l.getD (I8 l [60,62]).toNat 0=60∨l.getD (I8 l [60,62]).toNat 0=62)
 |[],h=>by exact absurd h (by decide)
 |b::l,h=>by
  have ih:=XQ l;have hg:=ixA_ge l;rw[Za] at*;split
  ·rename_i h1
   exact⟨by rw[List.length_cons];omega,h1⟩
  ·rename_i h1
   rw[if_neg h1] at h;split
   ·rename_i h2
    rw[if_pos h2] at h;exact absurd h (by decide)
   ·obtain⟨k1,k2⟩:=ih (by omega)
    refine⟨by rw[List.length_cons];omega,?_⟩;rw[show(I8 l [60,62]+1).toNat=(I8 l [60,62]).toNat+1 by omega,List.getD_cons_succ];exact k2
def dsSg (s:List UInt8) (a:Nat):Int×Int×Int×Int:=
 if Ls (s.drop (a+1)) [61]=true then(if Lb (s.take a)=0 then(if dyE (s.drop (a+2))=0 then(if s.getD a 0=60 then 3 else 2,wdI (s.take a),dyD (s.drop (a+2)),0) else(0,0,0,dyE (s.drop (a+2)))) else(0,0,0,Lb (s.take a))) else(0,0,0,4)
def dsNm (s:List UInt8):Int×Int×Int×Int:=if dyE s=0 then(0,0,dyD s,0) else(0,0,0,dyE s)
def dsLs (s:List UInt8):Int×Int×Int×Int:=if 4≤s.length∧smB (s.take 4) [108,97,115,116]=true then(if Lb (s.drop 4)=0 then(1,wdI (s.drop 4),0,0) else(0,0,0,Lb (s.drop 4))) else(0,0,0,4)
def dmB (c:UInt8):Bool:=c==45||(decide (48≤c.toNat)&&decide (c.toNat≤57))
def dsP (s:List UInt8):Int×Int×Int×Int:=
 if 0≤I8 s [60,62] then dsSg s (I8 s [60,62]).toNat else if s≠[]∧dmB (s.getD 0 0)=true then dsNm s else dsLs s
def BJ (p:Int×Int×Int×Int):V:=.tup [.agg [.int .i64 p.1,.int .i64 p.2.1,.int .i64 p.2.2.1],.int .i64 p.2.2.2]
theorem Zb (s:List UInt8) (k:Nat) (h:Ls (s.drop k) [61]=true):Wx (s.drop k) [61]=s.drop (k+1):=by
 unfold Wx Lib.trimPrefix;rw[if_pos (show Lib.hasPrefix (s.drop k) [61]=true from h),List.drop_drop];rfl
theorem idx_dm (c:UInt8):ai 0 (sZ [45,48,49,50,51,52,53,54,55,56,57] ((c.toNat:Nat):Int))=dmB c:=by
 have h: ∀n:Fin 256,ai 0 (sZ [45,48,49,50,51,52,53,54,55,56,57] (((n:Nat)):Int))=dmB (UInt8.ofNat n):=by decide+kernel
 have:=h ⟨c.toNat,c.toNat_lt⟩;simpa using this
theorem J9 (x:List UInt8) (e o:Int→Option V):sel (aG (ieq (nrW x) 0)) (e (nrW x)) (sel (aT (gW x) 1) (e 1) (sel (aT 31 (gW x)) (e 1) (o (gW x))))=if dyE x=0 then o (dyD x) else e (dyE x):=by
 unfold dyE dyD;by_cases h:nrW x=0
 ·rw[aU (by rw[bn h];rfl)]
  by_cases h1:gW x<1
  ·have e1:dyP x=(0,1):=by unfold dyP;rw[if_pos h,if_pos (show gW x<1∨31<gW x from .inl h1)]
   rw[ay (bD h1),e1,if_neg (show¬(1:Int)=0 by decide)]
  ·rw[aU (bB (by omega))]
   by_cases h2:31<gW x
   ·have e1:dyP x=(0,1):=by unfold dyP;rw[if_pos h,if_pos (show gW x<1∨31<gW x from .inr h2)]
    rw[ay (bD h2),e1,if_neg (show¬(1:Int)=0 by decide)]
   ·have e1:dyP x=(gW x,0):=by unfold dyP;rw[if_pos h,if_neg (show¬(gW x<1∨31<gW x) by omega)]
    rw[aU (bB (by omega)),e1,if_pos (show(0:Int)=0 from rfl)]
 ·have e1:dyP x=(0,nrW x):=by unfold dyP;rw[if_neg h]
  rw[ay (by rw[cO h];rfl),e1,if_neg h]
theorem ls_sel (s:List UInt8) (hs:s.length≤1000):(sel (ai 4 (aj s))
     (sel (ak (ai 0 4) (ai 4 (aj s)))
      (sel (ak (ai (aj (dF s 0 4)) 1000) (ai (aj [108,97,115,116]) 1000))
       (sel (smB (dF s 0 4) [108,97,115,116])
        (sel (ak (ai 0 4) (ai 4 (aj s)))
         (sel (ai (aj (dF s 4 (aj s))) 1000)
          (sel (aG (ieq (Lb (dF s 4 (aj s))) 0))
           (some (V.tup [V.agg [V.int .i64 0,V.int .i64 0,V.int .i64 0],V.int .i64 (Lb (dF s 4 (aj s)))]))
           (some (V.tup [V.agg [V.int .i64 1,V.int .i64 (wdI (dF s 4 (aj s))),V.int .i64 0],V.int .i64 0])))
          none)
         none)
        (some (V.tup [V.agg [V.int .i64 0,V.int .i64 0,V.int .i64 0],V.int .i64 4])))
       none)
      none)
     (some (V.tup [V.agg [V.int .i64 0,V.int .i64 0,V.int .i64 0],V.int .i64 4])))=some (BJ (dsLs s)):=by
 have e0:dF s 0 4=s.take 4:=Si s 4;have e1:dF s 4 (aj s)=s.drop 4:=IE s 4;rw[e0,e1];unfold dsLs;by_cases h4:4≤s.length
 ·have hb:ak (ai 0 4) (ai 4 (aj s))=true:=by rw[aH,aA,aA,aB];omega
  have l1:(s.take 4).length≤1000:=by rw[List.length_take];omega
  have l2:(s.drop 4).length≤1000:=by rw[List.length_drop];omega
  rw[ay (bF (by rw[aB];omega)),ay hb,ay (by rw[aH,aA,aB];exact⟨by omega,rfl⟩)];by_cases h:smB (s.take 4) [108,97,115,116]=true
  ·rw[ay h,ay hb,ay (bF (by rw[aB];omega)),if_pos (show 4≤s.length∧smB (s.take 4) [108,97,115,116]=true from⟨h4,h⟩)]
   by_cases hw:Lb (s.drop 4)=0
   ·rw[aU (by rw[bn hw];rfl),if_pos hw];rfl
   ·rw[ay (by rw[cO hw];rfl),if_neg hw];rfl
  ·rw[aU (by simpa using h),if_neg (fun e=>h e.2)];rfl
 ·rw[aU (vY (by rw[aB];omega)),if_neg (fun e=>h4 e.1)];rfl
theorem Zc (s:List UInt8) (hs:s.length≤900):af wE 159 [.str s] (BJ (dsP s)):=by
 refine ah LQ XP 5 8 ?_;have l0:ai (aj s) 1000=true:=bF (by rw[aB];omega)
 (rw[UM];(conv=>zeta);rw[ay (by rw[l0];rfl)])
 unfold dsP;by_cases h0:0≤I8 s [60,62]
 ·obtain⟨k1,k2⟩:=XQ s h0
  obtain⟨a,ha⟩: ∃a:Nat,I8 s [60,62]=(a:Int):=⟨(I8 s [60,62]).toNat,by omega⟩
  rw[ha] at h0 k1 k2⊢;rw[if_pos h0,Int.toNat_natCast];have e1:fB .i64 (a:Int) 1=((a+1:Nat):Int):=by rw[iO (by omega)];omega
  rw[e1,IE,Si,ay (bF h0),ay (show ak (ai 0 ((a+1:Nat):Int)) (ai ((a+1:Nat):Int) (aj s))=true by rw[aH,aA,aA,aB];omega),ay (show ai (aj (s.drop (a+1))) 1000=true from bF (by rw[aB,List.length_drop];omega))];unfold dsSg;by_cases hp:Ls (s.drop (a+1)) [61]=true
  ·rw[if_pos hp,aU (show aG (Ls (s.drop (a+1)) [61])=false by rw[hp];rfl),Zb s (a+1) hp,ay (show ak (ai 0 (a:Int)) (ai (a:Int) (aj s))=true by rw[aH,aA,aA,aB];omega),ay (show ai (aj (s.take a)) 1000=true from bF (by rw[aB,List.length_take];omega))]
   by_cases hw:Lb (s.take a)=0
   ·rw[aU (show aG (ieq (Lb (s.take a)) 0)=false by rw[bn hw];rfl),if_pos hw,ay (show ak (ai 0 (a:Int)) (aT (a:Int) (aj s))=true by rw[aH,aA,bf,aB];omega)]
    have l2:ai (aj (s.drop (a+1+1))) 1000=true:=bF (by rw[aB,List.length_drop];omega);rw[l2,sat_nat];by_cases hk:s.getD a 0=60
    ·rw[ay (show ieq ((s.getD a 0).toNat:Int) 60=true by rw[hk];rfl),ay rfl]
     refine(J9 (s.drop (a+2)) (fun n=>some (BJ (0,0,0,n))) (fun n=>some (BJ (3,wdI (s.take a),n,0)))).trans ?_;by_cases he:dyE (s.drop (a+2))=0
     ·rw[if_pos he,if_pos he,if_pos hk]
     ·rw[if_neg he,if_neg he]
    ·have hk':ieq ((s.getD a 0).toNat:Int) 60=false:=cO (fun e=>hk (by rw[←UInt8.toNat_inj];show(s.getD a 0).toNat=60;omega))
     rw[aU hk',ay rfl];refine(J9 (s.drop (a+2)) (fun n=>some (BJ (0,0,0,n))) (fun n=>some (BJ (2,wdI (s.take a),n,0)))).trans ?_;by_cases he:dyE (s.drop (a+2))=0
     ·rw[if_pos he,if_pos he,if_neg hk]
     ·rw[if_neg he,if_neg he]
   ·rw[ay (show aG (ieq (Lb (s.take a)) 0)=true by rw[cO hw];rfl),if_neg hw];rfl
  ·rw[if_neg hp,ay (show aG (Ls (s.drop (a+1)) [61])=true by rw[bP];exact hp)];rfl
 ·rw[if_neg h0,aU (vY (by omega)),ls_sel s (by omega)]
  cases s with
  |nil=>rfl
  |cons c t=>
   have e2:(c::t).getD 0 0=c:=rfl;have e3:sat (c::t) 0=(c.toNat:Int):=rfl;rw[ay (show aG (seq (c::t) [])=true from rfl),ay (show ak (ai 0 0) (aT 0 (aj (c::t)))=true by rw[aH,bf,aB];exact⟨rfl,by simp only[List.length_cons];omega⟩),e3,e2,idx_dm,l0]
   cases hd:dmB c with
   |true=>
    rw[ay rfl,ay rfl,if_pos ⟨by simp,rfl⟩];refine(J9 (c::t) (fun n=>some (BJ (0,0,0,n))) (fun n=>some (BJ (0,0,n,0)))).trans ?_;unfold dsNm;by_cases he:dyE (c::t)=0
    ·rw[if_pos he,if_pos he]
    ·rw[if_neg he,if_neg he]
   |false=>
    rw[aU rfl,if_neg (fun e=>by cases e.2)]
def sK (s:List UInt8):Int:=(dsP s).1
def jo (s:List UInt8):Int:=(dsP s).2.1
def sM (s:List UInt8):Int:=(dsP s).2.2.1
def sQ (s:List UInt8):Int:=(dsP s).2.2.2
end Nt.Ev.YtplklcejbmfgdaaGreatDoor
