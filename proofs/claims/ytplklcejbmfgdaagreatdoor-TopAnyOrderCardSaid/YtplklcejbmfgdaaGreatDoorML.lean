/-
  Words: equations of functions, as the evaluator prints them. Words: weekdays, and whether two texts are the same, for the evaluator, both sides. Dayspec: equations of functions, as the evaluator prints them. Names of days: what the program's functions and the document's answer. DayspecLaw: equations of functions, as the evaluator prints them. Names of days: the statements DayspecTells and DayspecBack.
-/
import Derived.Test.YtplklcejbmfgdaaGreatDoorME
import Derived.Test.YtplklcejbmfgdaaGreatDoorMD
set_option linter.unusedVariables false
set_option linter.unusedSimpArgs false
set_option linter.unusedSectionVars false
namespace Nt.Ev.YtplklcejbmfgdaaGreatDoor
set_option maxRecDepth 100000
open Go Nt.Num Go.Proofs.YtplklcejbmfgdaaGreatDoor
noncomputable def CY:V:=.rptr [.str,.str,.str,.str,.str,.str,.str] (.agg [.str [83,117,110,100,97,121],.str [77,111,110,100,97,121],.str [84,117,101,115,100,97,121],.str [87,101,100,110,101,115,100,97,121],.str [84,104,117,114,115,100,97,121],.str [70,114,105,100,97,121],.str [83,97,116,117,114,100,97,121]]) 0
noncomputable def wE:Env:=⟨Go.Proofs.Tryz.prog,fun g=>bif g==2 then some CY else none⟩
noncomputable def VU:aG:=fun a=>match a with|[.str s,.sl e [.str] o ws]=>some (ai (ak (au s) 1000) (ug ws),.tup [.int .i64 (mh s ws),.int .i64 (oM s ws)])|_=>none
noncomputable def wS:List (Nat×aG):=(89,VU)::[]
theorem N9 (F:Nat) (s:List UInt8) (K:V→Option V):
 bW wE (bT wE wS F 2) F 202 [V.str s] K=
 let A:=[V.str [83,117,110,100,97,121],V.str [77,111,110,100,97,121],V.str [84,117,101,115,100,97,121],V.str [87,101,100,110,101,115,100,97,121],V.str [84,104,117,114,115,100,97,121],V.str [70,114,105,100,97,121],V.str [83,97,116,117,114,100,97,121]];sel (ai (ak (au s) 1000) (ug A)) (K (V.tup [V.int .i64 (mh s A),V.int .i64 (oM s A)])) none:=by kernel_rfl
theorem Uj (F:Nat) (n:Int) (K:V→Option V):
 bW wE (bT wE wS F 2) F 79 [V.int .i64 n] K=
 let A:=[V.str [83,117,110,100,97,121],V.str [77,111,110,100,97,121],V.str [84,117,101,115,100,97,121],V.str [87,101,100,110,101,115,100,97,121],V.str [84,104,117,114,115,100,97,121],V.str [70,114,105,100,97,121],V.str [83,97,116,117,114,100,97,121]];let B:=aH (ah (aX A n) 0);sel (aU n 0) (K (V.str [])) (sel (ak (av A) n) (K (V.str [])) (sel (ai (ak 0 n) (aU n (av A))) (sel (ai (ak 0 3) (ak 3 (au B))) (K (V.str (dG B 0 3))) none) none)):=by kernel_rfl
open Go.RowKit Nt
theorem O8:tY wE:=⟨by kernel_rfl,by kernel_rfl⟩
theorem toW {f:Nat} {args:List V} {r:V} (h:af nE f args r):af wE f args r:=af.env (E:=nE) rfl (fun n v h=>by cases h) h
theorem Dq {s:List UInt8} (h:ak (au s) 1000=true):s.length≤1000:=by rw[ay,aC] at h;omega
theorem Uk (s:List UInt8) (e:Nat) (o:Option Nat) (ws:List V) (hc:ai (ak (au s) 1000) (ug ws)=true):af wE 89 [.str s,.sl e [.str] o ws] (.tup [.int .i64 (mh s ws),.int .i64 (oM s ws)]):=by
 obtain⟨h1,h2⟩:=aR hc;exact toW (G9 s e o ws (Dq h1) h2)
theorem wS_ok:bn wE wS:=by
 unfold wS;refine bn.cons (fun args r h=>?_) bn.nil;all_goals (revert h;intro h;first|unfold VU at h)
 all_goals (split at h;rotate_left; · cases h)
 all_goals (simp only[Option.some.injEq,Prod.mk.injEq] at h;obtain⟨hc,rfl⟩:=h)
 ·exact Uk _ _ _ _ hc
theorem mt_lt (s:ByteArray) (ws:List ByteArray) (h:(Words.mt s ws).2=0):(Words.mt s ws).1<ws.length:=by
 unfold Words.mt at*;split at h
 ·cases h
 ·rename_i h1
  rw[if_neg h1];split at h
  ·rename_i i hi
   have:=List.mem_of_find?_eq_some hi;exact List.mem_range.1 this
  ·rename_i hi
   split at h
   ·cases h
   ·rename_i f r hf
    split at h
    ·rename_i ha
     rw[if_pos ha];exact Words.G5 s ws ws.length f (by rw[hf];exact List.mem_cons_self)
    ·cases h
def wdV:List V:=[.str [83,117,110,100,97,121],.str [77,111,110,100,97,121],.str [84,117,101,115,100,97,121],.str [87,101,100,110,101,115,100,97,121],.str [84,104,117,114,115,100,97,121],.str [70,114,105,100,97,121],.str [83,97,116,117,114,100,97,121]]
def wdI (s:List UInt8):Int:=mh s wdV
def Ou (s:List UInt8):Int:=oM s wdV
theorem wdV_ok:ug wdV=true:=by decide
theorem Rp (s:List UInt8) (hs:s.length≤1000):af wE 202 [.str s] (.tup [.int .i64 (wdI s),.int .i64 (Ou s)]):=by
 refine aj O8 wS_ok 5 2 ?_
 (rw[N9];(conv=>zeta);rw[aB])
 ·rfl
 ·rw[aJ];exact⟨bB (by rw[aC];omega),wdV_ok⟩
def Oh (n:Int):List UInt8:=if 0≤n∧n≤6 then(aH (wdV.getD n.toNat .any)).take 3 else[]
theorem Yt (n:Int):af wE 79 [.int .i64 n] (.str (Oh n)):=by
 refine aj O8 wS_ok 5 2 ?_
 (rw[Uj];(conv=>zeta))
 by_cases h:0≤n∧n≤6
 ·obtain rfl|rfl|rfl|rfl|rfl|rfl|rfl:n=0∨n=1∨n=2∨n=3∨n=4∨n=5∨n=6:=by omega
  all_goals rfl
 ·have e:Oh n=[]:=by unfold Oh;rw[if_neg h]
  rw[e];by_cases h1:n<0
  ·rw[aB (bE h1)]
  ·rw[aW (bD (by omega)),aB (bB (by rw[aA];show(7:Int)≤n;omega))]
def smB (a b:List UInt8):Bool:=Words.same ⟨a.toArray⟩ ⟨b.toArray⟩
theorem wSame_ev (a b:List UInt8) (ha:a.length≤1000) (hb:b.length≤1000):af wE 108 [.str a,.str b] (.bool (smB a b)):=by
 refine bP fun G w vs hG hg hp=>?_
 obtain⟨x,y,rfl,hx,hy⟩:=jD hp;unfold aO at hx hy;subst hx;subst hy;refine(Cn ⟨a.toArray⟩ ⟨b.toArray⟩ w (Mr ha) (Mr hb)).mono ?_;rintro e w' ⟨rfl,n,rfl⟩;exact⟨_,rfl,Nt.below_drewN (Below.refl _ _) _,PS _⟩
def OM (s p:List UInt8):Bool:=Lib.hasPrefix s p
def cpTd (s p:List UInt8):List UInt8:=Lib.trimPrefix s p
def LF (s c:List UInt8):Int:=Lib.indexAny s c
def M9 (l:List UInt8):Bool:=l.all fun c=>decide (c.toNat<128)
def LG (k w d:Int):Bool:=if k=1 then decide (0≤w∧w≤6∧d=0) else if k=0 then decide (w=0∧1≤d∧d≤31) else decide ((k=2∨k=3)∧0≤w∧w≤6∧1≤d∧d≤31)
noncomputable def dCutS:aG:=fun a=>match a with|[.str s,.str p]=>some (ak (au s) 1000,.tup [.str (cpTd s p),.bool (OM s p)])|_=>none
noncomputable def dAnyS:aG:=fun a=>match a with|[.str s,.str c]=>some (ai (ak (au s) 1000) (ai (ai (ak 2 (au c)) (ak (au c) 1000)) (M9 c)),.int .i64 (LF s c))|_=>none
noncomputable def dByteS:aG:=fun a=>match a with|[.str s,.int .u8 c]=>some (true,.int .i64 (uF s c))|_=>none
noncomputable def VW:aG:=fun a=>match a with|[.str s]=>some (ak (au s) 1000,.tup [.int .i64 (ig s),.int .i64 (nrW s)])|_=>none
noncomputable def dTextS:aG:=fun a=>match a with|[.int .i64 n]=>some (ai (ak (-9223372036854775808) n) (ak n 9223372036854775807),.str (text n))|_=>none
noncomputable def dWdS:aG:=fun a=>match a with|[.str s]=>some (ak (au s) 1000,.tup [.int .i64 (wdI s),.int .i64 (Ou s)])|_=>none
noncomputable def dWtS:aG:=fun a=>match a with|[.int .i64 n]=>some (true,.str (Oh n))|_=>none
noncomputable def dSmS:aG:=fun a=>match a with|[.str a,.str b]=>some (ai (ak (au a) 1000) (ak (au b) 1000),.bool (smB a b))|_=>none
noncomputable def dOnS:aG:=fun a=>match a with|[.agg [.int .i64 k,.int .i64 w,.int .i64 d]]=>some (true,.bool (LG k w d))|_=>none
noncomputable def dS:List (Nat×aG):=(169,dCutS)::(116,dAnyS)::(43,dByteS)::(173,VW)::(63,dTextS)::(202,dWdS)::(79,dWtS)::(108,dSmS)::[]
noncomputable def dS2:List (Nat×aG):=(71,dOnS)::dS
def dyP (s:List UInt8):Int×Int:=if nrW s=0 then(if ig s<1∨31<ig s then(0,1) else(ig s,0)) else(0,nrW s)
def dyD (s:List UInt8):Int:=(dyP s).1
def dyE (s:List UInt8):Int:=(dyP s).2
theorem Ul (F:Nat) (k w d:Int) (K:V→Option V):
 bW wE (bT wE dS F 3) F 71 [V.agg [V.int .i64 k,V.int .i64 w,V.int .i64 d]] K=
 let A:=K (V.bool false);let B:=sel (ak 1 d) (K (V.bool (ak d 31))) A;sel (ieq k 1) (sel (ak 0 w) (sel (ak w 6) (K (V.bool (ieq d 0))) A) A) (sel (ieq k 0) (sel (ak 0 k) (sel (ak k 3) (sel (ak 0 w) (sel (ak w 0) B A) A) A) A) (sel (ak 0 k) (sel (ak k 3) (sel (ak 0 w) (sel (ak w 6) B A) A) A) A)):=by kernel_rfl
theorem Yu (F:Nat) (k w d:Int) (K:V→Option V):
 bW wE (bT wE dS2 F 3) F 58 [V.agg [V.int .i64 k,V.int .i64 w,V.int .i64 d]] K=
 let A:=V.int .i64 0;let B:=gy (Oh w) [62,61];let C:=gy (Oh w) [60,61];sel (aK (LG k w d)) (K (V.tup [V.str [],V.int .i64 4])) (sel (ai (ak (-9223372036854775808) d) (ak d 9223372036854775807)) (sel (ieq k 1) (sel (gz [108,97,115,116] (Oh w)) (K (V.tup [V.str (gy [108,97,115,116] (Oh w)),A])) none) (sel (ieq k 2) (sel (gz (Oh w) [62,61]) (sel (gz B (text d)) (K (V.tup [V.str (gy B (text d)),A])) none) none) (sel (ieq k 3) (sel (gz (Oh w) [60,61]) (sel (gz C (text d)) (K (V.tup [V.str (gy C (text d)),A])) none) none) (K (V.tup [V.str (text d),A]))))) none):=by kernel_rfl
theorem Yv (F:Nat) (s:List UInt8) (K:V→Option V):
 bW wE (bT wE dS2 F 8) F 159 [V.str s] K=
 let D:=LF s [60,62];let G:=V.int .i64 0;let J:=dG s 4 (au s);let N:=ai (ak 0 4) (ak 4 (au s));let S:=ak (au s) 1000;let A:=V.agg [G,G,G];let L:=dG s 0 D;let O:=eu .i64 D 1;let E:=K (V.tup [A,V.int .i64 1]);let H:=dG s O (au s);let I:=K (V.tup [A,V.int .i64 4]);let Q:=V.int .i64 (wdI L);let B:=cpTd H [61];let C:=sel (ak 4 (au s)) (sel N (sel (ai (ak (au (dG s 0 4)) 1000) (ak (au [108,97,115,116]) 1000)) (sel (smB (dG s 0 4) [108,97,115,116]) (sel N (sel (ak (au J) 1000) (sel (aK (ieq (Ou J) 0)) (K (V.tup [A,V.int .i64 (Ou J)])) (K (V.tup [V.agg [V.int .i64 1,V.int .i64 (wdI J),G],G]))) none) none) I) none) none) I;let M:=K (V.tup [A,V.int .i64 (nrW B)]);let P:=aK (ieq (nrW B) 0);let R:=V.int .i64 (ig B);let T:=ak (au B) 1000;sel (ai S (ai (ai (ak 2 (au [60,62])) (ak (au [60,62]) 1000)) (M9 [60,62]))) (sel (ak 0 D) (sel (ai (ak 0 O) (ak O (au s))) (sel (ak (au H) 1000) (sel (aK (OM H [61])) I (sel (ai (ak 0 D) (ak D (au s))) (sel (ak (au L) 1000) (sel (aK (ieq (Ou L) 0)) (K (V.tup [A,V.int .i64 (Ou L)])) (sel (ai (ak 0 D) (aU D (au s))) (sel (ieq (sat s D) 60) (sel T (sel P M (sel (aU (ig B) 1) E (sel (aU 31 (ig B)) E (K (V.tup [V.agg [V.int .i64 3,Q,R],G]))))) none) (sel T (sel P M (sel (aU (ig B) 1) E (sel (aU 31 (ig B)) E (K (V.tup [V.agg [V.int .i64 2,Q,R],G]))))) none)) none)) none) none)) none) none) (sel (aK (seq s [])) (sel (ai (ak 0 0) (aU 0 (au s))) (sel (ak 0 (uF [45,48,49,50,51,52,53,54,55,56,57] (sat s 0))) (sel S (sel (aK (ieq (nrW s) 0)) (K (V.tup [A,V.int .i64 (nrW s)])) (sel (aU (ig s) 1) E (sel (aU 31 (ig s)) E (K (V.tup [V.agg [G,G,V.int .i64 (ig s)],G]))))) none) C) none) C)) none:=by kernel_rfl
theorem dCutS_ok (s p:List UInt8) (hc:ak (au s) 1000=true):af wE 169 [.str s,.str p] (.tup [.str (cpTd s p),.bool (OM s p)]):=by
 refine bP fun G w vs hG hg hp=>?_
 obtain⟨x,y,rfl,hx,hy⟩:=jD hp;unfold aO at hx hy;subst hx;subst hy;refine(Go.Proofs.Tryz.strings_CutPrefix ⟨s.toArray⟩ ⟨p.toArray⟩ w).mono ?_;rintro e w' ⟨rfl,rfl⟩;exact⟨_,rfl,Below.refl _ _,M6 (G7 _) (K7 _)⟩
theorem dAnyS_ok (s c:List UInt8) (hc:ai (ak (au s) 1000) (ai (ai (ak 2 (au c)) (ak (au c) 1000)) (M9 c))=true):af wE 116 [.str s,.str c] (.int .i64 (LF s c)):=by
 obtain⟨h1,h2⟩:=aR hc;obtain⟨h2,h3⟩:=aR h2;obtain⟨h2,h4⟩:=aR h2;have h1:=Dq h1;have h4:=Dq h4;rw[ay,aC] at h2;refine bP fun G w vs hG hg hp=>?_
 obtain⟨x,y,rfl,hx,hy⟩:=jD hp;unfold aO at hx hy;subst hx;subst hy;refine(Nt.AnyS.K8 Go.Proofs.Tryz.M7 (by kernel_rfl) ⟨s.toArray⟩ ⟨c.toArray⟩ w (by rw[wG];omega) (by rw[wG];omega) (by rw[wG];omega) (fun b hb=>?_)).mono ?_
 ·have h3:(c.all fun c=>decide (c.toNat<128))=true:=h3
  exact of_decide_eq_true (List.all_eq_true.1 h3 b hb)
 ·rintro e w' ⟨rfl,hb⟩
  exact⟨_,rfl,hb,qE _ _⟩
theorem Yw (s:List UInt8) (c:Int) (hc:true=true):af wE 43 [.str s,.int .u8 c] (.int .i64 (uF s c)):=toW (idx_c s c)
theorem Um (s:List UInt8) (hc:ak (au s) 1000=true):af wE 173 [.str s] (.tup [.int .i64 (ig s),.int .i64 (nrW s)]):=toW (M8 s (Dq hc))
theorem fits_w {m:Int} (h:ai (ak (-9223372036854775808) m) (ak m 9223372036854775807)=true):Fits m:=by rw[aJ,ay,ay] at h;exact h
theorem Yx (m:Int) (hc:ai (ak (-9223372036854775808) m) (ak m 9223372036854775807)=true):af wE 63 [.int .i64 m] (.str (text m)):=toW (Bl m (fits_w hc))
theorem dWdS_ok (s:List UInt8) (hc:ak (au s) 1000=true):af wE 202 [.str s] (.tup [.int .i64 (wdI s),.int .i64 (Ou s)]):=Rp s (Dq hc)
theorem dWtS_ok (n:Int) (hc:true=true):af wE 79 [.int .i64 n] (.str (Oh n)):=Yt n
theorem dSmS_ok (a b:List UInt8) (hc:ai (ak (au a) 1000) (ak (au b) 1000)=true):af wE 108 [.str a,.str b] (.bool (smB a b)):=wSame_ev a b (Dq (aR hc).1) (Dq (aR hc).2)
theorem dS_ok:bn wE dS:=by
 unfold dS;refine bn.cons (fun args r h=>?_) (bn.cons (fun args r h=>?_) (bn.cons (fun args r h=>?_) (bn.cons (fun args r h=>?_) (bn.cons (fun args r h=>?_) (bn.cons (fun args r h=>?_) (bn.cons (fun args r h=>?_) (bn.cons (fun args r h=>?_) bn.nil)))))));all_goals (revert h;intro h;first|unfold dCutS at h|unfold dAnyS at h|unfold dByteS at h|unfold VW at h|unfold dTextS at h|unfold dWdS at h|unfold dWtS at h|unfold dSmS at h)
 all_goals (split at h;rotate_left; · cases h)
 all_goals (simp only[Option.some.injEq,Prod.mk.injEq] at h;obtain⟨hc,rfl⟩:=h)
 ·exact dCutS_ok _ _ hc
 ·exact dAnyS_ok _ _ hc
 ·exact Yw _ _ rfl
 ·exact Um _ hc
 ·exact Yx _ hc
 ·exact dWdS_ok _ hc
 ·exact dWtS_ok _ rfl
 ·exact dSmS_ok _ _ hc
theorem K9 (k w d:Int):af wE 71 [.agg [.int .i64 k,.int .i64 w,.int .i64 d]] (.bool (LG k w d)):=by
 refine aj O8 dS_ok 5 3 ?_
 (rw[Ul];(conv=>zeta))
 unfold LG;simp only[bV,aL,ay];repeat' split
 all_goals first
  |(rw[decide_eq_false (by omega)];done)
  |(exfalso;omega)
  |(congr 2;unfold ak;rw[Bool.eq_iff_iff];simp;omega)
  |(congr 2;unfold ieq;rw[Bool.eq_iff_iff];simp;omega)
theorem dOnS_ok (k w d:Int) (hc:true=true):af wE 71 [.agg [.int .i64 k,.int .i64 w,.int .i64 d]] (.bool (LG k w d)):=K9 k w d
theorem dS2_ok:bn wE dS2:=by
 unfold dS2;refine bn.cons (fun args r h=>?_) dS_ok;all_goals (revert h;intro h;first|unfold dOnS at h)
 all_goals (split at h;rotate_left; · cases h)
 all_goals (simp only[Option.some.injEq,Prod.mk.injEq] at h;obtain⟨hc,rfl⟩:=h)
 ·exact dOnS_ok _ _ _ rfl
def dsT (k w d:Int):List UInt8:=if k=1 then[108,97,115,116]++Oh w else if k=2 then Oh w++[62,61]++text d else if k=3 then Oh w++[60,61]++text d else text d
def fe (k w d:Int):List UInt8:=if LG k w d=true then dsT k w d else[]
def dsTe (k w d:Int):Int:=if LG k w d=true then 0 else 4
theorem Tg {k w d:Int} (h:LG k w d=true):0≤d∧d≤31∧0≤w∧w≤6∧0≤k∧k≤3:=by
 unfold LG at h;repeat' split at h
 all_goals (rw[decide_eq_true_eq] at h;omega)
theorem wt_len (n:Int):(Oh n).length≤3:=by
 unfold Oh;split
 ·rw[List.length_take];omega
 ·simp
theorem IA (d:Int) (h:0≤d∧d≤31):(text d).length≤40:=by
 have:=(vG d (by unfold Fits;omega)).1;omega
theorem dText_ev (k w d:Int):af wE 58 [.agg [.int .i64 k,.int .i64 w,.int .i64 d]] (.tup [.str (fe k w d),.int .i64 (dsTe k w d)]):=by
 refine aj O8 dS2_ok 5 3 ?_
 (rw[Yu];(conv=>zeta))
 unfold fe dsTe
 cases h:LG k w d with
 |false=>rfl
 |true=>
  obtain⟨d0,d1,w0,w1,k0,k1⟩:=Tg h;have hw:=wt_len w;have ht:=IA d ⟨d0,d1⟩;rw[aW (by rfl),aB (by rw[aJ,ay,ay];omega),if_pos rfl,if_pos rfl];unfold dsT;obtain rfl|rfl|rfl|rfl:k=0∨k=1∨k=2∨k=3:=by omega
  ·rfl
  ·rw[aB (bq rfl),aB (by rw[eP];simp only[List.length_cons,List.length_nil];omega)];rfl
  ·rw[aW (bQ (by decide)),aB (bq rfl),aB (by rw[eP];simp only[List.length_cons,List.length_nil];omega),aB (by rw[eP];unfold gy;simp only[List.length_append,List.length_cons,List.length_nil];omega)];rfl
  ·rw[aW (bQ (by decide)),aW (bQ (by decide)),aB (bq rfl),aB (by rw[eP];simp only[List.length_cons,List.length_nil];omega),aB (by rw[eP];unfold gy;simp only[List.length_append,List.length_cons,List.length_nil];omega)];rfl
theorem La (s:List UInt8) (k:Nat):dG s (k:Int) (au s)=s.drop k:=by
 rw[aC,G4];exact List.take_of_length_le (by rw[List.length_drop];omega)
theorem VX (s:List UInt8) (k:Nat):dG s 0 (k:Int)=s.take k:=by
 have:dG s ((0:Nat):Int) (k:Int)=(s.drop 0).take (k-0):=G4 s 0 k;rw[List.drop_zero,Nat.sub_zero] at this;exact this
theorem ixA_cons (b:UInt8) (l:List UInt8):LF (b::l) [60,62]=if b=60∨b=62 then 0 else if LF l [60,62]= -1 then -1 else LF l [60,62]+1:=by
 unfold LF;rw[Lib.indexAny];have e:(List.contains [60,62] b=true)=(b=60∨b=62):=by simp
 simp only[e,beq_iff_eq]
theorem ixA_ge (l:List UInt8): -1≤LF l [60,62]:=Lib.indexAny_ge _ _
theorem ixA_at: ∀(l:List UInt8),0≤LF l [60,62]→LF l [60,62]<l.length∧(l.getD (LF l [60,62]).toNat 0=60∨l.getD (LF l [60,62]).toNat 0=62)
 |[],h=>by exact absurd h (by decide)
 |b::l,h=>by
  have ih:=ixA_at l;have hg:=ixA_ge l;rw[ixA_cons] at*;split
  ·rename_i h1
   exact⟨by rw[List.length_cons];omega,h1⟩
  ·rename_i h1
   rw[if_neg h1] at h;split
   ·rename_i h2
    rw[if_pos h2] at h;exact absurd h (by decide)
   ·obtain⟨k1,k2⟩:=ih (by omega)
    refine⟨by rw[List.length_cons];omega,?_⟩;rw[show(LF l [60,62]+1).toNat=(LF l [60,62]).toNat+1 by omega,List.getD_cons_succ];exact k2
def dsSg (s:List UInt8) (a:Nat):Int×Int×Int×Int:=
 if OM (s.drop (a+1)) [61]=true then(if Ou (s.take a)=0 then(if dyE (s.drop (a+2))=0 then(if s.getD a 0=60 then 3 else 2,wdI (s.take a),dyD (s.drop (a+2)),0) else(0,0,0,dyE (s.drop (a+2)))) else(0,0,0,Ou (s.take a))) else(0,0,0,4)
def dsNm (s:List UInt8):Int×Int×Int×Int:=if dyE s=0 then(0,0,dyD s,0) else(0,0,0,dyE s)
def dsLs (s:List UInt8):Int×Int×Int×Int:=if 4≤s.length∧smB (s.take 4) [108,97,115,116]=true then(if Ou (s.drop 4)=0 then(1,wdI (s.drop 4),0,0) else(0,0,0,Ou (s.drop 4))) else(0,0,0,4)
def dmB (c:UInt8):Bool:=c==45||(decide (48≤c.toNat)&&decide (c.toNat≤57))
def dsP (s:List UInt8):Int×Int×Int×Int:=
 if 0≤LF s [60,62] then dsSg s (LF s [60,62]).toNat else if s≠[]∧dmB (s.getD 0 0)=true then dsNm s else dsLs s
def Dr (p:Int×Int×Int×Int):V:=.tup [.agg [.int .i64 p.1,.int .i64 p.2.1,.int .i64 p.2.2.1],.int .i64 p.2.2.2]
theorem cpT_drop (s:List UInt8) (k:Nat) (h:OM (s.drop k) [61]=true):cpTd (s.drop k) [61]=s.drop (k+1):=by
 unfold cpTd Lib.trimPrefix;rw[if_pos (show Lib.hasPrefix (s.drop k) [61]=true from h),List.drop_drop];rfl
theorem idx_dm (c:UInt8):ak 0 (uF [45,48,49,50,51,52,53,54,55,56,57] ((c.toNat:Nat):Int))=dmB c:=by
 have h: ∀n:Fin 256,ak 0 (uF [45,48,49,50,51,52,53,54,55,56,57] (((n:Nat)):Int))=dmB (UInt8.ofNat n):=by decide+kernel
 have:=h ⟨c.toNat,c.toNat_lt⟩;simpa using this
theorem Na (x:List UInt8) (e o:Int→Option V):sel (aK (ieq (nrW x) 0)) (e (nrW x)) (sel (aU (ig x) 1) (e 1) (sel (aU 31 (ig x)) (e 1) (o (ig x))))=if dyE x=0 then o (dyD x) else e (dyE x):=by
 unfold dyE dyD;by_cases h:nrW x=0
 ·rw[aW (by rw[bq h];rfl)]
  by_cases h1:ig x<1
  ·have e1:dyP x=(0,1):=by unfold dyP;rw[if_pos h,if_pos (show ig x<1∨31<ig x from .inl h1)]
   rw[aB (bE h1),e1,if_neg (show¬(1:Int)=0 by decide)]
  ·rw[aW (bD (by omega))]
   by_cases h2:31<ig x
   ·have e1:dyP x=(0,1):=by unfold dyP;rw[if_pos h,if_pos (show ig x<1∨31<ig x from .inr h2)]
    rw[aB (bE h2),e1,if_neg (show¬(1:Int)=0 by decide)]
   ·have e1:dyP x=(ig x,0):=by unfold dyP;rw[if_pos h,if_neg (show¬(ig x<1∨31<ig x) by omega)]
    rw[aW (bD (by omega)),e1,if_pos (show(0:Int)=0 from rfl)]
 ·have e1:dyP x=(0,nrW x):=by unfold dyP;rw[if_neg h]
  rw[aB (by rw[bQ h];rfl),e1,if_neg h]
theorem ls_sel (s:List UInt8) (hs:s.length≤1000):(sel (ak 4 (au s))
     (sel (ai (ak 0 4) (ak 4 (au s)))
      (sel (ai (ak (au (dG s 0 4)) 1000) (ak (au [108,97,115,116]) 1000))
       (sel (smB (dG s 0 4) [108,97,115,116])
        (sel (ai (ak 0 4) (ak 4 (au s)))
         (sel (ak (au (dG s 4 (au s))) 1000)
          (sel (aK (ieq (Ou (dG s 4 (au s))) 0))
           (some (V.tup [V.agg [V.int .i64 0,V.int .i64 0,V.int .i64 0],V.int .i64 (Ou (dG s 4 (au s)))]))
           (some (V.tup [V.agg [V.int .i64 1,V.int .i64 (wdI (dG s 4 (au s))),V.int .i64 0],V.int .i64 0])))
          none)
         none)
        (some (V.tup [V.agg [V.int .i64 0,V.int .i64 0,V.int .i64 0],V.int .i64 4])))
       none)
      none)
     (some (V.tup [V.agg [V.int .i64 0,V.int .i64 0,V.int .i64 0],V.int .i64 4])))=some (Dr (dsLs s)):=by
 have e0:dG s 0 4=s.take 4:=VX s 4;have e1:dG s 4 (au s)=s.drop 4:=La s 4;rw[e0,e1];unfold dsLs;by_cases h4:4≤s.length
 ·have hb:ai (ak 0 4) (ak 4 (au s))=true:=by rw[aJ,ay,ay,aC];omega
  have l1:(s.take 4).length≤1000:=by rw[List.length_take];omega
  have l2:(s.drop 4).length≤1000:=by rw[List.length_drop];omega
  rw[aB (bB (by rw[aC];omega)),aB hb,aB (by rw[aJ,ay,aC];exact⟨by omega,rfl⟩)];by_cases h:smB (s.take 4) [108,97,115,116]=true
  ·rw[aB h,aB hb,aB (bB (by rw[aC];omega)),if_pos (show 4≤s.length∧smB (s.take 4) [108,97,115,116]=true from⟨h4,h⟩)]
   by_cases hw:Ou (s.drop 4)=0
   ·rw[aW (by rw[bq hw];rfl),if_pos hw];rfl
   ·rw[aB (by rw[bQ hw];rfl),if_neg hw];rfl
  ·rw[aW (by simpa using h),if_neg (fun e=>h e.2)];rfl
 ·rw[aW (xQ (by rw[aC];omega)),if_neg (fun e=>h4 e.1)];rfl
theorem dRead_ev (s:List UInt8) (hs:s.length≤900):af wE 159 [.str s] (Dr (dsP s)):=by
 refine aj O8 dS2_ok 5 8 ?_;have l0:ak (au s) 1000=true:=bB (by rw[aC];omega)
 (rw[Yv];(conv=>zeta);rw[aB (by rw[l0];rfl)])
 unfold dsP;by_cases h0:0≤LF s [60,62]
 ·obtain⟨k1,k2⟩:=ixA_at s h0
  obtain⟨a,ha⟩: ∃a:Nat,LF s [60,62]=(a:Int):=⟨(LF s [60,62]).toNat,by omega⟩
  rw[ha] at h0 k1 k2⊢;rw[if_pos h0,Int.toNat_natCast];have e1:eu .i64 (a:Int) 1=((a+1:Nat):Int):=by rw[fU (by omega)];omega
  rw[e1,La,VX,aB (bB h0),aB (show ai (ak 0 ((a+1:Nat):Int)) (ak ((a+1:Nat):Int) (au s))=true by rw[aJ,ay,ay,aC];omega),aB (show ak (au (s.drop (a+1))) 1000=true from bB (by rw[aC,List.length_drop];omega))];unfold dsSg;by_cases hp:OM (s.drop (a+1)) [61]=true
  ·rw[if_pos hp,aW (show aK (OM (s.drop (a+1)) [61])=false by rw[hp];rfl),cpT_drop s (a+1) hp,aB (show ai (ak 0 (a:Int)) (ak (a:Int) (au s))=true by rw[aJ,ay,ay,aC];omega),aB (show ak (au (s.take a)) 1000=true from bB (by rw[aC,List.length_take];omega))]
   by_cases hw:Ou (s.take a)=0
   ·rw[aW (show aK (ieq (Ou (s.take a)) 0)=false by rw[bq hw];rfl),if_pos hw,aB (show ai (ak 0 (a:Int)) (aU (a:Int) (au s))=true by rw[aJ,ay,bf,aC];omega)]
    have l2:ak (au (s.drop (a+1+1))) 1000=true:=bB (by rw[aC,List.length_drop];omega);rw[l2,sat_nat];by_cases hk:s.getD a 0=60
    ·rw[aB (show ieq ((s.getD a 0).toNat:Int) 60=true by rw[hk];rfl),aB rfl]
     refine(Na (s.drop (a+2)) (fun n=>some (Dr (0,0,0,n))) (fun n=>some (Dr (3,wdI (s.take a),n,0)))).trans ?_;by_cases he:dyE (s.drop (a+2))=0
     ·rw[if_pos he,if_pos he,if_pos hk]
     ·rw[if_neg he,if_neg he]
    ·have hk':ieq ((s.getD a 0).toNat:Int) 60=false:=bQ (fun e=>hk (by rw[←UInt8.toNat_inj];show(s.getD a 0).toNat=60;omega))
     rw[aW hk',aB rfl];refine(Na (s.drop (a+2)) (fun n=>some (Dr (0,0,0,n))) (fun n=>some (Dr (2,wdI (s.take a),n,0)))).trans ?_;by_cases he:dyE (s.drop (a+2))=0
     ·rw[if_pos he,if_pos he,if_neg hk]
     ·rw[if_neg he,if_neg he]
   ·rw[aB (show aK (ieq (Ou (s.take a)) 0)=true by rw[bQ hw];rfl),if_neg hw];rfl
  ·rw[if_neg hp,aB (show aK (OM (s.drop (a+1)) [61])=true by rw[bZ];exact hp)];rfl
 ·rw[if_neg h0,aW (xQ (by omega)),ls_sel s (by omega)]
  cases s with
  |nil=>rfl
  |cons c t=>
   have e2:(c::t).getD 0 0=c:=rfl;have e3:sat (c::t) 0=(c.toNat:Int):=rfl;rw[aB (show aK (seq (c::t) [])=true from rfl),aB (show ai (ak 0 0) (aU 0 (au (c::t)))=true by rw[aJ,bf,aC];exact⟨rfl,by simp only[List.length_cons];omega⟩),e3,e2,idx_dm,l0]
   cases hd:dmB c with
   |true=>
    rw[aB rfl,aB rfl,if_pos ⟨by simp,rfl⟩];refine(Na (c::t) (fun n=>some (Dr (0,0,0,n))) (fun n=>some (Dr (0,0,n,0)))).trans ?_;unfold dsNm;by_cases he:dyE (c::t)=0
    ·rw[if_pos he,if_pos he]
    ·rw[if_neg he,if_neg he]
   |false=>
    rw[aW rfl,if_neg (fun e=>by cases e.2)]
def qX (s:List UInt8):Int:=(dsP s).1
def iD (s:List UInt8):Int:=(dsP s).2.1
def qY (s:List UInt8):Int:=(dsP s).2.2.1
def sw (s:List UInt8):Int:=(dsP s).2.2.2
set_option maxRecDepth 100000 in
theorem ds_all: ∀(k:Fin 4) (w:Fin 7) (d:Fin 32),LG (k:Nat) (w:Nat) (d:Nat)=true→dsP (dsT (k:Nat) (w:Nat) (d:Nat))=(((k:Nat):Int),((w:Nat):Int),((d:Nat):Int),0):=by decide+kernel
theorem VY (k w d:Int) (h:LG k w d=true):dsP (fe k w d)=(k,w,d,0):=by
 obtain⟨d0,d1,w0,w1,k0,k1⟩:=Tg h;have:=ds_all ⟨k.toNat,by omega⟩ ⟨w.toNat,by omega⟩ ⟨d.toNat,by omega⟩;simp only[show((k.toNat:Nat):Int)=k by omega,show((w.toNat:Nat):Int)=w by omega,show((d.toNat:Nat):Int)=d by omega] at this;unfold fe;rw[if_pos h];exact this h
theorem Bn (k w d : Int) : (fe k w d).length ≤ 100 := by
  unfold fe
  split
  · rename_i h
    obtain ⟨d0, d1, w0, w1, k0, k1⟩ := Tg h
    have hw := wt_len w
    have ht := IA d ⟨d0, d1⟩
    unfold dsT
    repeat' split
    all_goals (try simp only [List.length_append, List.length_cons, List.length_nil]
               omega)
  · simp
end Nt.Ev.YtplklcejbmfgdaaGreatDoor
