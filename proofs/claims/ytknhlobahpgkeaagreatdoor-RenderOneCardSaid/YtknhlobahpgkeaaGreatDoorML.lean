/-
  Words: equations of functions, as the evaluator prints them. Words: weekdays, and whether two texts are the same, for the evaluator, both sides.
-/
import Derived.Test.YtknhlobahpgkeaaGreatDoorME
import Derived.Test.YtknhlobahpgkeaaGreatDoorMD
set_option linter.all false
set_option maxRecDepth 100000
namespace Nt.Ev.YtknhlobahpgkeaaGreatDoor
open Go Nt.Num Go.Proofs.YtknhlobahpgkeaaGreatDoor
noncomputable def Dw:V:=.rptr [.str,.str,.str,.str,.str,.str,.str] (.agg [.str [83,117,110,100,97,121],.str [77,111,110,100,97,121],.str [84,117,101,115,100,97,121],.str [87,101,100,110,101,115,100,97,121],.str [84,104,117,114,115,100,97,121],.str [70,114,105,100,97,121],.str [83,97,116,117,114,100,97,121]]) 0
noncomputable def wE:Env:=⟨Go.Proofs.Tryz.prog,fun g=>bif g==2 then some Dw else none⟩
noncomputable def Xd:aC:=fun a=>match a with|[.str s,.sl e [.str] o ws]=>some (ak (av (aA s) 1000) (uO ws),.tup [.int .i64 (mo s ws),.int .i64 (oP s ws)])|_=>none
noncomputable def wS:List (Nat×aC):=(46,Xd)::[]
theorem O1 (F s) (K:V→Option V):
 bA wE (bu wE wS F 2) F 183 [V.str s] K=
 let A:=[V.str [83,117,110,100,97,121],V.str [77,111,110,100,97,121],V.str [84,117,101,115,100,97,121],V.str [87,101,100,110,101,115,100,97,121],V.str [84,104,117,114,115,100,97,121],V.str [70,114,105,100,97,121],V.str [83,97,116,117,114,100,97,121]];sel (ak (av (aA s) 1000) (uO A)) (K (V.tup [V.int .i64 (mo s A),V.int .i64 (oP s A)])) none:=by kernel_rfl
theorem Vf (F n) (K:V→Option V):
 bA wE (bu wE wS F 2) F 56 [V.int .i64 n] K=
 let A:=[V.str [83,117,110,100,97,121],V.str [77,111,110,100,97,121],V.str [84,117,101,115,100,97,121],V.str [87,101,100,110,101,115,100,97,121],V.str [84,104,117,114,115,100,97,121],V.str [70,114,105,100,97,121],V.str [83,97,116,117,114,100,97,121]];let B:=aH (ai (aG A n) 0);sel (aW n 0) (K (V.str [])) (sel (av (ay A) n) (K (V.str [])) (sel (ak (av 0 n) (aW n (ay A))) (sel (ak (av 0 3) (av 3 (aA B))) (K (V.str (dN B 0 3))) none) none)):=by kernel_rfl
open Go.RowKit Nt
theorem P8:uL wE:=⟨by kernel_rfl,by kernel_rfl⟩
theorem toW {f:Nat} {args:ah} {r:V} (h:aj nE f args r):aj wE f args r:=aj.env (E:=nE) rfl (fun n v h=>by cases h) h
theorem D8 {s:af} (h:av (aA s) 1000=true):s.length≤1000:=by rw[aB,aI] at h;omega
theorem Vg (s:af) (e:Nat) (o:Option Nat) (a:ah) (c:ak (av (aA s) 1000) (uO a)=true):aj wE 46 [.str s,.sl e [.str] o a] (.tup [.int .i64 (mo s a),.int .i64 (oP s a)]):=by obtain⟨b,d⟩:=aO c;exact toW (Il s e o a (D8 b) d)
theorem wS_ok:bf wE wS:=by
 unfold wS;refine bf.cons (fun args r h=>?_) bf.nil;all_goals (revert h;intro h;first|unfold Xd at h)
 all_goals (split at h;rotate_left; · cases h)
 all_goals (simp only[aR,bM] at h;obtain⟨a,rfl⟩:=h)
 ·exact Vg _ _ _ _ a
theorem mt_lt (s:ByteArray) (a:List ByteArray) (h:(Words.mt s a).2=0):(Words.mt s a).1<a.length:=by
 unfold Words.mt at*;split at h
 ·cases h
 rename_i e;rw[if_neg e];split at h
 ·rename_i i b
  have:=acY b;exact List.mem_range.1 this
 rename_i b;split at h
 ·cases h
 rename_i f r c;split at h
 ·rename_i d
  rw[if_pos d];exact Words.Ih s a a.length f (by rw[c];exact uY)
 cases h
def wdV:ah:=[.str [83,117,110,100,97,121],.str [77,111,110,100,97,121],.str [84,117,101,115,100,97,121],.str [87,101,100,110,101,115,100,97,121],.str [84,104,117,114,115,100,97,121],.str [70,114,105,100,97,121],.str [83,97,116,117,114,100,97,121]]
def wdI (s:af):Int:=mo s wdV
def Pz (s:af):Int:=oP s wdV
theorem wdV_ok:uO wdV=true:=by decide
theorem SB (s:af) (a:s.length≤1000):aj wE 183 [.str s] (.tup [.int .i64 (wdI s),.int .i64 (Pz s)]):=by
 refine au P8 wS_ok 5 2 ?_
 (rw[O1];(conv=>zeta);rw[ax])
 ·rfl
 rw[aM];exact⟨bg (by rw[aI];omega),wdV_ok⟩
def Pj (n:Int):af:=if 0≤n∧n≤6 then(aH (wdV.getD n.toNat .any)).take 3 else[]
theorem ZQ (n:Int):aj wE 56 [.int .i64 n] (.str (Pj n)):=by
 refine au P8 wS_ok 5 2 ?_
 (rw[Vf];(conv=>zeta))
 by_cases h:0≤n∧n≤6
 ·obtain rfl|rfl|rfl|rfl|rfl|rfl|rfl:n=0∨n=1∨n=2∨n=3∨n=4∨n=5∨n=6:=by omega
  all_goals rfl
 have e:Pj n=[]:=by unfold Pj;rw[if_neg h]
 rw[e];by_cases a:n<0
 ·rw[ax (bH a)]
 rw[aK (bF (by omega)),ax (bg (by rw[aD];show(7:Int)≤n;omega))]
def smB (a b:af):Bool:=Words.same ⟨a.toArray⟩ ⟨b.toArray⟩
theorem wSame_ev (a b:af) (h:a.length≤1000) (g:b.length≤1000):aj wE 75 [.str a,.str b] (.bool (smB a b)):=by
 refine bX fun G w vs j i f=>?_
 obtain⟨x,y,rfl,d,c⟩:=iQ f;unfold aV at d c;subst d;subst c;refine(CS ⟨a.toArray⟩ ⟨b.toArray⟩ w (Nb h) (Nb g)).mono ?_;rintro e w' ⟨rfl,n,rfl⟩;exact⟨_,rfl,Nt.below_drewN (Below.refl _ _) _,QB _⟩
def PL (s p:af):Bool:=Lib.hasPrefix s p
def cpTd (s p:af):af:=Lib.trimPrefix s p
def Mv (s c:af):Int:=Lib.indexAny s c
def NS (l:af):Bool:=l.all fun c=>decide (c.toNat<128)
def Mw (k w d:Int):Bool:=if k=1 then decide (0≤w∧w≤6∧d=0) else if k=0 then decide (w=0∧1≤d∧d≤31) else decide ((k=2∨k=3)∧0≤w∧w≤6∧1≤d∧d≤31)
noncomputable def dCutS:aC:=fun a=>match a with|[.str s,.str p]=>some (av (aA s) 1000,.tup [.str (cpTd s p),.bool (PL s p)])|_=>none
noncomputable def dAnyS:aC:=fun a=>match a with|[.str s,.str c]=>some (ak (av (aA s) 1000) (ak (ak (av 2 (aA c)) (av (aA c) 1000)) (NS c)),.int .i64 (Mv s c))|_=>none
noncomputable def dByteS:aC:=fun a=>match a with|[.str s,.int .u8 c]=>some (true,.int .i64 (vw s c))|_=>none
noncomputable def Xe:aC:=fun a=>match a with|[.str s]=>some (av (aA s) 1000,.tup [.int .i64 (iG s),.int .i64 (nrW s)])|_=>none
noncomputable def dTextS:aC:=fun a=>match a with|[.int .i64 n]=>some (ak (av (-9223372036854775808) n) (av n 9223372036854775807),.str (text n))|_=>none
noncomputable def dWdS:aC:=fun a=>match a with|[.str s]=>some (av (aA s) 1000,.tup [.int .i64 (wdI s),.int .i64 (Pz s)])|_=>none
noncomputable def dWtS:aC:=fun a=>match a with|[.int .i64 n]=>some (true,.str (Pj n))|_=>none
noncomputable def dSmS:aC:=fun a=>match a with|[.str a,.str b]=>some (ak (av (aA a) 1000) (av (aA b) 1000),.bool (smB a b))|_=>none
noncomputable def dOnS:aC:=fun a=>match a with|[.agg [.int .i64 k,.int .i64 w,.int .i64 d]]=>some (true,.bool (Mw k w d))|_=>none
noncomputable def dS:List (Nat×aC):=(150,dCutS)::(104,dAnyS)::(65,dByteS)::(154,Xe)::(54,dTextS)::(183,dWdS)::(56,dWtS)::(75,dSmS)::[]
noncomputable def dS2:List (Nat×aC):=(55,dOnS)::dS
def dyP (s:af):Int×Int:=if nrW s=0 then(if iG s<1∨31<iG s then(0,1) else(iG s,0)) else(0,nrW s)
def dyD (s:af):Int:=(dyP s).1
def dyE (s:af):Int:=(dyP s).2
theorem Vh (F k w d) (K:V→Option V):
 bA wE (bu wE dS F 3) F 55 [V.agg [V.int .i64 k,V.int .i64 w,V.int .i64 d]] K=
 let A:=K (V.bool false);let B:=sel (av 1 d) (K (V.bool (av d 31))) A;sel (ieq k 1) (sel (av 0 w) (sel (av w 6) (K (V.bool (ieq d 0))) A) A) (sel (ieq k 0) (sel (av 0 k) (sel (av k 3) (sel (av 0 w) (sel (av w 0) B A) A) A) A) (sel (av 0 k) (sel (av k 3) (sel (av 0 w) (sel (av w 6) B A) A) A) A)):=by kernel_rfl
theorem ZR (F k w d) (K:V→Option V):
 bA wE (bu wE dS2 F 3) F 29 [V.agg [V.int .i64 k,V.int .i64 w,V.int .i64 d]] K=
 let A:=V.int .i64 0;let B:=dU (Pj w) [62,61];let C:=dU (Pj w) [60,61];sel (aL (Mw k w d)) (K (V.tup [V.str [],V.int .i64 4])) (sel (ak (av (-9223372036854775808) d) (av d 9223372036854775807)) (sel (ieq k 1) (sel (fu [108,97,115,116] (Pj w)) (K (V.tup [V.str (dU [108,97,115,116] (Pj w)),A])) none) (sel (ieq k 2) (sel (fu (Pj w) [62,61]) (sel (fu B (text d)) (K (V.tup [V.str (dU B (text d)),A])) none) none) (sel (ieq k 3) (sel (fu (Pj w) [60,61]) (sel (fu C (text d)) (K (V.tup [V.str (dU C (text d)),A])) none) none) (K (V.tup [V.str (text d),A]))))) none):=by kernel_rfl
theorem ZS (F s) (K:V→Option V):
 bA wE (bu wE dS2 F 8) F 132 [V.str s] K=
 let D:=Mv s [60,62];let G:=V.int .i64 0;let J:=dN s 4 (aA s);let N:=ak (av 0 4) (av 4 (aA s));let S:=av (aA s) 1000;let A:=V.agg [G,G,G];let L:=dN s 0 D;let O:=bJ .i64 D 1;let E:=K (V.tup [A,V.int .i64 1]);let H:=dN s O (aA s);let I:=K (V.tup [A,V.int .i64 4]);let Q:=V.int .i64 (wdI L);let B:=cpTd H [61];let C:=sel (av 4 (aA s)) (sel N (sel (ak (av (aA (dN s 0 4)) 1000) (av (aA [108,97,115,116]) 1000)) (sel (smB (dN s 0 4) [108,97,115,116]) (sel N (sel (av (aA J) 1000) (sel (aL (ieq (Pz J) 0)) (K (V.tup [A,V.int .i64 (Pz J)])) (K (V.tup [V.agg [V.int .i64 1,V.int .i64 (wdI J),G],G]))) none) none) I) none) none) I;let M:=K (V.tup [A,V.int .i64 (nrW B)]);let P:=aL (ieq (nrW B) 0);let R:=V.int .i64 (iG B);let T:=av (aA B) 1000;sel (ak S (ak (ak (av 2 (aA [60,62])) (av (aA [60,62]) 1000)) (NS [60,62]))) (sel (av 0 D) (sel (ak (av 0 O) (av O (aA s))) (sel (av (aA H) 1000) (sel (aL (PL H [61])) I (sel (ak (av 0 D) (av D (aA s))) (sel (av (aA L) 1000) (sel (aL (ieq (Pz L) 0)) (K (V.tup [A,V.int .i64 (Pz L)])) (sel (ak (av 0 D) (aW D (aA s))) (sel (ieq (sat s D) 60) (sel T (sel P M (sel (aW (iG B) 1) E (sel (aW 31 (iG B)) E (K (V.tup [V.agg [V.int .i64 3,Q,R],G]))))) none) (sel T (sel P M (sel (aW (iG B) 1) E (sel (aW 31 (iG B)) E (K (V.tup [V.agg [V.int .i64 2,Q,R],G]))))) none)) none)) none) none)) none) none) (sel (aL (seq s [])) (sel (ak (av 0 0) (aW 0 (aA s))) (sel (av 0 (vw [45,48,49,50,51,52,53,54,55,56,57] (sat s 0))) (sel S (sel (aL (ieq (nrW s) 0)) (K (V.tup [A,V.int .i64 (nrW s)])) (sel (aW (iG s) 1) E (sel (aW 31 (iG s)) E (K (V.tup [V.agg [G,G,V.int .i64 (iG s)],G]))))) none) C) none) C)) none:=by kernel_rfl
theorem dCutS_ok (s p:af) (g:av (aA s) 1000=true):aj wE 150 [.str s,.str p] (.tup [.str (cpTd s p),.bool (PL s p)]):=by
 refine bX fun G w vs f d c=>?_
 obtain⟨x,y,rfl,b,a⟩:=iQ c;unfold aV at b a;subst b;subst a;refine(Go.Proofs.Tryz.strings_CutPrefix ⟨s.toArray⟩ ⟨p.toArray⟩ w).mono ?_;rintro e w' ⟨rfl,rfl⟩;exact⟨_,rfl,Below.refl _ _,NP (Ij _) (LP _)⟩
theorem dAnyS_ok (s c:af) (l:ak (av (aA s) 1000) (ak (ak (av 2 (aA c)) (av (aA c) 1000)) (NS c))=true):aj wE 104 [.str s,.str c] (.int .i64 (Mv s c)):=by
 obtain⟨j,a⟩:=aO l;obtain⟨a,d⟩:=aO a;obtain⟨a,i⟩:=aO a;have j:=D8 j;have i:=D8 i;rw[aB,aI] at a;refine bX fun G w vs n m k=>?_
 obtain⟨x,y,rfl,h,g⟩:=iQ k;unfold aV at h g;subst h;subst g;refine(Nt.AnyS.LQ Go.Proofs.Tryz.NQ (by kernel_rfl) ⟨s.toArray⟩ ⟨c.toArray⟩ w (by rw[wZ];omega) (by rw[wZ];omega) (by rw[wZ];omega) (fun b f=>?_)).mono ?_
 ·have d:(c.all fun c=>decide (c.toNat<128))=true:=d
  exact Fw (List.all_eq_true.1 d b f)
 rintro e w' ⟨rfl,f⟩;exact⟨_,rfl,f,qL _ _⟩
theorem ZT (s:af) (c:Int) (a:true=true):aj wE 65 [.str s,.int .u8 c] (.int .i64 (vw s c)):=toW (idx_c s c)
theorem Vi (s:af) (a:av (aA s) 1000=true):aj wE 154 [.str s] (.tup [.int .i64 (iG s),.int .i64 (nrW s)]):=toW (NR s (D8 a))
theorem fits_w {m:Int} (h:ak (av (-9223372036854775808) m) (av m 9223372036854775807)=true):Fits m:=by rw[aM,aB,aB] at h;exact h
theorem ZU (m:Int) (a:ak (av (-9223372036854775808) m) (av m 9223372036854775807)=true):aj wE 54 [.int .i64 m] (.str (text m)):=toW (Bw m (fits_w a))
theorem dWdS_ok (s:af) (a:av (aA s) 1000=true):aj wE 183 [.str s] (.tup [.int .i64 (wdI s),.int .i64 (Pz s)]):=SB s (D8 a)
theorem dWtS_ok (n:Int) (a:true=true):aj wE 56 [.int .i64 n] (.str (Pj n)):=ZQ n
theorem dSmS_ok (a b:af) (c:ak (av (aA a) 1000) (av (aA b) 1000)=true):aj wE 75 [.str a,.str b] (.bool (smB a b)):=wSame_ev a b (D8 (aO c).1) (D8 (aO c).2)
theorem dS_ok:bf wE dS:=by
 unfold dS;refine bf.cons (fun args r h=>?_) (bf.cons (fun args r h=>?_) (bf.cons (fun args r h=>?_) (bf.cons (fun args r h=>?_) (bf.cons (fun args r h=>?_) (bf.cons (fun args r h=>?_) (bf.cons (fun args r h=>?_) (bf.cons (fun args r h=>?_) bf.nil)))))));all_goals (revert h;intro h;first|unfold dCutS at h|unfold dAnyS at h|unfold dByteS at h|unfold Xe at h|unfold dTextS at h|unfold dWdS at h|unfold dWtS at h|unfold dSmS at h)
 all_goals (split at h;rotate_left; · cases h)
 all_goals (simp only[aR,bM] at h;obtain⟨a,rfl⟩:=h)
 ·exact dCutS_ok _ _ a
 ·exact dAnyS_ok _ _ a
 ·exact ZT _ _ rfl
 ·exact Vi _ a
 ·exact ZU _ a
 ·exact dWdS_ok _ a
 ·exact dWtS_ok _ rfl
 exact dSmS_ok _ _ a
theorem LU (k w d:Int):aj wE 55 [.agg [.int .i64 k,.int .i64 w,.int .i64 d]] (.bool (Mw k w d)):=by
 refine au P8 dS_ok 5 3 ?_
 (rw[Vh];(conv=>zeta))
 unfold Mw;simp only[bK,aN,aB];repeat' split
 all_goals first
  |(rw[uZ (by omega)];done)
  |(exfalso;omega)
  |(congr 2;unfold av;rw[uF];simp;omega)
  |(congr 2;unfold ieq;rw[uF];simp;omega)
theorem dOnS_ok (k w d:Int) (a:true=true):aj wE 55 [.agg [.int .i64 k,.int .i64 w,.int .i64 d]] (.bool (Mw k w d)):=LU k w d
theorem dS2_ok:bf wE dS2:=by
 unfold dS2;refine bf.cons (fun args r h=>?_) dS_ok;all_goals (revert h;intro h;first|unfold dOnS at h)
 all_goals (split at h;rotate_left; · cases h)
 all_goals (simp only[aR,bM] at h;obtain⟨a,rfl⟩:=h)
 ·exact dOnS_ok _ _ _ rfl
def dsT (k w d:Int):af:=if k=1 then[108,97,115,116]++Pj w else if k=2 then Pj w++[62,61]++text d else if k=3 then Pj w++[60,61]++text d else text d
def fF (k w d:Int):af:=if Mw k w d=true then dsT k w d else[]
def dsTe (k w d:Int):Int:=if Mw k w d=true then 0 else 4
theorem Ug {k w d:Int} (h:Mw k w d=true):0≤d∧d≤31∧0≤w∧w≤6∧0≤k∧k≤3:=by
 unfold Mw at h;repeat' split at h
 all_goals (rw[lG] at h;omega)
theorem wt_len (n:Int):(Pj n).length≤3:=by
 unfold Pj;split
 ·rw[JG];omega
 simp
theorem Jj (d:Int) (h:0≤d∧d≤31):(text d).length≤40:=by have:=(vY d (by unfold Fits;omega)).1;omega
theorem dText_ev (k w d:Int):aj wE 29 [.agg [.int .i64 k,.int .i64 w,.int .i64 d]] (.tup [.str (fF k w d),.int .i64 (dsTe k w d)]):=by
 refine au P8 dS2_ok 5 3 ?_
 (rw[ZR];(conv=>zeta))
 unfold fF dsTe
 cases h:Mw k w d with
 |false=>rfl
 |true=>
  obtain⟨a,b,i,f,g,e⟩:=Ug h;have c:=wt_len w;have j:=Jj d ⟨a,b⟩;rw[aK (by rfl),ax (by rw[aM,aB,aB];omega),if_pos rfl,if_pos rfl];unfold dsT;obtain rfl|rfl|rfl|rfl:k=0∨k=1∨k=2∨k=3:=by omega
  ·rfl
  ·rw[ax (bn rfl),ax (by rw[gX];simp only[fI,qz];omega)];rfl
  ·rw[aK (bD (by decide)),ax (bn rfl),ax (by rw[gX];simp only[fI,qz];omega),ax (by rw[gX];unfold dU;simp only[iH,fI,qz];omega)];rfl
  rw[aK (bD (by decide)),aK (bD (by decide)),ax (bn rfl),ax (by rw[gX];simp only[fI,qz];omega),ax (by rw[gX];unfold dU;simp only[iH,fI,qz];omega)];rfl
theorem LV (s:af) (k:Nat):dN s (k:Int) (aA s)=s.drop k:=by rw[aI,Ig];exact O9 (by rw[Tn];omega)
theorem Xf (s:af) (k:Nat):dN s 0 (k:Int)=s.take k:=by have:dN s ((0:Nat):Int) (k:Int)=(s.drop 0).take (k-0):=Ig s 0 k;rw[Yx,acB] at this;exact this
theorem ixA_cons (b:UInt8) (l:af):Mv (b::l) [60,62]=if b=60∨b=62 then 0 else if Mv l [60,62]= -1 then -1 else Mv l [60,62]+1:=by
 unfold Mv;rw[Lib.indexAny];have e:(List.contains [60,62] b=true)=(b=60∨b=62):=by simp
 simp only[e,iM]
theorem ixA_ge (l:af): -1≤Mv l [60,62]:=Lib.indexAny_ge _ _
theorem ixA_at: ∀(l:af),0≤Mv l [60,62]→Mv l [60,62]<l.length∧(l.getD (Mv l [60,62]).toNat 0=60∨l.getD (Mv l [60,62]).toNat 0=62)
 |[],h=>by exact absurd h (by decide)
 |b::l,h=>by
  have d:=ixA_at l;have g:=ixA_ge l;rw[ixA_cons] at*;split
  ·rename_i a
   exact⟨by rw[fI];omega,a⟩
  rename_i a;rw[if_neg a] at h;split
  ·rename_i e
   rw[if_pos e] at h;exact absurd h (by decide)
  obtain⟨f,c⟩:=d (by omega);refine⟨by rw[fI];omega,?_⟩;rw[show(Mv l [60,62]+1).toNat=(Mv l [60,62]).toNat+1 by omega,acv];exact c
def dsSg (s:af) (a:Nat):Int×Int×Int×Int:=
 if PL (s.drop (a+1)) [61]=true then(if Pz (s.take a)=0 then(if dyE (s.drop (a+2))=0 then(if s.getD a 0=60 then 3 else 2,wdI (s.take a),dyD (s.drop (a+2)),0) else(0,0,0,dyE (s.drop (a+2)))) else(0,0,0,Pz (s.take a))) else(0,0,0,4)
def dsNm (s:af):Int×Int×Int×Int:=if dyE s=0 then(0,0,dyD s,0) else(0,0,0,dyE s)
def dsLs (s:af):Int×Int×Int×Int:=if 4≤s.length∧smB (s.take 4) [108,97,115,116]=true then(if Pz (s.drop 4)=0 then(1,wdI (s.drop 4),0,0) else(0,0,0,Pz (s.drop 4))) else(0,0,0,4)
def dmB (c:UInt8):Bool:=c==45||(decide (48≤c.toNat)&&decide (c.toNat≤57))
def dsP (s:af):Int×Int×Int×Int:=
 if 0≤Mv s [60,62] then dsSg s (Mv s [60,62]).toNat else if s≠[]∧dmB (s.getD 0 0)=true then dsNm s else dsLs s
def D9 (p:Int×Int×Int×Int):V:=.tup [.agg [.int .i64 p.1,.int .i64 p.2.1,.int .i64 p.2.2.1],.int .i64 p.2.2.2]
theorem cpT_drop (s:af) (k:Nat) (h:PL (s.drop k) [61]=true):cpTd (s.drop k) [61]=s.drop (k+1):=by unfold cpTd Lib.trimPrefix;rw[if_pos (show Lib.hasPrefix (s.drop k) [61]=true from h),abE];rfl
theorem idx_dm (c:UInt8):av 0 (vw [45,48,49,50,51,52,53,54,55,56,57] ((c.toNat:Nat):Int))=dmB c:=by
 have h: ∀n:Fin 256,av 0 (vw [45,48,49,50,51,52,53,54,55,56,57] (((n:Nat)):Int))=dmB (UInt8.ofNat n):=by decide+kernel
 have:=h ⟨c.toNat,c.toNat_lt⟩;simpa using this
theorem NT (x:af) (e o:Int→Option V):sel (aL (ieq (nrW x) 0)) (e (nrW x)) (sel (aW (iG x) 1) (e 1) (sel (aW 31 (iG x)) (e 1) (o (iG x))))=if dyE x=0 then o (dyD x) else e (dyE x):=by
 unfold dyE dyD;by_cases h:nrW x=0
 ·rw[aK (by rw[bn h];rfl)]
  by_cases b:iG x<1
  ·have a:dyP x=(0,1):=by unfold dyP;rw[if_pos h,if_pos (show iG x<1∨31<iG x from .inl b)]
   rw[ax (bH b),a,if_neg (show¬(1:Int)=0 by decide)]
  rw[aK (bF (by omega))];by_cases c:31<iG x
  ·have a:dyP x=(0,1):=by unfold dyP;rw[if_pos h,if_pos (show iG x<1∨31<iG x from .inr c)]
   rw[ax (bH c),a,if_neg (show¬(1:Int)=0 by decide)]
  have a:dyP x=(iG x,0):=by unfold dyP;rw[if_pos h,if_neg (show¬(iG x<1∨31<iG x) by omega)]
  rw[aK (bF (by omega)),a,if_pos (show(0:Int)=0 from rfl)]
 have a:dyP x=(0,nrW x):=by unfold dyP;rw[if_neg h]
 rw[ax (by rw[bD h];rfl),a,if_neg h]
theorem ls_sel (s:af) (i:s.length≤1000):(sel (av 4 (aA s))
     (sel (ak (av 0 4) (av 4 (aA s)))
      (sel (ak (av (aA (dN s 0 4)) 1000) (av (aA [108,97,115,116]) 1000))
       (sel (smB (dN s 0 4) [108,97,115,116])
        (sel (ak (av 0 4) (av 4 (aA s)))
         (sel (av (aA (dN s 4 (aA s))) 1000)
          (sel (aL (ieq (Pz (dN s 4 (aA s))) 0))
           (some (V.tup [V.agg [V.int .i64 0,V.int .i64 0,V.int .i64 0],V.int .i64 (Pz (dN s 4 (aA s)))]))
           (some (V.tup [V.agg [V.int .i64 1,V.int .i64 (wdI (dN s 4 (aA s))),V.int .i64 0],V.int .i64 0])))
          none)
         none)
        (some (V.tup [V.agg [V.int .i64 0,V.int .i64 0,V.int .i64 0],V.int .i64 4])))
       none)
      none)
     (some (V.tup [V.agg [V.int .i64 0,V.int .i64 0,V.int .i64 0],V.int .i64 4])))=some (D9 (dsLs s)):=by
 have d:dN s 0 4=s.take 4:=Xf s 4;have f:dN s 4 (aA s)=s.drop 4:=LV s 4;rw[d,f];unfold dsLs;by_cases b:4≤s.length
 ·have c:ak (av 0 4) (av 4 (aA s))=true:=by rw[aM,aB,aB,aI];omega
  have g:(s.take 4).length≤1000:=by rw[JG];omega
  have l2:(s.drop 4).length≤1000:=by rw[Tn];omega
  rw[ax (bg (by rw[aI];omega)),ax c,ax (by rw[aM,aB,aI];exact⟨by omega,rfl⟩)];by_cases h:smB (s.take 4) [108,97,115,116]=true
  ·rw[ax h,ax c,ax (bg (by rw[aI];omega)),if_pos (show 4≤s.length∧smB (s.take 4) [108,97,115,116]=true from⟨b,h⟩)]
   by_cases a:Pz (s.drop 4)=0
   ·rw[aK (by rw[bn a];rfl),if_pos a];rfl
   rw[ax (by rw[bD a];rfl),if_neg a];rfl
  rw[aK (by simpa using h),if_neg (fun e=>h e.2)];rfl
 rw[aK (mr (by rw[aI];omega)),if_neg (fun e=>b e.1)];rfl
theorem dRead_ev (s:af) (u:s.length≤900):aj wE 132 [.str s] (D9 (dsP s)):=by
 refine au P8 dS2_ok 5 8 ?_;have j:av (aA s) 1000=true:=bg (by rw[aI];omega)
 (rw[ZS];(conv=>zeta);rw[ax (by rw[j];rfl)])
 unfold dsP;by_cases f:0≤Mv s [60,62]
 ·obtain⟨k,l⟩:=ixA_at s f
  obtain⟨a,p⟩: ∃a:Nat,Mv s [60,62]=(a:Int):=⟨(Mv s [60,62]).toNat,by omega⟩
  rw[p] at f k l⊢;rw[if_pos f,Kr];have m:bJ .i64 (a:Int) 1=((a+1:Nat):Int):=by rw[cZ (by omega)];omega
  rw[m,LV,Xf,ax (bg f),ax (show ak (av 0 ((a+1:Nat):Int)) (av ((a+1:Nat):Int) (aA s))=true by rw[aM,aB,aB,aI];omega),ax (show av (aA (s.drop (a+1))) 1000=true from bg (by rw[aI,Tn];omega))];unfold dsSg;by_cases d:PL (s.drop (a+1)) [61]=true
  ·rw[if_pos d,aK (show aL (PL (s.drop (a+1)) [61])=false by rw[d];rfl),cpT_drop s (a+1) d,ax (show ak (av 0 (a:Int)) (av (a:Int) (aA s))=true by rw[aM,aB,aB,aI];omega),ax (show av (aA (s.take a)) 1000=true from bg (by rw[aI,JG];omega))]
   by_cases g:Pz (s.take a)=0
   ·rw[aK (show aL (ieq (Pz (s.take a)) 0)=false by rw[bn g];rfl),if_pos g,ax (show ak (av 0 (a:Int)) (aW (a:Int) (aA s))=true by rw[aM,aB,bq,aI];omega)]
    have l2:av (aA (s.drop (a+1+1))) 1000=true:=bg (by rw[aI,Tn];omega);rw[l2,sat_nat];by_cases h:s.getD a 0=60
    ·rw[ax (show ieq ((s.getD a 0).toNat:Int) 60=true by rw[h];rfl),ax rfl]
     refine(NT (s.drop (a+2)) (fun n=>some (D9 (0,0,0,n))) (fun n=>some (D9 (3,wdI (s.take a),n,0)))).trans ?_;by_cases b:dyE (s.drop (a+2))=0
     ·rw[if_pos b,if_pos b,if_pos h]
     rw[if_neg b,if_neg b]
    have i:ieq ((s.getD a 0).toNat:Int) 60=false:=bD (fun e=>h (by rw[←acy];show(s.getD a 0).toNat=60;omega));rw[aK i,ax rfl];refine(NT (s.drop (a+2)) (fun n=>some (D9 (0,0,0,n))) (fun n=>some (D9 (2,wdI (s.take a),n,0)))).trans ?_;by_cases b:dyE (s.drop (a+2))=0
    ·rw[if_pos b,if_pos b,if_neg h]
    rw[if_neg b,if_neg b]
   rw[ax (show aL (ieq (Pz (s.take a)) 0)=true by rw[bD g];rfl),if_neg g];rfl
  rw[if_neg d,ax (show aL (PL (s.drop (a+1)) [61])=true by rw[bW];exact d)];rfl
 rw[if_neg f,aK (mr (by omega)),ls_sel s (by omega)]
 cases s with
 |nil=>rfl
 |cons c t=>
  have q:(c::t).getD 0 0=c:=rfl;have o:sat (c::t) 0=(c.toNat:Int):=rfl;rw[ax (show aL (seq (c::t) [])=true from rfl),ax (show ak (av 0 0) (aW 0 (aA (c::t)))=true by rw[aM,bq,aI];exact⟨rfl,by simp only[fI];omega⟩),o,q,idx_dm,j]
  cases r:dmB c with
  |true=>
   rw[ax rfl,ax rfl,if_pos ⟨by simp,rfl⟩];refine(NT (c::t) (fun n=>some (D9 (0,0,0,n))) (fun n=>some (D9 (0,0,n,0)))).trans ?_;unfold dsNm;by_cases b:dyE (c::t)=0
   ·rw[if_pos b,if_pos b]
   rw[if_neg b,if_neg b]
  |false=>rw[aK rfl,if_neg (fun e=>by cases e.2)]
def rz (s:af):Int:=(dsP s).1
def iL (s:af):Int:=(dsP s).2.1
def rA (s:af):Int:=(dsP s).2.2.1
def sZ (s:af):Int:=(dsP s).2.2.2
set_option maxRecDepth 100000 in
theorem ds_all: ∀(k:Fin 4) (w:Fin 7) (d:Fin 32),Mw (k:Nat) (w:Nat) (d:Nat)=true→dsP (dsT (k:Nat) (w:Nat) (d:Nat))=(((k:Nat):Int),((w:Nat):Int),((d:Nat):Int),0):=by decide+kernel
theorem Xg (k w d:Int) (h:Mw k w d=true):dsP (fF k w d)=(k,w,d,0):=by obtain⟨b,f,g,c,e,a⟩:=Ug h;have:=ds_all ⟨k.toNat,by omega⟩ ⟨w.toNat,by omega⟩ ⟨d.toNat,by omega⟩;simp only[show((k.toNat:Nat):Int)=k by omega,show((w.toNat:Nat):Int)=w by omega,show((d.toNat:Nat):Int)=d by omega] at this;unfold fF;rw[if_pos h];exact this h
theorem Bz (k w d : Int) : (fF k w d).length ≤ 100 := by
  unfold fF
  split
  · rename_i h
    obtain ⟨d0, d1, w0, w1, k0, k1⟩ := Ug h
    have hw := wt_len w
    have ht := Jj d ⟨d0, d1⟩
    unfold dsT
    repeat' split
    all_goals (try simp only [iH, fI, qz]
               omega)
  · simp
end Nt.Ev.YtknhlobahpgkeaaGreatDoor
