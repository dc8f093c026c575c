/-
  Words: equations of functions, as the evaluator prints them. Words: weekdays, and whether two texts are the same, for the evaluator, both sides.
-/
import Derived.Test.YtjcencojgajgdaaGreatDoorME
import Derived.Test.YtjcencojgajgdaaGreatDoorMD
set_option linter.all false
set_option maxRecDepth 100000
namespace Nt.Ev.YtjcencojgajgdaaGreatDoor
open Go Nt.Num Go.Proofs.YtjcencojgajgdaaGreatDoor
noncomputable def DT:V:=.rptr [.str,.str,.str,.str,.str,.str,.str] (.agg [.str [83,117,110,100,97,121],.str [77,111,110,100,97,121],.str [84,117,101,115,100,97,121],.str [87,101,100,110,101,115,100,97,121],.str [84,104,117,114,115,100,97,121],.str [70,114,105,100,97,121],.str [83,97,116,117,114,100,97,121]]) 0
noncomputable def wE:Env:=⟨Go.Proofs.Tryz.prog,fun g=>bif g==2 then some DT else none⟩
noncomputable def Yd:aD:=fun a=>match a with|[.str s,.sl e [.str] o ws]=>some (ak (ax (aB s) 1000) (uU ws),.tup [.int .i64 (mo s ws),.int .i64 (oU s ws)])|_=>none
noncomputable def wS:List (Nat×aD):=(70,Yd)::[]
theorem P8 (F s) (K:V→Option V):
 bE wE (bC wE wS F 2) F 200 [V.str s] K=
 let A:=[V.str [83,117,110,100,97,121],V.str [77,111,110,100,97,121],V.str [84,117,101,115,100,97,121],V.str [87,101,100,110,101,115,100,97,121],V.str [84,104,117,114,115,100,97,121],V.str [70,114,105,100,97,121],V.str [83,97,116,117,114,100,97,121]];sel (ak (ax (aB s) 1000) (uU A)) (K (V.tup [V.int .i64 (mo s A),V.int .i64 (oU s A)])) none:=by kernel_rfl
theorem V8 (F n) (K:V→Option V):
 bE wE (bC wE wS F 2) F 54 [V.int .i64 n] K=
 let A:=[V.str [83,117,110,100,97,121],V.str [77,111,110,100,97,121],V.str [84,117,101,115,100,97,121],V.str [87,101,100,110,101,115,100,97,121],V.str [84,104,117,114,115,100,97,121],V.str [70,114,105,100,97,121],V.str [83,97,116,117,114,100,97,121]];let B:=aF (ai (aG A n) 0);sel (aR n 0) (K (V.str [])) (sel (ax (ay A) n) (K (V.str [])) (sel (ak (ax 0 n) (aR n (ay A))) (sel (ak (ax 0 3) (ax 3 (aB B))) (K (V.str (dQ B 0 3))) none) none)):=by kernel_rfl
open Go.RowKit Nt
theorem QY:uQ wE:=⟨by kernel_rfl,by kernel_rfl⟩
theorem toW {f:Nat} {args:ah} {r:V} (h:aj nE f args r):aj wE f args r:=aj.env (E:=nE) rfl (fun n v h=>by cases h) h
theorem Ej {s:af} (h:ax (aB s) 1000=true):s.length≤1000:=by rw[aA,aJ] at h;omega
theorem V9 (s:af) (e:Nat) (o:Option Nat) (a:ah) (c:ak (ax (aB s) 1000) (uU a)=true):aj wE 70 [.str s,.sl e [.str] o a] (.tup [.int .i64 (mo s a),.int .i64 (oU s a)]):=by obtain⟨b,d⟩:=aN c;exact toW (I6 s e o a (Ej b) d)
theorem wS_ok:aZ wE wS:=by
 unfold wS;refine aZ.cons (fun args r h=>?_) aZ.nil;all_goals (revert h;intro h;first|unfold Yd at h)
 all_goals (split at h;rotate_left; · cases h)
 all_goals (simp only[aT,bP] at h;obtain⟨a,rfl⟩:=h)
 ·exact V9 _ _ _ _ a
theorem mt_lt (s:ByteArray) (a:List ByteArray) (h:(Words.mt s a).2=0):(Words.mt s a).1<a.length:=by
 unfold Words.mt at*;split at h
 ·cases h
 rename_i e;rw[if_neg e];split at h
 ·rename_i i b
  have:=ac0 b;exact List.mem_range.1 this
 rename_i b;split at h
 ·cases h
 rename_i f r c;split at h
 ·rename_i d
  rw[if_pos d];exact Words.IZ s a a.length f (by rw[c];exact rf)
 cases h
def wdV:ah:=[.str [83,117,110,100,97,121],.str [77,111,110,100,97,121],.str [84,117,101,115,100,97,121],.str [87,101,100,110,101,115,100,97,121],.str [84,104,117,114,115,100,97,121],.str [70,114,105,100,97,121],.str [83,97,116,117,114,100,97,121]]
def wdI (s:af):Int:=mo s wdV
def Qw (s:af):Int:=oU s wdV
theorem wdV_ok:uU wdV=true:=by decide
theorem TK (s:af) (a:s.length≤1000):aj wE 200 [.str s] (.tup [.int .i64 (wdI s),.int .i64 (Qw s)]):=by
 refine au QY wS_ok 5 2 ?_
 (rw[P8];(conv=>zeta);rw[av])
 ·rfl
 rw[aM];exact⟨bn (by rw[aJ];omega),wdV_ok⟩
def Qh (n:Int):af:=if 0≤n∧n≤6 then(aF (wdV.getD n.toNat .any)).take 3 else[]
theorem ad1 (n:Int):aj wE 54 [.int .i64 n] (.str (Qh n)):=by
 refine au QY wS_ok 5 2 ?_
 (rw[V8];(conv=>zeta))
 by_cases h:0≤n∧n≤6
 ·obtain rfl|rfl|rfl|rfl|rfl|rfl|rfl:n=0∨n=1∨n=2∨n=3∨n=4∨n=5∨n=6:=by omega
  all_goals rfl
 have e:Qh n=[]:=by unfold Qh;rw[if_neg h]
 rw[e];by_cases a:n<0
 ·rw[av (bu a)]
 rw[aI (bB (by omega)),av (bn (by rw[aC];show(7:Int)≤n;omega))]
def smB (a b:af):Bool:=Words.same ⟨a.toArray⟩ ⟨b.toArray⟩
theorem wSame_ev (a b:af) (h:a.length≤1000) (g:b.length≤1000):aj wE 96 [.str a,.str b] (.bool (smB a b)):=by
 refine bZ fun G w vs j i f=>?_
 obtain⟨x,y,rfl,d,c⟩:=iO f;unfold aV at d c;subst d;subst c;refine(C9 ⟨a.toArray⟩ ⟨b.toArray⟩ w (NS h) (NS g)).mono ?_;rintro e w' ⟨rfl,n,rfl⟩;exact⟨_,rfl,Nt.below_drewN (Below.refl _ _) _,RB _⟩
def QE (s p:af):Bool:=Lib.hasPrefix s p
def cpTd (s p:af):af:=Lib.trimPrefix s p
def Nl (s c:af):Int:=Lib.indexAny s c
def OP (l:af):Bool:=l.all fun c=>decide (c.toNat<128)
def Nn (k w d:Int):Bool:=if k=1 then decide (0≤w∧w≤6∧d=0) else if k=0 then decide (w=0∧1≤d∧d≤31) else decide ((k=2∨k=3)∧0≤w∧w≤6∧1≤d∧d≤31)
noncomputable def dCutS:aD:=fun a=>match a with|[.str s,.str p]=>some (ax (aB s) 1000,.tup [.str (cpTd s p),.bool (QE s p)])|_=>none
noncomputable def dAnyS:aD:=fun a=>match a with|[.str s,.str c]=>some (ak (ax (aB s) 1000) (ak (ak (ax 2 (aB c)) (ax (aB c) 1000)) (OP c)),.int .i64 (Nl s c))|_=>none
noncomputable def dByteS:aD:=fun a=>match a with|[.str s,.int .u8 c]=>some (true,.int .i64 (vv s c))|_=>none
noncomputable def Ye:aD:=fun a=>match a with|[.str s]=>some (ax (aB s) 1000,.tup [.int .i64 (iF s),.int .i64 (nrW s)])|_=>none
noncomputable def dTextS:aD:=fun a=>match a with|[.int .i64 n]=>some (ak (ax (-9223372036854775808) n) (ax n 9223372036854775807),.str (text n))|_=>none
noncomputable def dWdS:aD:=fun a=>match a with|[.str s]=>some (ax (aB s) 1000,.tup [.int .i64 (wdI s),.int .i64 (Qw s)])|_=>none
noncomputable def dWtS:aD:=fun a=>match a with|[.int .i64 n]=>some (true,.str (Qh n))|_=>none
noncomputable def dSmS:aD:=fun a=>match a with|[.str a,.str b]=>some (ak (ax (aB a) 1000) (ax (aB b) 1000),.bool (smB a b))|_=>none
noncomputable def dOnS:aD:=fun a=>match a with|[.agg [.int .i64 k,.int .i64 w,.int .i64 d]]=>some (true,.bool (Nn k w d))|_=>none
noncomputable def dS:List (Nat×aD):=(166,dCutS)::(102,dAnyS)::(63,dByteS)::(170,Ye)::(52,dTextS)::(200,dWdS)::(54,dWtS)::(96,dSmS)::[]
noncomputable def dS2:List (Nat×aD):=(53,dOnS)::dS
def dyP (s:af):Int×Int:=if nrW s=0 then(if iF s<1∨31<iF s then(0,1) else(iF s,0)) else(0,nrW s)
def dyD (s:af):Int:=(dyP s).1
def dyE (s:af):Int:=(dyP s).2
theorem Wd (F k w d) (K:V→Option V):
 bE wE (bC wE dS F 3) F 53 [V.agg [V.int .i64 k,V.int .i64 w,V.int .i64 d]] K=
 let A:=K (V.bool false);let B:=sel (ax 1 d) (K (V.bool (ax d 31))) A;sel (ieq k 1) (sel (ax 0 w) (sel (ax w 6) (K (V.bool (ieq d 0))) A) A) (sel (ieq k 0) (sel (ax 0 k) (sel (ax k 3) (sel (ax 0 w) (sel (ax w 0) B A) A) A) A) (sel (ax 0 k) (sel (ax k 3) (sel (ax 0 w) (sel (ax w 6) B A) A) A) A)):=by kernel_rfl
theorem ad2 (F k w d) (K:V→Option V):
 bE wE (bC wE dS2 F 3) F 33 [V.agg [V.int .i64 k,V.int .i64 w,V.int .i64 d]] K=
 let A:=V.int .i64 0;let B:=dZ (Qh w) [62,61];let C:=dZ (Qh w) [60,61];sel (aL (Nn k w d)) (K (V.tup [V.str [],V.int .i64 4])) (sel (ak (ax (-9223372036854775808) d) (ax d 9223372036854775807)) (sel (ieq k 1) (sel (fC [108,97,115,116] (Qh w)) (K (V.tup [V.str (dZ [108,97,115,116] (Qh w)),A])) none) (sel (ieq k 2) (sel (fC (Qh w) [62,61]) (sel (fC B (text d)) (K (V.tup [V.str (dZ B (text d)),A])) none) none) (sel (ieq k 3) (sel (fC (Qh w) [60,61]) (sel (fC C (text d)) (K (V.tup [V.str (dZ C (text d)),A])) none) none) (K (V.tup [V.str (text d),A]))))) none):=by kernel_rfl
theorem ad3 (F s) (K:V→Option V):
 bE wE (bC wE dS2 F 8) F 152 [V.str s] K=
 let D:=Nl s [60,62];let G:=V.int .i64 0;let J:=dQ s 4 (aB s);let N:=ak (ax 0 4) (ax 4 (aB s));let S:=ax (aB s) 1000;let A:=V.agg [G,G,G];let L:=dQ s 0 D;let O:=bg .i64 D 1;let E:=K (V.tup [A,V.int .i64 1]);let H:=dQ s O (aB s);let I:=K (V.tup [A,V.int .i64 4]);let Q:=V.int .i64 (wdI L);let B:=cpTd H [61];let C:=sel (ax 4 (aB s)) (sel N (sel (ak (ax (aB (dQ s 0 4)) 1000) (ax (aB [108,97,115,116]) 1000)) (sel (smB (dQ s 0 4) [108,97,115,116]) (sel N (sel (ax (aB J) 1000) (sel (aL (ieq (Qw J) 0)) (K (V.tup [A,V.int .i64 (Qw J)])) (K (V.tup [V.agg [V.int .i64 1,V.int .i64 (wdI J),G],G]))) none) none) I) none) none) I;let M:=K (V.tup [A,V.int .i64 (nrW B)]);let P:=aL (ieq (nrW B) 0);let R:=V.int .i64 (iF B);let T:=ax (aB B) 1000;sel (ak S (ak (ak (ax 2 (aB [60,62])) (ax (aB [60,62]) 1000)) (OP [60,62]))) (sel (ax 0 D) (sel (ak (ax 0 O) (ax O (aB s))) (sel (ax (aB H) 1000) (sel (aL (QE H [61])) I (sel (ak (ax 0 D) (ax D (aB s))) (sel (ax (aB L) 1000) (sel (aL (ieq (Qw L) 0)) (K (V.tup [A,V.int .i64 (Qw L)])) (sel (ak (ax 0 D) (aR D (aB s))) (sel (ieq (sat s D) 60) (sel T (sel P M (sel (aR (iF B) 1) E (sel (aR 31 (iF B)) E (K (V.tup [V.agg [V.int .i64 3,Q,R],G]))))) none) (sel T (sel P M (sel (aR (iF B) 1) E (sel (aR 31 (iF B)) E (K (V.tup [V.agg [V.int .i64 2,Q,R],G]))))) none)) none)) none) none)) none) none) (sel (aL (seq s [])) (sel (ak (ax 0 0) (aR 0 (aB s))) (sel (ax 0 (vv [45,48,49,50,51,52,53,54,55,56,57] (sat s 0))) (sel S (sel (aL (ieq (nrW s) 0)) (K (V.tup [A,V.int .i64 (nrW s)])) (sel (aR (iF s) 1) E (sel (aR 31 (iF s)) E (K (V.tup [V.agg [G,G,V.int .i64 (iF s)],G]))))) none) C) none) C)) none:=by kernel_rfl
theorem dCutS_ok (s p:af) (g:ax (aB s) 1000=true):aj wE 166 [.str s,.str p] (.tup [.str (cpTd s p),.bool (QE s p)]):=by
 refine bZ fun G w vs f d c=>?_
 obtain⟨x,y,rfl,b,a⟩:=iO c;unfold aV at b a;subst b;subst a;refine(Go.Proofs.Tryz.strings_CutPrefix ⟨s.toArray⟩ ⟨p.toArray⟩ w).mono ?_;rintro e w' ⟨rfl,rfl⟩;exact⟨_,rfl,Below.refl _ _,OL (I4 _) (Mx _)⟩
theorem dAnyS_ok (s c:af) (l:ak (ax (aB s) 1000) (ak (ak (ax 2 (aB c)) (ax (aB c) 1000)) (OP c))=true):aj wE 102 [.str s,.str c] (.int .i64 (Nl s c)):=by
 obtain⟨j,a⟩:=aN l;obtain⟨a,d⟩:=aN a;obtain⟨a,i⟩:=aN a;have j:=Ej j;have i:=Ej i;rw[aA,aJ] at a;refine bZ fun G w vs n m k=>?_
 obtain⟨x,y,rfl,h,g⟩:=iO k;unfold aV at h g;subst h;subst g;refine(Nt.AnyS.My Go.Proofs.Tryz.OM (by kernel_rfl) ⟨s.toArray⟩ ⟨c.toArray⟩ w (by rw[xg];omega) (by rw[xg];omega) (by rw[xg];omega) (fun b f=>?_)).mono ?_
 ·have d:(c.all fun c=>decide (c.toNat<128))=true:=d
  exact FY (List.all_eq_true.1 d b f)
 rintro e w' ⟨rfl,f⟩;exact⟨_,rfl,f,qJ _ _⟩
theorem ad4 (s:af) (c:Int) (a:true=true):aj wE 63 [.str s,.int .u8 c] (.int .i64 (vv s c)):=toW (idx_c s c)
theorem Wh (s:af) (a:ax (aB s) 1000=true):aj wE 170 [.str s] (.tup [.int .i64 (iF s),.int .i64 (nrW s)]):=toW (OO s (Ej a))
theorem fits_w {m:Int} (h:ak (ax (-9223372036854775808) m) (ax m 9223372036854775807)=true):Fits m:=by rw[aM,aA,aA] at h;exact h
theorem ad5 (m:Int) (a:ak (ax (-9223372036854775808) m) (ax m 9223372036854775807)=true):aj wE 52 [.int .i64 m] (.str (text m)):=toW (BA m (fits_w a))
theorem dWdS_ok (s:af) (a:ax (aB s) 1000=true):aj wE 200 [.str s] (.tup [.int .i64 (wdI s),.int .i64 (Qw s)]):=TK s (Ej a)
theorem dWtS_ok (n:Int) (a:true=true):aj wE 54 [.int .i64 n] (.str (Qh n)):=ad1 n
theorem dSmS_ok (a b:af) (c:ak (ax (aB a) 1000) (ax (aB b) 1000)=true):aj wE 96 [.str a,.str b] (.bool (smB a b)):=wSame_ev a b (Ej (aN c).1) (Ej (aN c).2)
theorem dS_ok:aZ wE dS:=by
 unfold dS;refine aZ.cons (fun args r h=>?_) (aZ.cons (fun args r h=>?_) (aZ.cons (fun args r h=>?_) (aZ.cons (fun args r h=>?_) (aZ.cons (fun args r h=>?_) (aZ.cons (fun args r h=>?_) (aZ.cons (fun args r h=>?_) (aZ.cons (fun args r h=>?_) aZ.nil)))))));all_goals (revert h;intro h;first|unfold dCutS at h|unfold dAnyS at h|unfold dByteS at h|unfold Ye at h|unfold dTextS at h|unfold dWdS at h|unfold dWtS at h|unfold dSmS at h)
 all_goals (split at h;rotate_left; · cases h)
 all_goals (simp only[aT,bP] at h;obtain⟨a,rfl⟩:=h)
 ·exact dCutS_ok _ _ a
 ·exact dAnyS_ok _ _ a
 ·exact ad4 _ _ rfl
 ·exact Wh _ a
 ·exact ad5 _ a
 ·exact dWdS_ok _ a
 ·exact dWtS_ok _ rfl
 exact dSmS_ok _ _ a
theorem MC (k w d:Int):aj wE 53 [.agg [.int .i64 k,.int .i64 w,.int .i64 d]] (.bool (Nn k w d)):=by
 refine au QY dS_ok 5 3 ?_
 (rw[Wd];(conv=>zeta))
 unfold Nn;simp only[bM,aO,aA];repeat' split
 all_goals first
  |(rw[uP (by omega)];done)
  |(exfalso;omega)
  |(congr 2;unfold ax;rw[uF];simp;omega)
  |(congr 2;unfold ieq;rw[uF];simp;omega)
theorem dOnS_ok (k w d:Int) (a:true=true):aj wE 53 [.agg [.int .i64 k,.int .i64 w,.int .i64 d]] (.bool (Nn k w d)):=MC k w d
theorem dS2_ok:aZ wE dS2:=by
 unfold dS2;refine aZ.cons (fun args r h=>?_) dS_ok;all_goals (revert h;intro h;first|unfold dOnS at h)
 all_goals (split at h;rotate_left; · cases h)
 all_goals (simp only[aT,bP] at h;obtain⟨a,rfl⟩:=h)
 ·exact dOnS_ok _ _ _ rfl
def dsT (k w d:Int):af:=if k=1 then[108,97,115,116]++Qh w else if k=2 then Qh w++[62,61]++text d else if k=3 then Qh w++[60,61]++text d else text d
def fI (k w d:Int):af:=if Nn k w d=true then dsT k w d else[]
def dsTe (k w d:Int):Int:=if Nn k w d=true then 0 else 4
theorem U8 {k w d:Int} (h:Nn k w d=true):0≤d∧d≤31∧0≤w∧w≤6∧0≤k∧k≤3:=by
 unfold Nn at h;repeat' split at h
 all_goals (rw[lK] at h;omega)
theorem wt_len (n:Int):(Qh n).length≤3:=by
 unfold Qh;split
 ·rw[Kc];omega
 simp
theorem JO (d:Int) (h:0≤d∧d≤31):(text d).length≤40:=by have:=(vX d (by unfold Fits;omega)).1;omega
theorem dText_ev (k w d:Int):aj wE 33 [.agg [.int .i64 k,.int .i64 w,.int .i64 d]] (.tup [.str (fI k w d),.int .i64 (dsTe k w d)]):=by
 refine au QY dS2_ok 5 3 ?_
 (rw[ad2];(conv=>zeta))
 unfold fI dsTe
 cases h:Nn k w d with
 |false=>rfl
 |true=>
  obtain⟨a,b,i,f,g,e⟩:=U8 h;have c:=wt_len w;have j:=JO d ⟨a,b⟩;rw[aI (by rfl),av (by rw[aM,aA,aA];omega),if_pos rfl,if_pos rfl];unfold dsT;obtain rfl|rfl|rfl|rfl:k=0∨k=1∨k=2∨k=3:=by omega
  ·rfl
  ·rw[av (bA rfl),av (by rw[gV];simp only[dN,mr];omega)];rfl
  ·rw[aI (bH (by decide)),av (bA rfl),av (by rw[gV];simp only[dN,mr];omega),av (by rw[gV];unfold dZ;simp only[iW,dN,mr];omega)];rfl
  rw[aI (bH (by decide)),aI (bH (by decide)),av (bA rfl),av (by rw[gV];simp only[dN,mr];omega),av (by rw[gV];unfold dZ;simp only[iW,dN,mr];omega)];rfl
theorem ME (s:af) (k:Nat):dQ s (k:Int) (aB s)=s.drop k:=by rw[aJ,IY];exact Qe (by rw[Ui];omega)
theorem Yf (s:af) (k:Nat):dQ s 0 (k:Int)=s.take k:=by have:dQ s ((0:Nat):Int) (k:Int)=(s.drop 0).take (k-0):=IY s 0 k;rw[WX,acy] at this;exact this
theorem ixA_cons (b:UInt8) (l:af):Nl (b::l) [60,62]=if b=60∨b=62 then 0 else if Nl l [60,62]= -1 then -1 else Nl l [60,62]+1:=by
 unfold Nl;rw[Lib.indexAny];have e:(List.contains [60,62] b=true)=(b=60∨b=62):=by simp
 simp only[e,iJ]
theorem ixA_ge (l:af): -1≤Nl l [60,62]:=Lib.indexAny_ge _ _
theorem ixA_at: ∀(l:af),0≤Nl l [60,62]→Nl l [60,62]<l.length∧(l.getD (Nl l [60,62]).toNat 0=60∨l.getD (Nl l [60,62]).toNat 0=62)
 |[],h=>by exact absurd h (by decide)
 |b::l,h=>by
  have d:=ixA_at l;have g:=ixA_ge l;rw[ixA_cons] at*;split
  ·rename_i a
   exact⟨by rw[dN];omega,a⟩
  rename_i a;rw[if_neg a] at h;split
  ·rename_i e
   rw[if_pos e] at h;exact absurd h (by decide)
  obtain⟨f,c⟩:=d (by omega);refine⟨by rw[dN];omega,?_⟩;rw[show(Nl l [60,62]+1).toNat=(Nl l [60,62]).toNat+1 by omega,acw];exact c
def dsSg (s:af) (a:Nat):Int×Int×Int×Int:=
 if QE (s.drop (a+1)) [61]=true then(if Qw (s.take a)=0 then(if dyE (s.drop (a+2))=0 then(if s.getD a 0=60 then 3 else 2,wdI (s.take a),dyD (s.drop (a+2)),0) else(0,0,0,dyE (s.drop (a+2)))) else(0,0,0,Qw (s.take a))) else(0,0,0,4)
def dsNm (s:af):Int×Int×Int×Int:=if dyE s=0 then(0,0,dyD s,0) else(0,0,0,dyE s)
def dsLs (s:af):Int×Int×Int×Int:=if 4≤s.length∧smB (s.take 4) [108,97,115,116]=true then(if Qw (s.drop 4)=0 then(1,wdI (s.drop 4),0,0) else(0,0,0,Qw (s.drop 4))) else(0,0,0,4)
def dmB (c:UInt8):Bool:=c==45||(decide (48≤c.toNat)&&decide (c.toNat≤57))
def dsP (s:af):Int×Int×Int×Int:=
 if 0≤Nl s [60,62] then dsSg s (Nl s [60,62]).toNat else if s≠[]∧dmB (s.getD 0 0)=true then dsNm s else dsLs s
def El (p:Int×Int×Int×Int):V:=.tup [.agg [.int .i64 p.1,.int .i64 p.2.1,.int .i64 p.2.2.1],.int .i64 p.2.2.2]
theorem cpT_drop (s:af) (k:Nat) (h:QE (s.drop k) [61]=true):cpTd (s.drop k) [61]=s.drop (k+1):=by unfold cpTd Lib.trimPrefix;rw[if_pos (show Lib.hasPrefix (s.drop k) [61]=true from h),Zz];rfl
theorem idx_dm (c:UInt8):ax 0 (vv [45,48,49,50,51,52,53,54,55,56,57] ((c.toNat:Nat):Int))=dmB c:=by
 have h: ∀n:Fin 256,ax 0 (vv [45,48,49,50,51,52,53,54,55,56,57] (((n:Nat)):Int))=dmB (UInt8.ofNat n):=by decide+kernel
 have:=h ⟨c.toNat,c.toNat_lt⟩;simpa using this
theorem OQ (x:af) (e o:Int→Option V):sel (aL (ieq (nrW x) 0)) (e (nrW x)) (sel (aR (iF x) 1) (e 1) (sel (aR 31 (iF x)) (e 1) (o (iF x))))=if dyE x=0 then o (dyD x) else e (dyE x):=by
 unfold dyE dyD;by_cases h:nrW x=0
 ·rw[aI (by rw[bA h];rfl)]
  by_cases b:iF x<1
  ·have a:dyP x=(0,1):=by unfold dyP;rw[if_pos h,if_pos (show iF x<1∨31<iF x from .inl b)]
   rw[av (bu b),a,if_neg (show¬(1:Int)=0 by decide)]
  rw[aI (bB (by omega))];by_cases c:31<iF x
  ·have a:dyP x=(0,1):=by unfold dyP;rw[if_pos h,if_pos (show iF x<1∨31<iF x from .inr c)]
   rw[av (bu c),a,if_neg (show¬(1:Int)=0 by decide)]
  have a:dyP x=(iF x,0):=by unfold dyP;rw[if_pos h,if_neg (show¬(iF x<1∨31<iF x) by omega)]
  rw[aI (bB (by omega)),a,if_pos (show(0:Int)=0 from rfl)]
 have a:dyP x=(0,nrW x):=by unfold dyP;rw[if_neg h]
 rw[av (by rw[bH h];rfl),a,if_neg h]
theorem ls_sel (s:af) (i:s.length≤1000):(sel (ax 4 (aB s))
     (sel (ak (ax 0 4) (ax 4 (aB s)))
      (sel (ak (ax (aB (dQ s 0 4)) 1000) (ax (aB [108,97,115,116]) 1000))
       (sel (smB (dQ s 0 4) [108,97,115,116])
        (sel (ak (ax 0 4) (ax 4 (aB s)))
         (sel (ax (aB (dQ s 4 (aB s))) 1000)
          (sel (aL (ieq (Qw (dQ s 4 (aB s))) 0))
           (some (V.tup [V.agg [V.int .i64 0,V.int .i64 0,V.int .i64 0],V.int .i64 (Qw (dQ s 4 (aB s)))]))
           (some (V.tup [V.agg [V.int .i64 1,V.int .i64 (wdI (dQ s 4 (aB s))),V.int .i64 0],V.int .i64 0])))
          none)
         none)
        (some (V.tup [V.agg [V.int .i64 0,V.int .i64 0,V.int .i64 0],V.int .i64 4])))
       none)
      none)
     (some (V.tup [V.agg [V.int .i64 0,V.int .i64 0,V.int .i64 0],V.int .i64 4])))=some (El (dsLs s)):=by
 have d:dQ s 0 4=s.take 4:=Yf s 4;have f:dQ s 4 (aB s)=s.drop 4:=ME s 4;rw[d,f];unfold dsLs;by_cases b:4≤s.length
 ·have c:ak (ax 0 4) (ax 4 (aB s))=true:=by rw[aM,aA,aA,aJ];omega
  have g:(s.take 4).length≤1000:=by rw[Kc];omega
  have l2:(s.drop 4).length≤1000:=by rw[Ui];omega
  rw[av (bn (by rw[aJ];omega)),av c,av (by rw[aM,aA,aJ];exact⟨by omega,rfl⟩)];by_cases h:smB (s.take 4) [108,97,115,116]=true
  ·rw[av h,av c,av (bn (by rw[aJ];omega)),if_pos (show 4≤s.length∧smB (s.take 4) [108,97,115,116]=true from⟨b,h⟩)]
   by_cases a:Qw (s.drop 4)=0
   ·rw[aI (by rw[bA a];rfl),if_pos a];rfl
   rw[av (by rw[bH a];rfl),if_neg a];rfl
  rw[aI (by simpa using h),if_neg (fun e=>h e.2)];rfl
 rw[aI (nA (by rw[aJ];omega)),if_neg (fun e=>b e.1)];rfl
theorem dRead_ev (s:af) (u:s.length≤900):aj wE 152 [.str s] (El (dsP s)):=by
 refine au QY dS2_ok 5 8 ?_;have j:ax (aB s) 1000=true:=bn (by rw[aJ];omega)
 (rw[ad3];(conv=>zeta);rw[av (by rw[j];rfl)])
 unfold dsP;by_cases f:0≤Nl s [60,62]
 ·obtain⟨k,l⟩:=ixA_at s f
  obtain⟨a,p⟩: ∃a:Nat,Nl s [60,62]=(a:Int):=⟨(Nl s [60,62]).toNat,by omega⟩
  rw[p] at f k l⊢;rw[if_pos f,K7];have m:bg .i64 (a:Int) 1=((a+1:Nat):Int):=by rw[cr (by omega)];omega
  rw[m,ME,Yf,av (bn f),av (show ak (ax 0 ((a+1:Nat):Int)) (ax ((a+1:Nat):Int) (aB s))=true by rw[aM,aA,aA,aJ];omega),av (show ax (aB (s.drop (a+1))) 1000=true from bn (by rw[aJ,Ui];omega))];unfold dsSg;by_cases d:QE (s.drop (a+1)) [61]=true
  ·rw[if_pos d,aI (show aL (QE (s.drop (a+1)) [61])=false by rw[d];rfl),cpT_drop s (a+1) d,av (show ak (ax 0 (a:Int)) (ax (a:Int) (aB s))=true by rw[aM,aA,aA,aJ];omega),av (show ax (aB (s.take a)) 1000=true from bn (by rw[aJ,Kc];omega))]
   by_cases g:Qw (s.take a)=0
   ·rw[aI (show aL (ieq (Qw (s.take a)) 0)=false by rw[bA g];rfl),if_pos g,av (show ak (ax 0 (a:Int)) (aR (a:Int) (aB s))=true by rw[aM,aA,bq,aJ];omega)]
    have l2:ax (aB (s.drop (a+1+1))) 1000=true:=bn (by rw[aJ,Ui];omega);rw[l2,sat_nat];by_cases h:s.getD a 0=60
    ·rw[av (show ieq ((s.getD a 0).toNat:Int) 60=true by rw[h];rfl),av rfl]
     refine(OQ (s.drop (a+2)) (fun n=>some (El (0,0,0,n))) (fun n=>some (El (3,wdI (s.take a),n,0)))).trans ?_;by_cases b:dyE (s.drop (a+2))=0
     ·rw[if_pos b,if_pos b,if_pos h]
     rw[if_neg b,if_neg b]
    have i:ieq ((s.getD a 0).toNat:Int) 60=false:=bH (fun e=>h (by rw[←acA];show(s.getD a 0).toNat=60;omega));rw[aI i,av rfl];refine(OQ (s.drop (a+2)) (fun n=>some (El (0,0,0,n))) (fun n=>some (El (2,wdI (s.take a),n,0)))).trans ?_;by_cases b:dyE (s.drop (a+2))=0
    ·rw[if_pos b,if_pos b,if_neg h]
    rw[if_neg b,if_neg b]
   rw[av (show aL (ieq (Qw (s.take a)) 0)=true by rw[bH g];rfl),if_neg g];rfl
  rw[if_neg d,av (show aL (QE (s.drop (a+1)) [61])=true by rw[bY];exact d)];rfl
 rw[if_neg f,aI (nA (by omega)),ls_sel s (by omega)]
 cases s with
 |nil=>rfl
 |cons c t=>
  have q:(c::t).getD 0 0=c:=rfl;have o:sat (c::t) 0=(c.toNat:Int):=rfl;rw[av (show aL (seq (c::t) [])=true from rfl),av (show ak (ax 0 0) (aR 0 (aB (c::t)))=true by rw[aM,bq,aJ];exact⟨rfl,by simp only[dN];omega⟩),o,q,idx_dm,j]
  cases r:dmB c with
  |true=>
   rw[av rfl,av rfl,if_pos ⟨by simp,rfl⟩];refine(OQ (c::t) (fun n=>some (El (0,0,0,n))) (fun n=>some (El (0,0,n,0)))).trans ?_;unfold dsNm;by_cases b:dyE (c::t)=0
   ·rw[if_pos b,if_pos b]
   rw[if_neg b,if_neg b]
  |false=>rw[aI rfl,if_neg (fun e=>by cases e.2)]
def rq (s:af):Int:=(dsP s).1
def iL (s:af):Int:=(dsP s).2.1
def ru (s:af):Int:=(dsP s).2.2.1
def sU (s:af):Int:=(dsP s).2.2.2
set_option maxRecDepth 100000 in
theorem ds_all: ∀(k:Fin 4) (w:Fin 7) (d:Fin 32),Nn (k:Nat) (w:Nat) (d:Nat)=true→dsP (dsT (k:Nat) (w:Nat) (d:Nat))=(((k:Nat):Int),((w:Nat):Int),((d:Nat):Int),0):=by decide+kernel
theorem Yg (k w d:Int) (h:Nn k w d=true):dsP (fI k w d)=(k,w,d,0):=by obtain⟨b,f,g,c,e,a⟩:=U8 h;have:=ds_all ⟨k.toNat,by omega⟩ ⟨w.toNat,by omega⟩ ⟨d.toNat,by omega⟩;simp only[show((k.toNat:Nat):Int)=k by omega,show((w.toNat:Nat):Int)=w by omega,show((d.toNat:Nat):Int)=d by omega] at this;unfold fI;rw[if_pos h];exact this h
theorem BB (k w d : Int) : (fI k w d).length ≤ 100 := by
  unfold fI
  split
  · rename_i h
    obtain ⟨d0, d1, w0, w1, k0, k1⟩ := U8 h
    have hw := wt_len w
    have ht := JO d ⟨d0, d1⟩
    unfold dsT
    repeat' split
    all_goals (try simp only [iW, dN, mr]
               omega)
  · simp
end Nt.Ev.YtjcencojgajgdaaGreatDoor
