/-
  The plain law of formats: what is a name, where it is cut, which kind it is.
-/
import Derived.Lib.IndexMore
import Derived.Test.YtjcencojgajgdaaGreatDoorME
set_option linter.all false
set_option maxRecDepth 100000
namespace Nt.Lb
open Go
def kz (c:UInt8):Bool:=decide ((65≤c.toNat∧c.toNat≤90)∨(97≤c.toNat∧c.toNat≤122)∨(48≤c.toNat∧c.toNat≤57)∨c.toNat=43∨c.toNat=45)
def dw (s:af):Bool:=s.all kz
def rT (s w:af):af→Int×af×af
 |[]=>if w=[] then(0,[],[]) else(1,s,[])
 |c::t=>
  if c=37 then
   match t with
   |[]=>(0,[],[])
   |x::b=>if x=115 then(if dw b=true then(2,w,b) else(0,[],[])) else if x=122∧b=[]∧w=[] then(3,[],[]) else(0,[],[])
  else if c=47 then(if w≠[]∧t≠[]∧dw t=true then(4,w,t) else(0,[],[])) else(0,[],[])
def En (s:af):Int×af×af:=rT s (s.takeWhile kz) (s.dropWhile kz)
theorem zX: ∀s:af,s=s.takeWhile kz++s.dropWhile kz∧dw (s.takeWhile kz)=true∧(s.dropWhile kz=[]∨ ∃c t,s.dropWhile kz=c::t∧kz c=false)
 |[]=>⟨rfl,rfl,.inl rfl⟩
 |c::l=>by
  obtain⟨d,b,e⟩:=zX l
  cases a:kz c with
  |true=>rw[abh,abm,a];simp only[if_true];refine⟨by rw[Nj,←d],?_,e⟩;unfold dw at b⊢;rw[K8,a,b];rfl
  |false=>rw[abh,abm,a];simp only[GU,CK];exact⟨rfl,rfl,.inr ⟨c,l,rfl,a⟩⟩
theorem parts_of (w r:af) (b:dw w=true) (f:r=[]∨ ∃c t,r=c::t∧kz c=false):(w++r).takeWhile kz=w∧(w++r).dropWhile kz=r:=by
 induction w with
 |nil=>
  rcases f with rfl|⟨c,t,rfl,h⟩
  ·exact⟨rfl,rfl⟩
  simp[abh,abm,h]
 |cons a w e=>unfold dw at b;rw[K8,bF] at b;obtain⟨d,g⟩:=e b.2;rw[Nj,abh,abm,b.1,d,g];simp
theorem O7 (w r:af) (a:dw w=true) (d:r=[]∨ ∃c t,r=c::t∧kz c=false):En (w++r)=rT (w++r) w r:=by unfold En;obtain⟨e,b⟩:=parts_of w r a d;rw[e,b]
theorem vY {w:af} (h:dw w=true) {c:UInt8} (a:c∈w):kz c=true:=List.all_eq_true.1 h c a
theorem word_app (a b:af):dw (a++b)=(dw a&&dw b):=by unfold dw;rw[adb]
theorem R3 (w r:af) (x:UInt8) (c:af) (q:dw w=true) (t:kz x=false):
  (∃b,r=x::c++b∧Lib.cut (w++r) (x::c)=(w,b,true))∨
  ((x::c).isPrefixOf r=false∧(Lib.cut (w++r) (x::c)=(w++r,[],false)∨ ∃a b,Lib.cut (w++r) (x::c)=(a,b,true)∧w.length<a.length∧a<+:w++r)):=by
 have d: ∀j,j<w.length→Lib.occAt (w++r) (x::c) j=false:=by
  intro j o;unfold Lib.occAt;rw[List.drop_append_of_le_length (by omega),abg o,Nj,List.isPrefixOf];have:(x==w[j])=false:=by
   rw[uD];intro e;have:=vY q (GV o);rw[←e,t] at this
   cases this
  rw[this];rfl
 by_cases f:(x::c).isPrefixOf r=true
 ·left
  rw[List.isPrefixOf_iff_prefix] at f;obtain⟨b,k⟩:=f;refine⟨b,k.symm,?_⟩;have s:Lib.index (w++r) (x::c)=(w.length:Nat):=Lib.index_first (by simp) (by unfold Lib.occAt;rw[ac1,List.isPrefixOf_iff_prefix];exact⟨b,k⟩) d;unfold Lib.cut;rw[s,if_pos (by omega),K7,abN,←Zz,ac1,←k,ac1]
 right
 have f:(x::c).isPrefixOf r=false:=Bool.eq_false_iff.2 f;refine⟨f,?_⟩;rcases Lib.index_spec (w++r) (x::c) with⟨n,_⟩|⟨i,n,u,g,_⟩
 ·left
  unfold Lib.cut;rw[n,if_neg (by decide)]
 right
 have p:w.length<i:=by
  rcases Nat.lt_trichotomy i w.length with h|l|m
  ·rw[d i h] at g;cases g
  ·subst l
   unfold Lib.occAt at g;rw[ac1,f] at g;cases g
  exact m
 refine⟨(w++r).take i,(w++r).drop (i+(x::c).length),?_,?_,List.take_prefix _ _⟩
 ·unfold Lib.cut
  rw[n,if_pos (by omega),K7]
 rw[Kc];omega
theorem MP (w r a:af) (i:r=[]∨ ∃c t,r=c::t∧kz c=false) (h:w.length<a.length) (f:a<+:w++r):dw a=false:=by
 obtain⟨t,d⟩:=f;have b:=congrArg List.length d;rw[iW,iW] at b;rcases i with rfl|⟨c,k,rfl,j⟩
 ·simp at b;omega
 have e:(a++t)[w.length]? =some c:=by rw[d];simp
 rw[abA h] at e
 cases g:dw a with
 |false=>rfl
 |true=>have:=vY g (GR e);rw[j] at this;cases this
def oD (s c:af):af:=(Lib.cut s c).1
def qx (s c:af):af:=(Lib.cut s c).2.1
def o5 (s c:af):Bool:=(Lib.cut s c).2.2
def slash (s:af):Prop:=o5 s [47]=true∧oD s [47]≠[]∧qx s [47]≠[]∧dw (oD s [47])=true∧dw (qx s [47])=true
def perc (s:af):Prop:=o5 s [37,115]=true∧dw (oD s [37,115])=true∧dw (qx s [37,115])=true
instance (s):Decidable (slash s):=inferInstanceAs (Decidable (_∧_))
instance (s):Decidable (perc s):=inferInstanceAs (Decidable (_∧_))
def kindP (s : af) : Int × af × af :=
  if s = [37, 122] then (3, [], []) else if perc s then (2, oD s [37, 115], qx s [37, 115]) else if slash s then (4, oD s [47], qx s [47]) else if s ≠ [] ∧ dw s = true then (1, s, []) else (0, [], [])
theorem perc_iff (w r:af) (j:dw w=true) (n:r=[]∨ ∃c t,r=c::t∧kz c=false):
  (∃b,r=37::115::b∧dw b=true∧perc (w++r)∧oD (w++r) [37,115]=w∧qx (w++r) [37,115]=b)∨(¬perc (w++r)∧ ∀b,r=37::115::b→dw b=false):=by
 rcases R3 w r 37 [115] j (by decide) with⟨b,rfl,d⟩|⟨k,d⟩
 ·have l:oD (w++(37::[115]++b)) [37,115]=w:=by unfold oD;rw[d]
  have f:qx (w++(37::[115]++b)) [37,115]=b:=by unfold qx;rw[d]
  have o:o5 (w++(37::[115]++b)) [37,115]=true:=by unfold o5;rw[d]
  cases i:dw b with
  |true=>exact .inl ⟨b,rfl,i,⟨o,by rw[l];exact j,by rw[f];exact i⟩,l,f⟩
  |false=>
   refine .inr ⟨fun h=>?_,fun p e=>?_⟩
   ·have:=h.2.2
    rw[f,i] at this;cases this
   simp at e;rw[←e];exact i
 refine .inr ⟨fun h=>?_,fun b e=>?_⟩
 ·rcases d with d|⟨a,b,d,m,g⟩
  ·have:=h.1;unfold o5 at this;rw[d] at this;cases this
  have f:=h.2.1;unfold oD at f;rw[d] at f;rw[MP w r a n m g] at f;cases f
 rw[e] at k;simp[List.isPrefixOf] at k
theorem aeC (w r:af) (l:dw w=true) (q:r=[]∨ ∃c t,r=c::t∧kz c=false):
  (∃b,r=47::b∧b≠[]∧w≠[]∧dw b=true∧slash (w++r)∧oD (w++r) [47]=w∧qx (w++r) [47]=b)∨(¬slash (w++r)∧ ∀b,r=47::b→ ¬(w≠[]∧b≠[]∧dw b=true)):=by
 rcases R3 w r 47 [] l (by decide) with⟨b,rfl,f⟩|⟨m,f⟩
 ·have j:oD (w++(47::[]++b)) [47]=w:=by unfold oD;rw[f]
  have d:qx (w++(47::[]++b)) [47]=b:=by unfold qx;rw[f]
  have s:o5 (w++(47::[]++b)) [47]=true:=by unfold o5;rw[f]
  by_cases g:w≠[]∧b≠[]∧dw b=true
  ·exact .inl ⟨b,rfl,g.2.1,g.1,g.2.2,⟨s,by rw[j];exact g.1,by rw[d];exact g.2.1,by rw[j];exact l,by rw[d];exact g.2.2⟩,j,d⟩
  refine .inr ⟨fun h=>g ?_,fun u e=>?_⟩
  ·obtain⟨_,k,n,_,o⟩:=h
   rw[j] at k;rw[d] at n o;exact⟨k,n,o⟩
  simp at e;rw[←e];exact g
 refine .inr ⟨fun h=>?_,fun b e=>?_⟩
 ·rcases f with f|⟨a,b,f,p,i⟩
  ·have:=h.1;unfold o5 at this;rw[f] at this;cases this
  have d:=h.2.2.2.1;unfold oD at d;rw[f] at d;rw[MP w r a q p i] at d;cases d
 rw[e] at m;simp[List.isPrefixOf] at m
theorem kindP_eq (s:af):kindP s=En s:=by
 obtain⟨f,i,l⟩:=zX s;generalize s.takeWhile kz=w at*;generalize s.dropWhile kz=r at*;subst f;rw[O7 w r i l];unfold kindP;by_cases g:w++r=[37,122]
 ·rw[if_pos g]
  have d:w=[]:=by
   cases w with
   |nil=>rfl
   |cons a w=>
    have:a=37:=by simpa using(List.cons.inj g).1
    subst this;have:=vY i rf;exact absurd this (by decide)
  subst d;have:r=[37,122]:=g;subst this;rfl
 rw[if_neg g];rcases perc_iff w r i l with⟨b,rfl,e,p,z,o⟩|⟨p,y⟩
 ·rw[if_pos p,z,o]
  simp[rT,e]
 rw[if_neg p];rcases aeC w r i l with⟨b,rfl,q,d,e,v,z,o⟩|⟨v,n⟩
 ·rw[if_pos v,z,o]
  simp[rT,d,q,e]
 rw[if_neg v];rcases l with rfl|⟨c,t,rfl,D⟩
 ·rw[FC]
  by_cases A:w=[]
  ·simp[rT,A]
  simp[rT,A,i]
 have u:dw (w++c::t)=false:=by rw[word_app];unfold dw;rw[K8,D];simp
 rw[if_neg (fun h=>by rw[u] at h;cases h.2)];by_cases k:c=37
 ·subst k
  cases t with
  |nil=>simp[rT]
  |cons x b=>
   by_cases B:x=115
   ·subst B
    simp[rT,y b rfl]
   have: ¬(x=122∧b=[]∧w=[]):=by rintro⟨rfl,rfl,rfl⟩;exact g rfl
   simp[rT,B];intro f m C;exact absurd ⟨f,m,C⟩ this
 by_cases j:c=47
 ·subst j
  have:=n t rfl;simp[rT];intro f m
  cases e:dw t with
  |false=>rfl
  |true=>exact absurd ⟨f,m,e⟩ this
 simp[rT,k,j]
theorem kind_two {a b:af} {c y:UInt8} (k:dw a=true) (l:kz c=false) (f:y∈b) (g:kz y=false):(En (a++c::b)).1=0:=by
 rw[O7 a (c::b) k (.inr ⟨c,b,rfl,l⟩)];have d:dw b=false:=by
  cases h:dw b with
  |false=>rfl
  |true=>rw[vY h f] at g;cases g
 unfold rT;dsimp only;by_cases i:c=37
 ·rw[if_pos i]
  cases b with
  |nil=>cases f
  |cons x j=>
   dsimp only;by_cases e:x=115
   ·subst e
    rw[if_pos rfl];have:dw j=false:=by unfold dw at d⊢;rw[K8,show kz 115=true by decide,Ke] at d;exact d
    rw[this];rfl
   rw[if_neg e,if_neg];rintro⟨rfl,rfl,_⟩;rw[Ni] at f;subst f;revert g;decide
 rw[if_neg i];by_cases e:c=47
 ·rw[if_pos e,if_neg (by rw[d];simp)]
 rw[if_neg e]
theorem aeD {s:af} {c:UInt8} (h:c∈s) (i:kz c=false) (l:c≠37) (k:c≠47):(En s).1=0:=by
 obtain⟨a,b,rfl,m⟩:=List.eq_append_cons_of_mem h;obtain⟨f,g,e⟩:=zX a;rcases e with e|⟨d,t,e,j⟩
 ·rw[e,FC] at f
  rw[←f] at g;rw[O7 a (c::b) g (.inr ⟨c,b,rfl,i⟩)];unfold rT;dsimp only;rw[if_neg l,if_neg k]
 rw[e] at f;rw[f,CJ,Nj];exact kind_two g j (y:=c) (by simp) i
def F4 (c:UInt8):Bool:=kz c||decide (c=37)||decide (c=47)
end Nt.Lb
namespace Nt.Ev.YtjcencojgajgdaaGreatDoor
open Go Nt.Num Go.Proofs.YtjcencojgajgdaaGreatDoor
variable [kH]
noncomputable def fE:Env:=⟨Go.Proofs.Tryz.prog,fun g=>bif g==3 then some (.rptr [.int .i64] (.int .i64 kH.val) 0) else none⟩
def Vd (l:af):Bool:=l.all fun c=>decide (c.toNat<128)
def Q6 (s c:af):af:=Lib.trimS s c
def oD (s c:af):af:=(Lib.cut s c).1
def qx (s c:af):af:=(Lib.cut s c).2.1
def o5 (s c:af):Bool:=(Lib.cut s c).2.2
noncomputable def trimS1:aD:=fun a=>match a with|[.str s,.str c]=>some (ak (ax (aB s) 1000) (ak (ax (aB c) 1000) (Vd c)),.str (Q6 s c))|_=>none
noncomputable def cutS1:aD:=fun a=>match a with|[.str s,.str c]=>some (ak (ax (aB s) 1000) (ak (ax 1 (aB c)) (ax (aB c) 2)),.tup [.str (oD s c),.str (qx s c),.bool (o5 s c)])|_=>none
noncomputable def fS:List (Nat×aD):=(100,trimS1)::(134,cutS1)::[]
open Nt.Lb
noncomputable def fWordS:aD:=fun a=>match a with|[.str s]=>some (ax (aB s) 1000,.bool (dw s))|_=>none
noncomputable def fS2:List (Nat×aD):=(77,fWordS)::fS
def fkK (s:af):Int:=(Lb.En s).1
def fkA (s:af):af:=(Lb.En s).2.1
def fkZ (s:af):af:=(Lb.En s).2.2
noncomputable def fCutS:aD:=fun a=>match a with|[.str s]=>some (ax (aB s) 1000,.tup [.int .i64 (fkK s),.str (fkA s),.str (fkZ s)])|_=>none
noncomputable def fSl:List (Nat×aD):=fS2
noncomputable def fS3:List (Nat×aD):=(104,fCutS)::fSl
def iX (s:af):Int:=if 16<s.length then 9 else if fkK s=0 then 4 else 0
noncomputable def checkS:aD:=fun a=>match a with|[.str s]=>some (ax (aB s) 1000,.int .i64 (iX s))|_=>none
def leP (s:af):af×Int:=if s=[45] then([],0) else if 6<s.length then([],9) else if s=[]∨dw s=false then([],4) else(s,0)
def Aq (s:af):af:=(leP s).1
def Ak (s:af):Int:=(leP s).2
noncomputable def Yv:aD:=fun a=>match a with|[.str s]=>some (ax (aB s) 1000,.tup [.str (Aq s),.int .i64 (Ak s)])|_=>none
noncomputable def fS4:List (Nat×aD):=(83,checkS)::(56,Yv)::fS3
theorem aeE (F s) (K:V→Option V):
 bE fE (bC fE fS F 2) F 77 [V.str s] K=
 sel (ak (ax (aB s) 1000) (ak (ax (aB [65,66,67,68,69,70,71,72,73,74,75,76,77,78,79,80,81,82,83,84,85,86,87,88,89,90,97,98,99,100,101,102,103,104,105,106,107,108,109,110,111,112,113,114,115,116,117,118,119,120,121,122,48,49,50,51,52,53,54,55,56,57,43,45]) 1000) (Vd [65,66,67,68,69,70,71,72,73,74,75,76,77,78,79,80,81,82,83,84,85,86,87,88,89,90,97,98,99,100,101,102,103,104,105,106,107,108,109,110,111,112,113,114,115,116,117,118,119,120,121,122,48,49,50,51,52,53,54,55,56,57,43,45]))) (K (V.bool (seq (Q6 s [65,66,67,68,69,70,71,72,73,74,75,76,77,78,79,80,81,82,83,84,85,86,87,88,89,90,97,98,99,100,101,102,103,104,105,106,107,108,109,110,111,112,113,114,115,116,117,118,119,120,121,122,48,49,50,51,52,53,54,55,56,57,43,45]) []))) none:=by kernel_rfl
theorem fCut_top (F s) (K:V→Option V):
 bE fE (bC fE fS2 F 2) F 104 [V.str s] K=
 let C:=V.str [];let D:=ax (aB s) 1000;let E:=oD s [47];let G:=qx s [47];let H:=oD s [37,115];let I:=qx s [37,115];let J:=K (V.tup [V.int .i64 0,C,C]);let A:=sel (aL (seq s [])) (sel D (sel (dw s) (K (V.tup [V.int .i64 1,V.str s,C])) J) none) J;let B:=sel (ak D (ak (ax 1 (aB [47])) (ax (aB [47]) 2))) (sel (o5 s [47]) (sel (aL (seq E [])) (sel (aL (seq G [])) (sel (ax (aB E) 1000) (sel (dw E) (sel (ax (aB G) 1000) (sel (dw G) (K (V.tup [V.int .i64 4,V.str E,V.str G])) A) none) A) none) A) A) A) (none);sel (seq s [37,122]) (K (V.tup [V.int .i64 3,C,C])) (sel (ak D (ak (ax 1 (aB [37,115])) (ax (aB [37,115]) 2))) (sel (o5 s [37,115]) (sel (ax (aB H) 1000) (sel (dw H) (sel (ax (aB I) 1000) (sel (dw I) (K (V.tup [V.int .i64 2,V.str H,V.str I])) B) none) B) none) B) none):=by kernel_rfl
theorem EV (F s) (K:V→Option V):
 bE fE (bC fE fS2 F 2) F 56 [V.str s] K=
 let B:=V.str [];let A:=K (V.tup [B,V.int .i64 4]);sel (seq s [45]) (K (V.tup [B,V.int .i64 0])) (sel (aR 6 (aB s)) (K (V.tup [B,V.int .i64 9])) (sel (seq s []) A (sel (ax (aB s) 1000) (sel (aL (dw s)) A (K (V.tup [V.str s,V.int .i64 0]))) none))):=by kernel_rfl
theorem zY (F s) (K:V→Option V):
 bE fE (bC fE fS3 F 2) F 83 [V.str s] K=
 sel (aR 16 (aB s)) (K (V.int .i64 9)) (sel (ax (aB s) 1000) (sel (ieq (fkK s) 0) (K (V.int .i64 4)) (K (V.int .i64 0))) none):=by kernel_rfl
theorem Ww (F s) (K:V→Option V):
 bE fE (bC fE fS4 F 2) F 36 [V.str s] K=
 let A:=K (V.tup [V.str [],V.int .i64 4]);sel (seq s []) (K (V.tup [V.str [45],V.int .i64 0])) (sel (ax (aB s) 1000) (sel (aL (ieq (Ak s) 0)) A (sel (aL (seq (Aq s) s)) A (K (V.tup [V.str s,V.int .i64 0])))) none):=by kernel_rfl
open Go.RowKit Nt
theorem gJ:uQ fE:=⟨by kernel_rfl,by kernel_rfl⟩
theorem XH {s:af} (h:ax (aB s) 1000=true):s.length≤1000:=by rw[aA,aJ] at h;omega
theorem aeF (s c:af) (l:ak (ax (aB s) 1000) (ak (ax (aB c) 1000) (Vd c))=true):aj fE 100 [.str s,.str c] (.str (Q6 s c)):=by
 obtain⟨i,a⟩:=aN l;obtain⟨a,d⟩:=aN a;have i:=XH i;have a:=XH a;refine bZ fun G w vs n m k=>?_
 obtain⟨x,y,rfl,h,g⟩:=iO k;unfold aV at h g;subst h;subst g;refine(Go.Proofs.Tryz.Ce ⟨s.toArray⟩ ⟨c.toArray⟩ w (show s.toArray.size≤_ by simp;omega) (show c.toArray.size<_ by simp;omega) (fun j b f=>?_)).mono ?_
 ·have d:(c.all fun c=>decide (c.toNat<128))=true:=d
  have:=List.all_eq_true.1 d b (GR f);exact FY this
 rintro e w' ⟨rfl,f⟩;exact⟨_,rfl,f,OI _⟩
theorem cutS1_ok (s c:af) (j:ak (ax (aB s) 1000) (ak (ax 1 (aB c)) (ax (aB c) 2))=true):aj fE 134 [.str s,.str c] (.tup [.str (oD s c),.str (qx s c),.bool (o5 s c)]):=by
 obtain⟨d,_⟩:=aN j;have d:=XH d;refine bZ fun G w vs h g f=>?_
 obtain⟨x,y,rfl,b,a⟩:=iO f;unfold aV at b a;subst b;subst a;have i:=RA (E:=fE) h g (n:=3) (k:=.i64) (m:=kH.val) rfl;refine(Go.Proofs.Tryz.strings_Cut ⟨s.toArray⟩ ⟨c.toArray⟩ _ w (show s.toArray.size<_ by simp;omega) i).mono ?_;rintro e w' ⟨rfl,n,rfl⟩;exact⟨_,rfl,Nt.below_drewN (Below.refl _ _) n,OJ (vs:=[_,_,_]) (.cons (I4 _) (.cons (I4 _) (.cons (Mx _) .nil)))⟩
theorem fS_ok:aZ fE fS:=by
 unfold fS;refine aZ.cons (fun args r h=>?_) (aZ.cons (fun args r h=>?_) aZ.nil);all_goals (revert h;intro h;first|unfold trimS1 at h|unfold cutS1 at h)
 all_goals (split at h;rotate_left; · cases h)
 all_goals (simp only[aT,bP] at h;obtain⟨a,rfl⟩:=h)
 ·exact aeF _ _ a
 exact cutS1_ok _ _ a
def BG:af:=[65,66,67,68,69,70,71,72,73,74,75,76,77,78,79,80,81,82,83,84,85,86,87,88,89,90,97,98,99,100,101,102,103,104,105,106,107,108,109,110,111,112,113,114,115,116,117,118,119,120,121,122,48,49,50,51,52,53,54,55,56,57,43,45]
theorem TQ (c:UInt8):BG.contains c=kz c:=by
 have h: ∀n:Fin 256,BG.contains (UInt8.ofNat n)=kz (UInt8.ofNat n):=by decide+kernel
 have:=h ⟨c.toNat,c.toNat_lt⟩;simpa using this
theorem drop_nil (p:UInt8→Bool): ∀l:af,l.dropWhile p=[]↔ ∀x∈l,p x=true
 |[]=>by simp
 |x::l=>by
  rw[abm]
  cases h:p x with
  |true=>simp[h,drop_nil p l]
  |false=>simp[h]
theorem R4 (p:UInt8→Bool): ∀(l:af) (x:UInt8),x∈l.takeWhile p→p x=true
 |[],_,h=>by cases h
 |y::l,x,h=>by
  rw[abh] at h
  cases a:p y with
  |true=>
   rw[a,if_pos rfl,ZA] at h;rcases h with rfl|h
   ·exact a
   exact R4 p l x h
  |false=>rw[a] at h;cases h
theorem aeG (s:af):seq (Q6 s BG) []=dw s:=by
 unfold seq Q6 Lib.trimS Lib.trimLeftS Lib.trimRightS;simp only[TQ];rw[uF,iJ,drop_nil];unfold dw;rw[lM];constructor
 ·intro h x a
  have a:x∈s.reverse:=by simpa using a
  rw[←List.takeWhile_append_dropWhile (p:=fun x=>kz x) (l:=s.reverse),abq] at a;rcases a with a|a
  ·exact R4 _ _ _ a
  exact h x (by simpa using a)
 intro h x a;rw[List.mem_reverse] at a;have:=(List.dropWhile_sublist (fun x=>kz x)).subset a;exact h x (by simpa using this)
theorem aeH (s:af) (b:ax (aB s) 1000=true):aj fE 77 [.str s] (.bool (dw s)):=by refine au gJ fS_ok 5 2 ?_;rw[aeE];have a:=aeG s;unfold BG at a;rw[a,b,av (by decide)]
theorem NV:aZ fE fS2:=by
 unfold fS2;refine aZ.cons (fun args r h=>?_) fS_ok;all_goals (revert h;intro h;first|unfold fWordS at h)
 all_goals (split at h;rotate_left; · cases h)
 all_goals (simp only[aT,bP] at h;obtain⟨a,rfl⟩:=h)
 ·exact aeH _ a
theorem selT (x y:Option V):sel true x y=x:=rfl
theorem sel_and2 (b c:Bool) (X T:Option V):sel (aL b) (sel c X T) T=if¬(b=true)∧c=true then X else T:=by cases b<;>cases c<;>rfl
theorem sel_and3 (a b c:Bool) (X T:Option V):sel a (sel b (sel c X T) T) T=if a=true∧b=true∧c=true then X else T:=by cases a<;>cases b<;>cases c<;>rfl
theorem sel_and5 (a b c d e:Bool) (X T:Option V):sel a (sel (aL b) (sel (aL c) (sel d (sel e X T) T) T) T) T=if a=true∧ ¬(b=true)∧ ¬(c=true)∧d=true∧e=true then X else T:=by cases a<;>cases b<;>cases c<;>cases d<;>cases e<;>rfl
theorem Gi (s c:af):(oD s c).length≤s.length∧(qx s c).length≤s.length:=by unfold oD qx Lib.cut;split<;>simp<;>omega
theorem fCutS_ok (s:af) (a:ax (aB s) 1000=true):aj fE 104 [.str s] (.tup [.int .i64 (fkK s),.str (fkA s),.str (fkZ s)]):=by
 refine au gJ NV 5 2 ?_
 (rw[fCut_top];(conv=>zeta))
 have h:=XH a;have c:ax (aB (oD s [37,115])) 1000=true:=bn (by have:=(Gi s [37,115]).1;rw[aJ];omega);have d:ax (aB (qx s [37,115])) 1000=true:=bn (by have:=(Gi s [37,115]).2;rw[aJ];omega);have f:ax (aB (oD s [47])) 1000=true:=bn (by have:=(Gi s [47]).1;rw[aJ];omega);have b:ax (aB (qx s [47])) 1000=true:=bn (by have:=(Gi s [47]).2;rw[aJ];omega);have e:ak (ax (aB s) 1000) (ak (ax 1 (aB [37,115])) (ax (aB [37,115]) 2))=true:=by rw[a];rfl
 have g:ak (ax (aB s) 1000) (ak (ax 1 (aB [47])) (ax (aB [47]) 2))=true:=by rw[a];rfl
 simp only[e,g];simp only[a,c,d,f,b,selT];unfold fkK fkA fkZ;rw[←kindP_eq];unfold kindP perc slash;rw[sel_and5,sel_and3,sel_and2,bM];simp only[dx,show @Lb.oD= @Nt.Ev.YtjcencojgajgdaaGreatDoor.oD from rfl,show @Lb.qx= @Nt.Ev.YtjcencojgajgdaaGreatDoor.qx from rfl,show @Lb.o5= @Nt.Ev.YtjcencojgajgdaaGreatDoor.o5 from rfl];split
 ·rfl
 split
 ·rfl
 split
 ·rfl
 split<;>rfl
theorem fSl_ok:aZ fE fSl:=by unfold fSl;refine NV
section
variable (F n:Nat) (a:Nat) (xs:ah) (hx:xs.length≤10) (K:V→Option V)
end
theorem NW:aZ fE fS3:=by
 unfold fS3;refine aZ.cons (fun args r h=>?_) fSl_ok;all_goals (revert h;intro h;first|unfold fCutS at h)
 all_goals (split at h;rotate_left; · cases h)
 all_goals (simp only[aT,bP] at h;obtain⟨a,rfl⟩:=h)
 ·exact fCutS_ok _ a
theorem DZ (s:af) (b:ax (aB s) 1000=true):aj fE 83 [.str s] (.int .i64 (iX s)):=by
 refine au gJ NW 5 2 ?_;rw[zY,b];unfold iX;by_cases h:16<s.length
 ·rw[av (bu (by rw[aJ];omega)),if_pos h]
 rw[aI (bB (by rw[aJ];omega)),if_neg h,selT];by_cases a:fkK s=0
 ·rw[if_pos a,av (bA a)]
 rw[if_neg a,aI (bH a)]
theorem JQ (s:af) (d:ax (aB s) 1000=true):aj fE 56 [.str s] (.tup [.str (Aq s),.int .i64 (Ak s)]):=by
 refine au gJ NV 5 2 ?_
 (rw[EV];(conv=>zeta);rw[d])
 unfold Aq Ak leP;simp only[selT,bM,bq,dx,aJ,bY];by_cases a:s=[45]
 ·rw[if_pos a,if_pos a]
 rw[if_neg a,if_neg a];by_cases c:6<s.length
 ·rw[if_pos (by omega),if_pos c]
 rw[if_neg (by omega),if_neg c];by_cases b:s=[]
 ·rw[if_pos b,if_pos (.inl b)]
 rw[if_neg b]
 cases e:Lb.dw s with
 |true=>simp[b]
 |false=>simp
theorem fS4_ok:aZ fE fS4:=by
 unfold fS4;refine aZ.cons (fun args r h=>?_) (aZ.cons (fun args r h=>?_) NW);all_goals (revert h;intro h;first|unfold checkS at h|unfold Yv at h)
 all_goals (split at h;rotate_left; · cases h)
 all_goals (simp only[aT,bP] at h;obtain⟨a,rfl⟩:=h)
 ·exact DZ _ a
 exact JQ _ a
end Nt.Ev.YtjcencojgajgdaaGreatDoor
namespace Nt.Lb
end Nt.Lb
namespace Nt.Ev.YtjcencojgajgdaaGreatDoor
open Go Go.RowKit Nt Nt.Num Nt.Lb Go.Proofs.YtjcencojgajgdaaGreatDoor
variable [kH]
def ltP (s:af):af×Int:=if s=[] then([45],0) else if Ak s≠0∨Aq s≠s then([],4) else(s,0)
def G5 (s:af):af:=(ltP s).1
def Kr (s:af):Int:=(ltP s).2
theorem ck_len {s:af} (h:iX s=0):s.length≤16∧fkK s≠0:=by
 unfold iX at h;by_cases a:16<s.length
 ·rw[if_pos a] at h;cases h
 rw[if_neg a] at h;by_cases b:fkK s=0
 ·rw[if_pos b] at h;cases h
 exact⟨by omega,b⟩
theorem MH (s:af) (e:s.length≤1000):aj fE 36 [.str s] (.tup [.str (G5 s),.int .i64 (Kr s)]):=by
 refine au gJ fS4_ok 5 2 ?_;have d:ax (aB s) 1000=true:=bn (by rw[aJ];omega)
 (rw[Ww];(conv=>zeta);rw[d,selT])
 unfold G5 Kr ltP;simp only[bM,dx,bY,aO];by_cases a:s=[]
 ·rw[if_pos a,if_pos a]
 rw[if_neg a,if_neg a];by_cases c:Ak s=0
 ·rw[if_neg (by simpa using c)]
  by_cases b:Aq s=s
  ·rw[if_neg (by simpa using b),if_neg (by simp[c,b])]
  rw[if_pos b,if_pos (.inr b)]
 rw[if_pos c,if_pos (.inl c)]
theorem Ym (t:af) (h:Kr t=0):Ak (G5 t)=0∧Aq (G5 t)=t:=by
 unfold Kr ltP at h;unfold G5 ltP;by_cases b:t=[]
 ·rw[if_pos b];subst b;decide
 rw[if_neg b] at h⊢;by_cases a:Ak t≠0∨Aq t≠t
 ·rw[if_pos a] at h;cases h
 rw[if_neg a];rw[not_or,Decidable.not_not,Decidable.not_not] at a;exact a
end Nt.Ev.YtjcencojgajgdaaGreatDoor
