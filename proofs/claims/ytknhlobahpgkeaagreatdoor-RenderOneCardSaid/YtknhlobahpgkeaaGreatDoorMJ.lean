/-
  The plain law of formats: what is a name, where it is cut, which kind it is.
-/
import Derived.Lib.IndexMore
import Derived.Test.YtknhlobahpgkeaaGreatDoorME
set_option linter.all false
set_option maxRecDepth 100000
namespace Nt.Ku
open Go
def kF (c:UInt8):Bool:=decide ((65≤c.toNat∧c.toNat≤90)∨(97≤c.toNat∧c.toNat≤122)∨(48≤c.toNat∧c.toNat≤57)∨c.toNat=43∨c.toNat=45)
def dm (s:af):Bool:=s.all kF
def rX (s w:af):af→Int×af×af
 |[]=>if w=[] then(0,[],[]) else(1,s,[])
 |c::t=>
  if c=37 then
   match t with
   |[]=>(0,[],[])
   |x::b=>if x=115 then(if dm b=true then(2,w,b) else(0,[],[])) else if x=122∧b=[]∧w=[] then(3,[],[]) else(0,[],[])
  else if c=47 then(if w≠[]∧t≠[]∧dm t=true then(4,w,t) else(0,[],[])) else(0,[],[])
def Eb (s:af):Int×af×af:=rX s (s.takeWhile kF) (s.dropWhile kF)
theorem zT: ∀s:af,s=s.takeWhile kF++s.dropWhile kF∧dm (s.takeWhile kF)=true∧(s.dropWhile kF=[]∨ ∃c t,s.dropWhile kF=c::t∧kF c=false)
 |[]=>⟨rfl,rfl,.inl rfl⟩
 |c::l=>by
  obtain⟨d,b,e⟩:=zT l
  cases a:kF c with
  |true=>rw[abg,abm,a];simp only[if_true];refine⟨by rw[Py,←d],?_,e⟩;unfold dm at b⊢;rw[Pg,a,b];rfl
  |false=>rw[abg,abm,a];simp only[JP,Cu];exact⟨rfl,rfl,.inr ⟨c,l,rfl,a⟩⟩
theorem parts_of (w r:af) (b:dm w=true) (f:r=[]∨ ∃c t,r=c::t∧kF c=false):(w++r).takeWhile kF=w∧(w++r).dropWhile kF=r:=by
 induction w with
 |nil=>
  rcases f with rfl|⟨c,t,rfl,h⟩
  ·exact⟨rfl,rfl⟩
  simp[abg,abm,h]
 |cons a w e=>unfold dm at b;rw[Pg,bC] at b;obtain⟨d,g⟩:=e b.2;rw[Py,abg,abm,b.1,d,g];simp
theorem Oe (w r:af) (a:dm w=true) (d:r=[]∨ ∃c t,r=c::t∧kF c=false):Eb (w++r)=rX (w++r) w r:=by unfold Eb;obtain⟨e,b⟩:=parts_of w r a d;rw[e,b]
theorem vZ {w:af} (h:dm w=true) {c:UInt8} (a:c∈w):kF c=true:=List.all_eq_true.1 h c a
theorem word_app (a b:af):dm (a++b)=(dm a&&dm b):=by unfold dm;rw[ac9]
theorem QW (w r:af) (x:UInt8) (c:af) (q:dm w=true) (t:kF x=false):
  (∃b,r=x::c++b∧Lib.cut (w++r) (x::c)=(w,b,true))∨
  ((x::c).isPrefixOf r=false∧(Lib.cut (w++r) (x::c)=(w++r,[],false)∨ ∃a b,Lib.cut (w++r) (x::c)=(a,b,true)∧w.length<a.length∧a<+:w++r)):=by
 have d: ∀j,j<w.length→Lib.occAt (w++r) (x::c) j=false:=by
  intro j o;unfold Lib.occAt;rw[List.drop_append_of_le_length (by omega),abf o,Py,List.isPrefixOf];have:(x==w[j])=false:=by
   rw[uE];intro e;have:=vZ q (Ga o);rw[←e,t] at this
   cases this
  rw[this];rfl
 by_cases f:(x::c).isPrefixOf r=true
 ·left
  rw[List.isPrefixOf_iff_prefix] at f;obtain⟨b,k⟩:=f;refine⟨b,k.symm,?_⟩;have s:Lib.index (w++r) (x::c)=(w.length:Nat):=Lib.index_first (by simp) (by unfold Lib.occAt;rw[acZ,List.isPrefixOf_iff_prefix];exact⟨b,k⟩) d;unfold Lib.cut;rw[s,if_pos (by omega),Kr,abN,←abE,acZ,←k,acZ]
 right
 have f:(x::c).isPrefixOf r=false:=Bool.eq_false_iff.2 f;refine⟨f,?_⟩;rcases Lib.index_spec (w++r) (x::c) with⟨n,_⟩|⟨i,n,u,g,_⟩
 ·left
  unfold Lib.cut;rw[n,if_neg (by decide)]
 right
 have p:w.length<i:=by
  rcases Nat.lt_trichotomy i w.length with h|l|m
  ·rw[d i h] at g;cases g
  ·subst l
   unfold Lib.occAt at g;rw[acZ,f] at g;cases g
  exact m
 refine⟨(w++r).take i,(w++r).drop (i+(x::c).length),?_,?_,List.take_prefix _ _⟩
 ·unfold Lib.cut
  rw[n,if_pos (by omega),Kr]
 rw[JG];omega
theorem Ma (w r a:af) (i:r=[]∨ ∃c t,r=c::t∧kF c=false) (h:w.length<a.length) (f:a<+:w++r):dm a=false:=by
 obtain⟨t,d⟩:=f;have b:=congrArg List.length d;rw[iH,iH] at b;rcases i with rfl|⟨c,k,rfl,j⟩
 ·simp at b;omega
 have e:(a++t)[w.length]? =some c:=by rw[d];simp
 rw[abn h] at e
 cases g:dm a with
 |false=>rfl
 |true=>have:=vZ g (F9 e);rw[j] at this;cases this
def oC (s c:af):af:=(Lib.cut s c).1
def qw (s c:af):af:=(Lib.cut s c).2.1
def oZ (s c:af):Bool:=(Lib.cut s c).2.2
def slash (s:af):Prop:=oZ s [47]=true∧oC s [47]≠[]∧qw s [47]≠[]∧dm (oC s [47])=true∧dm (qw s [47])=true
def perc (s:af):Prop:=oZ s [37,115]=true∧dm (oC s [37,115])=true∧dm (qw s [37,115])=true
instance (s):Decidable (slash s):=inferInstanceAs (Decidable (_∧_))
instance (s):Decidable (perc s):=inferInstanceAs (Decidable (_∧_))
def kindP (s : af) : Int × af × af :=
  if s = [37, 122] then (3, [], []) else if perc s then (2, oC s [37, 115], qw s [37, 115]) else if slash s then (4, oC s [47], qw s [47]) else if s ≠ [] ∧ dm s = true then (1, s, []) else (0, [], [])
theorem perc_iff (w r:af) (j:dm w=true) (n:r=[]∨ ∃c t,r=c::t∧kF c=false):
  (∃b,r=37::115::b∧dm b=true∧perc (w++r)∧oC (w++r) [37,115]=w∧qw (w++r) [37,115]=b)∨(¬perc (w++r)∧ ∀b,r=37::115::b→dm b=false):=by
 rcases QW w r 37 [115] j (by decide) with⟨b,rfl,d⟩|⟨k,d⟩
 ·have l:oC (w++(37::[115]++b)) [37,115]=w:=by unfold oC;rw[d]
  have f:qw (w++(37::[115]++b)) [37,115]=b:=by unfold qw;rw[d]
  have o:oZ (w++(37::[115]++b)) [37,115]=true:=by unfold oZ;rw[d]
  cases i:dm b with
  |true=>exact .inl ⟨b,rfl,i,⟨o,by rw[l];exact j,by rw[f];exact i⟩,l,f⟩
  |false=>
   refine .inr ⟨fun h=>?_,fun p e=>?_⟩
   ·have:=h.2.2
    rw[f,i] at this;cases this
   simp at e;rw[←e];exact i
 refine .inr ⟨fun h=>?_,fun b e=>?_⟩
 ·rcases d with d|⟨a,b,d,m,g⟩
  ·have:=h.1;unfold oZ at this;rw[d] at this;cases this
  have f:=h.2.1;unfold oC at f;rw[d] at f;rw[Ma w r a n m g] at f;cases f
 rw[e] at k;simp[List.isPrefixOf] at k
theorem adz (w r:af) (l:dm w=true) (q:r=[]∨ ∃c t,r=c::t∧kF c=false):
  (∃b,r=47::b∧b≠[]∧w≠[]∧dm b=true∧slash (w++r)∧oC (w++r) [47]=w∧qw (w++r) [47]=b)∨(¬slash (w++r)∧ ∀b,r=47::b→ ¬(w≠[]∧b≠[]∧dm b=true)):=by
 rcases QW w r 47 [] l (by decide) with⟨b,rfl,f⟩|⟨m,f⟩
 ·have j:oC (w++(47::[]++b)) [47]=w:=by unfold oC;rw[f]
  have d:qw (w++(47::[]++b)) [47]=b:=by unfold qw;rw[f]
  have s:oZ (w++(47::[]++b)) [47]=true:=by unfold oZ;rw[f]
  by_cases g:w≠[]∧b≠[]∧dm b=true
  ·exact .inl ⟨b,rfl,g.2.1,g.1,g.2.2,⟨s,by rw[j];exact g.1,by rw[d];exact g.2.1,by rw[j];exact l,by rw[d];exact g.2.2⟩,j,d⟩
  refine .inr ⟨fun h=>g ?_,fun u e=>?_⟩
  ·obtain⟨_,k,n,_,o⟩:=h
   rw[j] at k;rw[d] at n o;exact⟨k,n,o⟩
  simp at e;rw[←e];exact g
 refine .inr ⟨fun h=>?_,fun b e=>?_⟩
 ·rcases f with f|⟨a,b,f,p,i⟩
  ·have:=h.1;unfold oZ at this;rw[f] at this;cases this
  have d:=h.2.2.2.1;unfold oC at d;rw[f] at d;rw[Ma w r a q p i] at d;cases d
 rw[e] at m;simp[List.isPrefixOf] at m
theorem kindP_eq (s:af):kindP s=Eb s:=by
 obtain⟨f,i,l⟩:=zT s;generalize s.takeWhile kF=w at*;generalize s.dropWhile kF=r at*;subst f;rw[Oe w r i l];unfold kindP;by_cases g:w++r=[37,122]
 ·rw[if_pos g]
  have d:w=[]:=by
   cases w with
   |nil=>rfl
   |cons a w=>
    have:a=37:=by simpa using(List.cons.inj g).1
    subst this;have:=vZ i uY;exact absurd this (by decide)
  subst d;have:r=[37,122]:=g;subst this;rfl
 rw[if_neg g];rcases perc_iff w r i l with⟨b,rfl,e,p,z,o⟩|⟨p,y⟩
 ·rw[if_pos p,z,o]
  simp[rX,e]
 rw[if_neg p];rcases adz w r i l with⟨b,rfl,q,d,e,v,z,o⟩|⟨v,n⟩
 ·rw[if_pos v,z,o]
  simp[rX,d,q,e]
 rw[if_neg v];rcases l with rfl|⟨c,t,rfl,D⟩
 ·rw[JQ]
  by_cases A:w=[]
  ·simp[rX,A]
  simp[rX,A,i]
 have u:dm (w++c::t)=false:=by rw[word_app];unfold dm;rw[Pg,D];simp
 rw[if_neg (fun h=>by rw[u] at h;cases h.2)];by_cases k:c=37
 ·subst k
  cases t with
  |nil=>simp[rX]
  |cons x b=>
   by_cases B:x=115
   ·subst B
    simp[rX,y b rfl]
   have: ¬(x=122∧b=[]∧w=[]):=by rintro⟨rfl,rfl,rfl⟩;exact g rfl
   simp[rX,B];intro f m C;exact absurd ⟨f,m,C⟩ this
 by_cases j:c=47
 ·subst j
  have:=n t rfl;simp[rX];intro f m
  cases e:dm t with
  |false=>rfl
  |true=>exact absurd ⟨f,m,e⟩ this
 simp[rX,k,j]
theorem kind_two {a b:af} {c y:UInt8} (k:dm a=true) (l:kF c=false) (f:y∈b) (g:kF y=false):(Eb (a++c::b)).1=0:=by
 rw[Oe a (c::b) k (.inr ⟨c,b,rfl,l⟩)];have d:dm b=false:=by
  cases h:dm b with
  |false=>rfl
  |true=>rw[vZ h f] at g;cases g
 unfold rX;dsimp only;by_cases i:c=37
 ·rw[if_pos i]
  cases b with
  |nil=>cases f
  |cons x j=>
   dsimp only;by_cases e:x=115
   ·subst e
    rw[if_pos rfl];have:dm j=false:=by unfold dm at d⊢;rw[Pg,show kF 115=true by decide,JH] at d;exact d
    rw[this];rfl
   rw[if_neg e,if_neg];rintro⟨rfl,rfl,_⟩;rw[S7] at f;subst f;revert g;decide
 rw[if_neg i];by_cases e:c=47
 ·rw[if_pos e,if_neg (by rw[d];simp)]
 rw[if_neg e]
theorem adA {s:af} {c:UInt8} (h:c∈s) (i:kF c=false) (l:c≠37) (k:c≠47):(Eb s).1=0:=by
 obtain⟨a,b,rfl,m⟩:=List.eq_append_cons_of_mem h;obtain⟨f,g,e⟩:=zT a;rcases e with e|⟨d,t,e,j⟩
 ·rw[e,JQ] at f
  rw[←f] at g;rw[Oe a (c::b) g (.inr ⟨c,b,rfl,i⟩)];unfold rX;dsimp only;rw[if_neg l,if_neg k]
 rw[e] at f;rw[f,DX,Py];exact kind_two g j (y:=c) (by simp) i
def okC (c:UInt8):Bool:=kF c||decide (c=37)||decide (c=47)
end Nt.Ku
namespace Nt.Ev.YtknhlobahpgkeaaGreatDoor
open Go Nt.Num Go.Proofs.YtknhlobahpgkeaaGreatDoor
variable [kM]
noncomputable def fE:Env:=⟨Go.Proofs.Tryz.prog,fun g=>bif g==3 then some (.rptr [.int .i64] (.int .i64 kM.val) 0) else none⟩
def Uk (l:af):Bool:=l.all fun c=>decide (c.toNat<128)
def Qc (s c:af):af:=Lib.trimS s c
def oC (s c:af):af:=(Lib.cut s c).1
def qw (s c:af):af:=(Lib.cut s c).2.1
def oZ (s c:af):Bool:=(Lib.cut s c).2.2
noncomputable def trimS1:aC:=fun a=>match a with|[.str s,.str c]=>some (ak (av (aA s) 1000) (ak (av (aA c) 1000) (Uk c)),.str (Qc s c))|_=>none
noncomputable def cutS1:aC:=fun a=>match a with|[.str s,.str c]=>some (ak (av (aA s) 1000) (ak (av 1 (aA c)) (av (aA c) 2)),.tup [.str (oC s c),.str (qw s c),.bool (oZ s c)])|_=>none
noncomputable def fS:List (Nat×aC):=(102,trimS1)::(145,cutS1)::[]
open Nt.Ku
noncomputable def fWordS:aC:=fun a=>match a with|[.str s]=>some (av (aA s) 1000,.bool (dm s))|_=>none
noncomputable def fS2:List (Nat×aC):=(81,fWordS)::fS
def fkK (s:af):Int:=(Ku.Eb s).1
def fkA (s:af):af:=(Ku.Eb s).2.1
def fkZ (s:af):af:=(Ku.Eb s).2.2
noncomputable def fCutS:aC:=fun a=>match a with|[.str s]=>some (av (aA s) 1000,.tup [.int .i64 (fkK s),.str (fkA s),.str (fkZ s)])|_=>none
noncomputable def fSl:List (Nat×aC):=fS2
noncomputable def fS3:List (Nat×aC):=(106,fCutS)::fSl
def ja (s:af):Int:=if 16<s.length then 9 else if fkK s=0 then 4 else 0
noncomputable def checkS:aC:=fun a=>match a with|[.str s]=>some (av (aA s) 1000,.int .i64 (ja s))|_=>none
def leP (s:af):af×Int:=if s=[45] then([],0) else if 6<s.length then([],9) else if s=[]∨dm s=false then([],4) else(s,0)
def Aq (s:af):af:=(leP s).1
def Ah (s:af):Int:=(leP s).2
noncomputable def Xu:aC:=fun a=>match a with|[.str s]=>some (av (aA s) 1000,.tup [.str (Aq s),.int .i64 (Ah s)])|_=>none
noncomputable def fS4:List (Nat×aC):=(87,checkS)::(58,Xu)::fS3
theorem adB (F s) (K:V→Option V):
 bA fE (bu fE fS F 2) F 81 [V.str s] K=
 sel (ak (av (aA s) 1000) (ak (av (aA [65,66,67,68,69,70,71,72,73,74,75,76,77,78,79,80,81,82,83,84,85,86,87,88,89,90,97,98,99,100,101,102,103,104,105,106,107,108,109,110,111,112,113,114,115,116,117,118,119,120,121,122,48,49,50,51,52,53,54,55,56,57,43,45]) 1000) (Uk [65,66,67,68,69,70,71,72,73,74,75,76,77,78,79,80,81,82,83,84,85,86,87,88,89,90,97,98,99,100,101,102,103,104,105,106,107,108,109,110,111,112,113,114,115,116,117,118,119,120,121,122,48,49,50,51,52,53,54,55,56,57,43,45]))) (K (V.bool (seq (Qc s [65,66,67,68,69,70,71,72,73,74,75,76,77,78,79,80,81,82,83,84,85,86,87,88,89,90,97,98,99,100,101,102,103,104,105,106,107,108,109,110,111,112,113,114,115,116,117,118,119,120,121,122,48,49,50,51,52,53,54,55,56,57,43,45]) []))) none:=by kernel_rfl
theorem fCut_top (F s) (K:V→Option V):
 bA fE (bu fE fS2 F 2) F 106 [V.str s] K=
 let C:=V.str [];let D:=av (aA s) 1000;let E:=oC s [47];let G:=qw s [47];let H:=oC s [37,115];let I:=qw s [37,115];let J:=K (V.tup [V.int .i64 0,C,C]);let A:=sel (aL (seq s [])) (sel D (sel (dm s) (K (V.tup [V.int .i64 1,V.str s,C])) J) none) J;let B:=sel (ak D (ak (av 1 (aA [47])) (av (aA [47]) 2))) (sel (oZ s [47]) (sel (aL (seq E [])) (sel (aL (seq G [])) (sel (av (aA E) 1000) (sel (dm E) (sel (av (aA G) 1000) (sel (dm G) (K (V.tup [V.int .i64 4,V.str E,V.str G])) A) none) A) none) A) A) A) (none);sel (seq s [37,122]) (K (V.tup [V.int .i64 3,C,C])) (sel (ak D (ak (av 1 (aA [37,115])) (av (aA [37,115]) 2))) (sel (oZ s [37,115]) (sel (av (aA H) 1000) (sel (dm H) (sel (av (aA I) 1000) (sel (dm I) (K (V.tup [V.int .i64 2,V.str H,V.str I])) B) none) B) none) B) none):=by kernel_rfl
theorem EL (F s) (K:V→Option V):
 bA fE (bu fE fS2 F 2) F 58 [V.str s] K=
 let B:=V.str [];let A:=K (V.tup [B,V.int .i64 4]);sel (seq s [45]) (K (V.tup [B,V.int .i64 0])) (sel (aW 6 (aA s)) (K (V.tup [B,V.int .i64 9])) (sel (seq s []) A (sel (av (aA s) 1000) (sel (aL (dm s)) A (K (V.tup [V.str s,V.int .i64 0]))) none))):=by kernel_rfl
theorem zU (F s) (K:V→Option V):
 bA fE (bu fE fS3 F 2) F 87 [V.str s] K=
 sel (aW 16 (aA s)) (K (V.int .i64 9)) (sel (av (aA s) 1000) (sel (ieq (fkK s) 0) (K (V.int .i64 4)) (K (V.int .i64 0))) none):=by kernel_rfl
theorem Vw (F s) (K:V→Option V):
 bA fE (bu fE fS4 F 2) F 32 [V.str s] K=
 let A:=K (V.tup [V.str [],V.int .i64 4]);sel (seq s []) (K (V.tup [V.str [45],V.int .i64 0])) (sel (av (aA s) 1000) (sel (aL (ieq (Ah s) 0)) A (sel (aL (seq (Aq s) s)) A (K (V.tup [V.str s,V.int .i64 0])))) none):=by kernel_rfl
open Go.RowKit Nt
theorem gL:uL fE:=⟨by kernel_rfl,by kernel_rfl⟩
theorem Wy {s:af} (h:av (aA s) 1000=true):s.length≤1000:=by rw[aB,aI] at h;omega
theorem adC (s c:af) (l:ak (av (aA s) 1000) (ak (av (aA c) 1000) (Uk c))=true):aj fE 102 [.str s,.str c] (.str (Qc s c)):=by
 obtain⟨i,a⟩:=aO l;obtain⟨a,d⟩:=aO a;have i:=Wy i;have a:=Wy a;refine bX fun G w vs n m k=>?_
 obtain⟨x,y,rfl,h,g⟩:=iQ k;unfold aV at h g;subst h;subst g;refine(Go.Proofs.Tryz.Ce ⟨s.toArray⟩ ⟨c.toArray⟩ w (show s.toArray.size≤_ by simp;omega) (show c.toArray.size<_ by simp;omega) (fun j b f=>?_)).mono ?_
 ·have d:(c.all fun c=>decide (c.toNat<128))=true:=d
  have:=List.all_eq_true.1 d b (F9 f);exact Fw this
 rintro e w' ⟨rfl,f⟩;exact⟨_,rfl,f,NM _⟩
theorem cutS1_ok (s c:af) (j:ak (av (aA s) 1000) (ak (av 1 (aA c)) (av (aA c) 2))=true):aj fE 145 [.str s,.str c] (.tup [.str (oC s c),.str (qw s c),.bool (oZ s c)]):=by
 obtain⟨d,_⟩:=aO j;have d:=Wy d;refine bX fun G w vs h g f=>?_
 obtain⟨x,y,rfl,b,a⟩:=iQ f;unfold aV at b a;subst b;subst a;have i:=QA (E:=fE) h g (n:=3) (k:=.i64) (m:=kM.val) rfl;refine(Go.Proofs.Tryz.strings_Cut ⟨s.toArray⟩ ⟨c.toArray⟩ _ w (show s.toArray.size<_ by simp;omega) i).mono ?_;rintro e w' ⟨rfl,n,rfl⟩;exact⟨_,rfl,Nt.below_drewN (Below.refl _ _) n,NN (vs:=[_,_,_]) (.cons (Ij _) (.cons (Ij _) (.cons (LP _) .nil)))⟩
theorem fS_ok:bf fE fS:=by
 unfold fS;refine bf.cons (fun args r h=>?_) (bf.cons (fun args r h=>?_) bf.nil);all_goals (revert h;intro h;first|unfold trimS1 at h|unfold cutS1 at h)
 all_goals (split at h;rotate_left; · cases h)
 all_goals (simp only[aR,bM] at h;obtain⟨a,rfl⟩:=h)
 ·exact adC _ _ a
 exact cutS1_ok _ _ a
def BD:af:=[65,66,67,68,69,70,71,72,73,74,75,76,77,78,79,80,81,82,83,84,85,86,87,88,89,90,97,98,99,100,101,102,103,104,105,106,107,108,109,110,111,112,113,114,115,116,117,118,119,120,121,122,48,49,50,51,52,53,54,55,56,57,43,45]
theorem SH (c:UInt8):BD.contains c=kF c:=by
 have h: ∀n:Fin 256,BD.contains (UInt8.ofNat n)=kF (UInt8.ofNat n):=by decide+kernel
 have:=h ⟨c.toNat,c.toNat_lt⟩;simpa using this
theorem drop_nil (p:UInt8→Bool): ∀l:af,l.dropWhile p=[]↔ ∀x∈l,p x=true
 |[]=>by simp
 |x::l=>by
  rw[abm]
  cases h:p x with
  |true=>simp[h,drop_nil p l]
  |false=>simp[h]
theorem QX (p:UInt8→Bool): ∀(l:af) (x:UInt8),x∈l.takeWhile p→p x=true
 |[],_,h=>by cases h
 |y::l,x,h=>by
  rw[abg] at h
  cases a:p y with
  |true=>
   rw[a,if_pos rfl,Yy] at h;rcases h with rfl|h
   ·exact a
   exact QX p l x h
  |false=>rw[a] at h;cases h
theorem adD (s:af):seq (Qc s BD) []=dm s:=by
 unfold seq Qc Lib.trimS Lib.trimLeftS Lib.trimRightS;simp only[SH];rw[uF,iM,drop_nil];unfold dm;rw[l8];constructor
 ·intro h x a
  have a:x∈s.reverse:=by simpa using a
  rw[←List.takeWhile_append_dropWhile (p:=fun x=>kF x) (l:=s.reverse),aby] at a;rcases a with a|a
  ·exact QX _ _ _ a
  exact h x (by simpa using a)
 intro h x a;rw[List.mem_reverse] at a;have:=(List.dropWhile_sublist (fun x=>kF x)).subset a;exact h x (by simpa using this)
theorem adE (s:af) (b:av (aA s) 1000=true):aj fE 81 [.str s] (.bool (dm s)):=by refine au gL fS_ok 5 2 ?_;rw[adB];have a:=adD s;unfold BD at a;rw[a,b,ax (by decide)]
theorem Ng:bf fE fS2:=by
 unfold fS2;refine bf.cons (fun args r h=>?_) fS_ok;all_goals (revert h;intro h;first|unfold fWordS at h)
 all_goals (split at h;rotate_left; · cases h)
 all_goals (simp only[aR,bM] at h;obtain⟨a,rfl⟩:=h)
 ·exact adE _ a
theorem selT (x y:Option V):sel true x y=x:=rfl
theorem sel_and2 (b c:Bool) (X T:Option V):sel (aL b) (sel c X T) T=if¬(b=true)∧c=true then X else T:=by cases b<;>cases c<;>rfl
theorem sel_and3 (a b c:Bool) (X T:Option V):sel a (sel b (sel c X T) T) T=if a=true∧b=true∧c=true then X else T:=by cases a<;>cases b<;>cases c<;>rfl
theorem sel_and5 (a b c d e:Bool) (X T:Option V):sel a (sel (aL b) (sel (aL c) (sel d (sel e X T) T) T) T) T=if a=true∧ ¬(b=true)∧ ¬(c=true)∧d=true∧e=true then X else T:=by cases a<;>cases b<;>cases c<;>cases d<;>cases e<;>rfl
theorem FM (s c:af):(oC s c).length≤s.length∧(qw s c).length≤s.length:=by unfold oC qw Lib.cut;split<;>simp<;>omega
theorem fCutS_ok (s:af) (a:av (aA s) 1000=true):aj fE 106 [.str s] (.tup [.int .i64 (fkK s),.str (fkA s),.str (fkZ s)]):=by
 refine au gL Ng 5 2 ?_
 (rw[fCut_top];(conv=>zeta))
 have h:=Wy a;have c:av (aA (oC s [37,115])) 1000=true:=bg (by have:=(FM s [37,115]).1;rw[aI];omega);have d:av (aA (qw s [37,115])) 1000=true:=bg (by have:=(FM s [37,115]).2;rw[aI];omega);have f:av (aA (oC s [47])) 1000=true:=bg (by have:=(FM s [47]).1;rw[aI];omega);have b:av (aA (qw s [47])) 1000=true:=bg (by have:=(FM s [47]).2;rw[aI];omega);have e:ak (av (aA s) 1000) (ak (av 1 (aA [37,115])) (av (aA [37,115]) 2))=true:=by rw[a];rfl
 have g:ak (av (aA s) 1000) (ak (av 1 (aA [47])) (av (aA [47]) 2))=true:=by rw[a];rfl
 simp only[e,g];simp only[a,c,d,f,b,selT];unfold fkK fkA fkZ;rw[←kindP_eq];unfold kindP perc slash;rw[sel_and5,sel_and3,sel_and2,bK];simp only[cK,show @Ku.oC= @Nt.Ev.YtknhlobahpgkeaaGreatDoor.oC from rfl,show @Ku.qw= @Nt.Ev.YtknhlobahpgkeaaGreatDoor.qw from rfl,show @Ku.oZ= @Nt.Ev.YtknhlobahpgkeaaGreatDoor.oZ from rfl];split
 ·rfl
 split
 ·rfl
 split
 ·rfl
 split<;>rfl
theorem fSl_ok:bf fE fSl:=by unfold fSl;refine Ng
section
variable (F n:Nat) (a:Nat) (xs:ah) (hx:xs.length≤10) (K:V→Option V)
end
theorem Nh:bf fE fS3:=by
 unfold fS3;refine bf.cons (fun args r h=>?_) fSl_ok;all_goals (revert h;intro h;first|unfold fCutS at h)
 all_goals (split at h;rotate_left; · cases h)
 all_goals (simp only[aR,bM] at h;obtain⟨a,rfl⟩:=h)
 ·exact fCutS_ok _ a
theorem DF (s:af) (b:av (aA s) 1000=true):aj fE 87 [.str s] (.int .i64 (ja s)):=by
 refine au gL Nh 5 2 ?_;rw[zU,b];unfold ja;by_cases h:16<s.length
 ·rw[ax (bH (by rw[aI];omega)),if_pos h]
 rw[aK (bF (by rw[aI];omega)),if_neg h,selT];by_cases a:fkK s=0
 ·rw[if_pos a,ax (bn a)]
 rw[if_neg a,aK (bD a)]
theorem Jl (s:af) (d:av (aA s) 1000=true):aj fE 58 [.str s] (.tup [.str (Aq s),.int .i64 (Ah s)]):=by
 refine au gL Ng 5 2 ?_
 (rw[EL];(conv=>zeta);rw[d])
 unfold Aq Ah leP;simp only[selT,bK,bq,cK,aI,bW];by_cases a:s=[45]
 ·rw[if_pos a,if_pos a]
 rw[if_neg a,if_neg a];by_cases c:6<s.length
 ·rw[if_pos (by omega),if_pos c]
 rw[if_neg (by omega),if_neg c];by_cases b:s=[]
 ·rw[if_pos b,if_pos (.inl b)]
 rw[if_neg b]
 cases e:Ku.dm s with
 |true=>simp[b]
 |false=>simp
theorem fS4_ok:bf fE fS4:=by
 unfold fS4;refine bf.cons (fun args r h=>?_) (bf.cons (fun args r h=>?_) Nh);all_goals (revert h;intro h;first|unfold checkS at h|unfold Xu at h)
 all_goals (split at h;rotate_left; · cases h)
 all_goals (simp only[aR,bM] at h;obtain⟨a,rfl⟩:=h)
 ·exact DF _ a
 exact Jl _ a
end Nt.Ev.YtknhlobahpgkeaaGreatDoor
namespace Nt.Ku
end Nt.Ku
namespace Nt.Ev.YtknhlobahpgkeaaGreatDoor
open Go Go.RowKit Nt Nt.Num Nt.Ku Go.Proofs.YtknhlobahpgkeaaGreatDoor
variable [kM]
def ltP (s:af):af×Int:=if s=[] then([45],0) else if Ah s≠0∨Aq s≠s then([],4) else(s,0)
def Gg (s:af):af:=(ltP s).1
def JV (s:af):Int:=(ltP s).2
theorem ck_len {s:af} (h:ja s=0):s.length≤16∧fkK s≠0:=by
 unfold ja at h;by_cases a:16<s.length
 ·rw[if_pos a] at h;cases h
 rw[if_neg a] at h;by_cases b:fkK s=0
 ·rw[if_pos b] at h;cases h
 exact⟨by omega,b⟩
theorem LY (s:af) (e:s.length≤1000):aj fE 32 [.str s] (.tup [.str (Gg s),.int .i64 (JV s)]):=by
 refine au gL fS4_ok 5 2 ?_;have d:av (aA s) 1000=true:=bg (by rw[aI];omega)
 (rw[Vw];(conv=>zeta);rw[d,selT])
 unfold Gg JV ltP;simp only[bK,cK,bW,aN];by_cases a:s=[]
 ·rw[if_pos a,if_pos a]
 rw[if_neg a,if_neg a];by_cases c:Ah s=0
 ·rw[if_neg (by simpa using c)]
  by_cases b:Aq s=s
  ·rw[if_neg (by simpa using b),if_neg (by simp[c,b])]
  rw[if_pos b,if_pos (.inr b)]
 rw[if_pos c,if_pos (.inl c)]
theorem Xl (t:af) (h:JV t=0):Ah (Gg t)=0∧Aq (Gg t)=t:=by
 unfold JV ltP at h;unfold Gg ltP;by_cases b:t=[]
 ·rw[if_pos b];subst b;decide
 rw[if_neg b] at h⊢;by_cases a:Ah t≠0∨Aq t≠t
 ·rw[if_pos a] at h;cases h
 rw[if_neg a];rw[not_or,Decidable.not_not,Decidable.not_not] at a;exact a
end Nt.Ev.YtknhlobahpgkeaaGreatDoor
