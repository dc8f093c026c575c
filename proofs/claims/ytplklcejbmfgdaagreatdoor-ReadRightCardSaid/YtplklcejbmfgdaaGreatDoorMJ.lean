/-
  The plain law of formats: what is a name, where it is cut, which kind it is. Formats, further: how a difference is written; what the document's check asks. Format: equations of functions, as the evaluator prints them. Formats: what the program's functions and the document's answer. Formats: what a time is called, both sides. FormatLaw: equations of functions, as the evaluator prints them. Formats: the statements FormatTells and FormatHangs.
-/
import Derived.Lib.IndexMore
import Derived.Test.YtplklcejbmfgdaaGreatDoorME
set_option linter.unusedVariables false
set_option linter.unusedSimpArgs false
set_option linter.unusedSectionVars false
namespace Nt.Tj
open Go
def nA (c:UInt8):Bool:=decide ((65≤c.toNat∧c.toNat≤90)∨(97≤c.toNat∧c.toNat≤122)∨(48≤c.toNat∧c.toNat≤57)∨c.toNat=43∨c.toNat=45)
def dw (s:List UInt8):Bool:=s.all nA
def tJ (s w:List UInt8):List UInt8→Int×List UInt8×List UInt8
 |[]=>if w=[] then(0,[],[]) else(1,s,[])
 |c::t=>
  if c=37 then
   match t with
   |[]=>(0,[],[])
   |x::b=>if x=115 then(if dw b=true then(2,w,b) else(0,[],[])) else if x=122∧b=[]∧w=[] then(3,[],[]) else(0,[],[])
  else if c=47 then(if w≠[]∧t≠[]∧dw t=true then(4,w,t) else(0,[],[])) else(0,[],[])
def G7 (s:List UInt8):Int×List UInt8×List UInt8:=tJ s (s.takeWhile nA) (s.dropWhile nA)
theorem FK: ∀s:List UInt8,s=s.takeWhile nA++s.dropWhile nA∧dw (s.takeWhile nA)=true∧(s.dropWhile nA=[]∨ ∃c t,s.dropWhile nA=c::t∧nA c=false)
 |[]=>⟨rfl,rfl,.inl rfl⟩
 |c::l=>by
  obtain⟨h1,h2,h3⟩:=FK l
  cases hc:nA c with
  |true=>
   rw[List.takeWhile_cons,List.dropWhile_cons,hc];simp only[if_true];refine⟨by rw[List.cons_append,←h1],?_,h3⟩;unfold dw at h2⊢;rw[List.all_cons,hc,h2];rfl
  |false=>
   rw[List.takeWhile_cons,List.dropWhile_cons,hc];simp only[Bool.false_eq_true,if_false];exact⟨rfl,rfl,.inr ⟨c,l,rfl,hc⟩⟩
theorem Zv (w r:List UInt8) (hw:dw w=true) (hr:r=[]∨ ∃c t,r=c::t∧nA c=false):(w++r).takeWhile nA=w∧(w++r).dropWhile nA=r:=by
 induction w with
 |nil=>
  rcases hr with rfl|⟨c,t,rfl,hc⟩
  ·exact⟨rfl,rfl⟩
  ·simp[List.takeWhile_cons,List.dropWhile_cons,hc]
 |cons a w ih=>
  unfold dw at hw;rw[List.all_cons,Bool.and_eq_true] at hw;obtain⟨i1,i2⟩:=ih hw.2;rw[List.cons_append,List.takeWhile_cons,List.dropWhile_cons,hw.1,i1,i2];simp
theorem kind_of (w r:List UInt8) (hw:dw w=true) (hr:r=[]∨ ∃c t,r=c::t∧nA c=false):G7 (w++r)=tJ (w++r) w r:=by
 unfold G7;obtain⟨h1,h2⟩:=Zv w r hw hr;rw[h1,h2]
theorem ET {w:List UInt8} (h:dw w=true) {c:UInt8} (hc:c∈w):nA c=true:=List.all_eq_true.1 h c hc
theorem Zw (a b:List UInt8):dw (a++b)=(dw a&&dw b):=by unfold dw;rw[List.all_append]
theorem MV (w r:List UInt8) (x:UInt8) (sep:List UInt8) (hw:dw w=true) (hx:nA x=false):
  (∃b,r=x::sep++b∧Lib.cut (w++r) (x::sep)=(w,b,true))∨
  ((x::sep).isPrefixOf r=false∧(Lib.cut (w++r) (x::sep)=(w++r,[],false)∨ ∃a b,Lib.cut (w++r) (x::sep)=(a,b,true)∧w.length<a.length∧a<+:w++r)):=by
 have hbef: ∀j,j<w.length→Lib.occAt (w++r) (x::sep) j=false:=by
  intro j hj;unfold Lib.occAt;rw[List.drop_append_of_le_length (by omega),List.drop_eq_getElem_cons hj,List.cons_append,List.isPrefixOf];have:(x==w[j])=false:=by
   rw[beq_eq_false_iff_ne];intro e;have:=ET hw (List.getElem_mem hj);rw[←e,hx] at this
   cases this
  rw[this];rfl
 by_cases hp:(x::sep).isPrefixOf r=true
 ·left
  rw[List.isPrefixOf_iff_prefix] at hp;obtain⟨b,hb⟩:=hp;refine⟨b,hb.symm,?_⟩;have hi:Lib.index (w++r) (x::sep)=(w.length:Nat):=Lib.index_first (by simp) (by
   unfold Lib.occAt;rw[List.drop_left,List.isPrefixOf_iff_prefix];exact⟨b,hb⟩) hbef
  unfold Lib.cut;rw[hi,if_pos (by omega),Int.toNat_natCast,List.take_left,←List.drop_drop,List.drop_left,←hb,List.drop_left]
 ·right
  have hp:(x::sep).isPrefixOf r=false:=Bool.eq_false_iff.2 hp;refine⟨hp,?_⟩;rcases Lib.index_spec (w++r) (x::sep) with⟨h1,_⟩|⟨i,h1,h2,h3,_⟩
  ·left
   unfold Lib.cut;rw[h1,if_neg (by decide)]
  ·right
   have hge:w.length<i:=by
    rcases Nat.lt_trichotomy i w.length with hlt|heq|hgt
    ·rw[hbef i hlt] at h3;cases h3
    ·subst heq
     unfold Lib.occAt at h3;rw[List.drop_left,hp] at h3;cases h3
    ·exact hgt
   refine⟨(w++r).take i,(w++r).drop (i+(x::sep).length),?_,?_,List.take_prefix _ _⟩
   ·unfold Lib.cut
    rw[h1,if_pos (by omega),Int.toNat_natCast]
   ·rw[List.length_take];omega
theorem IQ (w r a:List UInt8) (hr:r=[]∨ ∃c t,r=c::t∧nA c=false) (hl:w.length<a.length) (hp:a<+:w++r):dw a=false:=by
 obtain⟨t,ht⟩:=hp;have hlen:=congrArg List.length ht;rw[List.length_append,List.length_append] at hlen;rcases hr with rfl|⟨c,t',rfl,hc⟩
 ·simp at hlen;omega
 ·have h1:(a++t)[w.length]? =some c:=by rw[ht];simp
  rw[List.getElem?_append_left hl] at h1
  cases hw:dw a with
  |false=>rfl
  |true=>
   have:=ET hw (List.mem_of_getElem? h1);rw[hc] at this;cases this
def nM (s c:List UInt8):List UInt8:=(Lib.cut s c).1
def pz (s c:List UInt8):List UInt8:=(Lib.cut s c).2.1
def og (s c:List UInt8):Bool:=(Lib.cut s c).2.2
def slash (s:List UInt8):Prop:=og s [47]=true∧nM s [47]≠[]∧pz s [47]≠[]∧dw (nM s [47])=true∧dw (pz s [47])=true
def WE (s:List UInt8):Prop:=og s [37,115]=true∧dw (nM s [37,115])=true∧dw (pz s [37,115])=true
instance (s):Decidable (slash s):=inferInstanceAs (Decidable (_∧_))
instance (s):Decidable (WE s):=inferInstanceAs (Decidable (_∧_))
def Xg (s : List UInt8) : Int × List UInt8 × List UInt8 :=
  if s = [37, 122] then (3, [], []) else if WE s then (2, nM s [37, 115], pz s [37, 115]) else if slash s then (4, nM s [47], pz s [47]) else if s ≠ [] ∧ dw s = true then (1, s, []) else (0, [], [])
theorem Zx (w r:List UInt8) (hw:dw w=true) (hr:r=[]∨ ∃c t,r=c::t∧nA c=false):
  (∃b,r=37::115::b∧dw b=true∧WE (w++r)∧nM (w++r) [37,115]=w∧pz (w++r) [37,115]=b)∨(¬WE (w++r)∧ ∀b,r=37::115::b→dw b=false):=by
 rcases MV w r 37 [115] hw (by decide) with⟨b,rfl,hc⟩|⟨hp,hc⟩
 ·have h1:nM (w++(37::[115]++b)) [37,115]=w:=by unfold nM;rw[hc]
  have h2:pz (w++(37::[115]++b)) [37,115]=b:=by unfold pz;rw[hc]
  have h3:og (w++(37::[115]++b)) [37,115]=true:=by unfold og;rw[hc]
  cases hb:dw b with
  |true=>exact .inl ⟨b,rfl,hb,⟨h3,by rw[h1];exact hw,by rw[h2];exact hb⟩,h1,h2⟩
  |false=>
   refine .inr ⟨fun h=>?_,fun b' e=>?_⟩
   ·have:=h.2.2
    rw[h2,hb] at this;cases this
   ·simp at e;rw[←e];exact hb
 ·refine .inr ⟨fun h=>?_,fun b e=>?_⟩
  ·rcases hc with hc|⟨a,b,hc,hl,hpre⟩
   ·have:=h.1;unfold og at this;rw[hc] at this;cases this
   ·have h2:=h.2.1
    unfold nM at h2;rw[hc] at h2;rw[IQ w r a hr hl hpre] at h2;cases h2
  ·rw[e] at hp;simp[List.isPrefixOf] at hp
theorem Vl (w r:List UInt8) (hw:dw w=true) (hr:r=[]∨ ∃c t,r=c::t∧nA c=false):
  (∃b,r=47::b∧b≠[]∧w≠[]∧dw b=true∧slash (w++r)∧nM (w++r) [47]=w∧pz (w++r) [47]=b)∨(¬slash (w++r)∧ ∀b,r=47::b→ ¬(w≠[]∧b≠[]∧dw b=true)):=by
 rcases MV w r 47 [] hw (by decide) with⟨b,rfl,hc⟩|⟨hp,hc⟩
 ·have h1:nM (w++(47::[]++b)) [47]=w:=by unfold nM;rw[hc]
  have h2:pz (w++(47::[]++b)) [47]=b:=by unfold pz;rw[hc]
  have h3:og (w++(47::[]++b)) [47]=true:=by unfold og;rw[hc]
  by_cases hb:w≠[]∧b≠[]∧dw b=true
  ·exact .inl ⟨b,rfl,hb.2.1,hb.1,hb.2.2,⟨h3,by rw[h1];exact hb.1,by rw[h2];exact hb.2.1,by rw[h1];exact hw,by rw[h2];exact hb.2.2⟩,h1,h2⟩
  ·refine .inr ⟨fun h=>hb ?_,fun b' e=>?_⟩
   ·obtain⟨_,k1,k2,_,k4⟩:=h
    rw[h1] at k1;rw[h2] at k2 k4;exact⟨k1,k2,k4⟩
   ·simp at e;rw[←e];exact hb
 ·refine .inr ⟨fun h=>?_,fun b e=>?_⟩
  ·rcases hc with hc|⟨a,b,hc,hl,hpre⟩
   ·have:=h.1;unfold og at this;rw[hc] at this;cases this
   ·have h2:=h.2.2.2.1
    unfold nM at h2;rw[hc] at h2;rw[IQ w r a hr hl hpre] at h2;cases h2
  ·rw[e] at hp;simp[List.isPrefixOf] at hp
theorem Zy (s:List UInt8):Xg s=G7 s:=by
 obtain⟨h1,hw,hr⟩:=FK s;generalize s.takeWhile nA=w at*;generalize s.dropWhile nA=r at*;subst h1;rw[kind_of w r hw hr];unfold Xg;by_cases hz:w++r=[37,122]
 ·rw[if_pos hz]
  have hw0:w=[]:=by
   cases w with
   |nil=>rfl
   |cons a w=>
    have:a=37:=by simpa using(List.cons.inj hz).1
    subst this;have:=ET hw List.mem_cons_self;exact absurd this (by decide)
  subst hw0;have:r=[37,122]:=hz;subst this;rfl
 ·rw[if_neg hz]
  rcases Zx w r hw hr with⟨b,rfl,hb,hp,e1,e2⟩|⟨hp,hpn⟩
  ·rw[if_pos hp,e1,e2]
   simp[tJ,hb]
  ·rw[if_neg hp]
   rcases Vl w r hw hr with⟨b,rfl,hb0,hw0,hb,hs,e1,e2⟩|⟨hs,hsn⟩
   ·rw[if_pos hs,e1,e2]
    simp[tJ,hw0,hb0,hb]
   ·rw[if_neg hs]
    rcases hr with rfl|⟨c,t,rfl,hc⟩
    ·rw[List.append_nil]
     by_cases h0:w=[]
     ·simp[tJ,h0]
     ·simp[tJ,h0,hw]
    ·have hnw:dw (w++c::t)=false:=by
      rw[Zw];unfold dw;rw[List.all_cons,hc];simp
     rw[if_neg (fun h=>by rw[hnw] at h;cases h.2)];by_cases h37:c=37
     ·subst h37
      cases t with
      |nil=>simp[tJ]
      |cons x b=>
       by_cases hx:x=115
       ·subst hx
        simp[tJ,hpn b rfl]
       ·have: ¬(x=122∧b=[]∧w=[]):=by
         rintro⟨rfl,rfl,rfl⟩;exact hz rfl
        simp[tJ,hx];intro h1 h2 h3;exact absurd ⟨h1,h2,h3⟩ this
     ·by_cases h47:c=47
      ·subst h47
       have:=hsn t rfl;simp[tJ];intro h1 h2
       cases hb:dw t with
       |false=>rfl
       |true=>exact absurd ⟨h1,h2,hb⟩ this
      ·simp[tJ,h37,h47]
end Nt.Tj
namespace Nt.Ev.YtplklcejbmfgdaaGreatDoor
set_option maxRecDepth 100000
open Go Nt.Num Go.Proofs.YtplklcejbmfgdaaGreatDoor
variable [mJ]
noncomputable def fE:Env:=⟨Go.Proofs.Tryz.prog,fun g=>bif g==3 then some (.rptr [.int .i64] (.int .i64 mJ.val) 0) else none⟩
def PD (l:List UInt8):Bool:=l.all fun c=>decide (c.toNat<128)
def LX (s c:List UInt8):List UInt8:=Lib.trimS s c
def nM (s c:List UInt8):List UInt8:=(Lib.cut s c).1
def pz (s c:List UInt8):List UInt8:=(Lib.cut s c).2.1
def og (s c:List UInt8):Bool:=(Lib.cut s c).2.2
noncomputable def Ya:aF:=fun a=>match a with|[.str s,.str c]=>some (ak (ai (aj s) 1000) (ak (ai (aj c) 1000) (PD c)),.str (LX s c))|_=>none
noncomputable def cutS1:aF:=fun a=>match a with|[.str s,.str c]=>some (ak (ai (aj s) 1000) (ak (ai 1 (aj c)) (ai (aj c) 2)),.tup [.str (nM s c),.str (pz s c),.bool (og s c)])|_=>none
noncomputable def fS:List (Nat×aF):=(111,Ya)::(97,cutS1)::[]
open Nt.Tj
noncomputable def Yb:aF:=fun a=>match a with|[.str s]=>some (ai (aj s) 1000,.bool (dw s))|_=>none
noncomputable def fS2:List (Nat×aF):=(94,Yb)::fS
def fkK (s:List UInt8):Int:=(Tj.G7 s).1
def fkA (s:List UInt8):List UInt8:=(Tj.G7 s).2.1
def fkZ (s:List UInt8):List UInt8:=(Tj.G7 s).2.2
noncomputable def fCutS:aF:=fun a=>match a with|[.str s]=>some (ai (aj s) 1000,.tup [.int .i64 (fkK s),.str (fkA s),.str (fkZ s)])|_=>none
noncomputable def fSl:List (Nat×aF):=fS2
noncomputable def fS3:List (Nat×aF):=(76,fCutS)::fSl
def jG (s:List UInt8):Int:=if 16<s.length then 9 else if fkK s=0 then 4 else 0
noncomputable def Yc:aF:=fun a=>match a with|[.str s]=>some (ai (aj s) 1000,.int .i64 (jG s))|_=>none
def leP (s:List UInt8):List UInt8×Int:=if s=[45] then([],0) else if 6<s.length then([],9) else if s=[]∨dw s=false then([],4) else(s,0)
def Db (s:List UInt8):List UInt8:=(leP s).1
def Dc (s:List UInt8):Int:=(leP s).2
noncomputable def Sw:aF:=fun a=>match a with|[.str s]=>some (ai (aj s) 1000,.tup [.str (Db s),.int .i64 (Dc s)])|_=>none
noncomputable def fS4:List (Nat×aF):=(45,Yc)::(70,Sw)::fS3
theorem Vm (F:Nat) (s:List UInt8) (K:V→Option V):
 cr fE (bV fE fS F 2) F 94 [V.str s] K=
 sel (ak (ai (aj s) 1000) (ak (ai (aj [65,66,67,68,69,70,71,72,73,74,75,76,77,78,79,80,81,82,83,84,85,86,87,88,89,90,97,98,99,100,101,102,103,104,105,106,107,108,109,110,111,112,113,114,115,116,117,118,119,120,121,122,48,49,50,51,52,53,54,55,56,57,43,45]) 1000) (PD [65,66,67,68,69,70,71,72,73,74,75,76,77,78,79,80,81,82,83,84,85,86,87,88,89,90,97,98,99,100,101,102,103,104,105,106,107,108,109,110,111,112,113,114,115,116,117,118,119,120,121,122,48,49,50,51,52,53,54,55,56,57,43,45]))) (K (V.bool (seq (LX s [65,66,67,68,69,70,71,72,73,74,75,76,77,78,79,80,81,82,83,84,85,86,87,88,89,90,97,98,99,100,101,102,103,104,105,106,107,108,109,110,111,112,113,114,115,116,117,118,119,120,121,122,48,49,50,51,52,53,54,55,56,57,43,45]) []))) none:=by kernel_rfl
theorem Zz (F:Nat) (s:List UInt8) (K:V→Option V):
 cr fE (bV fE fS2 F 2) F 76 [V.str s] K=
 let C:=V.str [];let D:=ai (aj s) 1000;let E:=nM s [47];let G:=pz s [47];let H:=nM s [37,115];let I:=pz s [37,115];let J:=K (V.tup [V.int .i64 0,C,C]);let A:=sel (aG (seq s [])) (sel D (sel (dw s) (K (V.tup [V.int .i64 1,V.str s,C])) J) none) J;let B:=sel (ak D (ak (ai 1 (aj [47])) (ai (aj [47]) 2))) (sel (og s [47]) (sel (aG (seq E [])) (sel (aG (seq G [])) (sel (ai (aj E) 1000) (sel (dw E) (sel (ai (aj G) 1000) (sel (dw G) (K (V.tup [V.int .i64 4,V.str E,V.str G])) A) none) A) none) A) A) A) (none);sel (seq s [37,122]) (K (V.tup [V.int .i64 3,C,C])) (sel (ak D (ak (ai 1 (aj [37,115])) (ai (aj [37,115]) 2))) (sel (og s [37,115]) (sel (ai (aj H) 1000) (sel (dw H) (sel (ai (aj I) 1000) (sel (dw I) (K (V.tup [V.int .i64 2,V.str H,V.str I])) B) none) B) none) B) none):=by kernel_rfl
theorem Cy (F:Nat) (s:List UInt8) (K:V→Option V):
 cr fE (bV fE fS2 F 2) F 70 [V.str s] K=
 let B:=V.str [];let A:=K (V.tup [B,V.int .i64 4]);sel (seq s [45]) (K (V.tup [B,V.int .i64 0])) (sel (aT 6 (aj s)) (K (V.tup [B,V.int .i64 9])) (sel (seq s []) A (sel (ai (aj s) 1000) (sel (aG (dw s)) A (K (V.tup [V.str s,V.int .i64 0]))) none))):=by kernel_rfl
theorem FL (F:Nat) (s:List UInt8) (K:V→Option V):
 cr fE (bV fE fS3 F 2) F 45 [V.str s] K=
 sel (aT 16 (aj s)) (K (V.int .i64 9)) (sel (ai (aj s) 1000) (sel (ieq (fkK s) 0) (K (V.int .i64 4)) (K (V.int .i64 0))) none):=by kernel_rfl
theorem QI (F:Nat) (s:List UInt8) (K:V→Option V):
 cr fE (bV fE fS4 F 2) F 38 [V.str s] K=
 let A:=K (V.tup [V.str [],V.int .i64 4]);sel (seq s []) (K (V.tup [V.str [45],V.int .i64 0])) (sel (ai (aj s) 1000) (sel (aG (ieq (Dc s) 0)) A (sel (aG (seq (Db s) s)) A (K (V.tup [V.str s,V.int .i64 0])))) none):=by kernel_rfl
open Go.RowKit Nt
theorem D7:sO fE:=⟨by kernel_rfl,by kernel_rfl⟩
theorem RD {s:List UInt8} (h:ai (aj s) 1000=true):s.length≤1000:=by rw[aA,aB] at h;omega
theorem Vn (s c:List UInt8) (hc:ak (ai (aj s) 1000) (ak (ai (aj c) 1000) (PD c))=true):af fE 111 [.str s,.str c] (.str (LX s c)):=by
 obtain⟨h1,h2⟩:=aY hc;obtain⟨h2,h3⟩:=aY h2;have h1:=RD h1;have h2:=RD h2;refine bU fun G w vs hG hg hp=>?_
 obtain⟨x,y,rfl,hx,hy⟩:=kJ hp;unfold aN at hx hy;subst hx;subst hy;refine(Go.Proofs.Tryz.zM ⟨s.toArray⟩ ⟨c.toArray⟩ w (show s.toArray.size≤_ by simp;omega) (show c.toArray.size<_ by simp;omega) (fun j b hb=>?_)).mono ?_
 ·have h3:(c.all fun c=>decide (c.toNat<128))=true:=h3
  have:=List.all_eq_true.1 h3 b (List.mem_of_getElem? hb);exact of_decide_eq_true this
 ·rintro e w' ⟨rfl,hb⟩
  exact⟨_,rfl,hb,J4 _⟩
theorem ZA (s c:List UInt8) (hc:ak (ai (aj s) 1000) (ak (ai 1 (aj c)) (ai (aj c) 2))=true):af fE 97 [.str s,.str c] (.tup [.str (nM s c),.str (pz s c),.bool (og s c)]):=by
 obtain⟨h1,_⟩:=aY hc;have h1:=RD h1;refine bU fun G w vs hG hg hp=>?_
 obtain⟨x,y,rfl,hx,hy⟩:=kJ hp;unfold aN at hx hy;subst hx;subst hy;have hm:=Mw (E:=fE) hG hg (n:=3) (k:=.i64) (m:=mJ.val) rfl;refine(Go.Proofs.Tryz.strings_Cut ⟨s.toArray⟩ ⟨c.toArray⟩ _ w (show s.toArray.size<_ by simp;omega) hm).mono ?_;rintro e w' ⟨rfl,n,rfl⟩;exact⟨_,rfl,Nt.below_drewN (Below.refl _ _) n,J5 (vs:=[_,_,_]) (.cons (EO _) (.cons (EO _) (.cons (IC _) .nil)))⟩
theorem fS_ok:bq fE fS:=by
 unfold fS;refine bq.cons (fun args r h=>?_) (bq.cons (fun args r h=>?_) bq.nil);all_goals (revert h;intro h;first|unfold Ya at h|unfold cutS1 at h)
 all_goals (split at h;rotate_left; · cases h)
 all_goals (simp only[Option.some.injEq,Prod.mk.injEq] at h;obtain⟨hc,rfl⟩:=h)
 ·exact Vn _ _ hc
 ·exact ZA _ _ hc
def zf:List UInt8:=[65,66,67,68,69,70,71,72,73,74,75,76,77,78,79,80,81,82,83,84,85,86,87,88,89,90,97,98,99,100,101,102,103,104,105,106,107,108,109,110,111,112,113,114,115,116,117,118,119,120,121,122,48,49,50,51,52,53,54,55,56,57,43,45]
theorem Og (c:UInt8):zf.contains c=nA c:=by
 have h: ∀n:Fin 256,zf.contains (UInt8.ofNat n)=nA (UInt8.ofNat n):=by decide+kernel
 have:=h ⟨c.toNat,c.toNat_lt⟩;simpa using this
theorem drop_nil (p:UInt8→Bool): ∀l:List UInt8,l.dropWhile p=[]↔ ∀x∈l,p x=true
 |[]=>by simp
 |x::l=>by
  rw[List.dropWhile_cons]
  cases h:p x with
  |true=>simp[h,drop_nil p l]
  |false=>simp[h]
theorem MW (p:UInt8→Bool): ∀(l:List UInt8) (x:UInt8),x∈l.takeWhile p→p x=true
 |[],_,h=>by cases h
 |y::l,x,h=>by
  rw[List.takeWhile_cons] at h
  cases hy:p y with
  |true=>
   rw[hy,if_pos rfl,List.mem_cons] at h;rcases h with rfl|h
   ·exact hy
   ·exact MW p l x h
  |false=>rw[hy] at h;cases h
theorem Vo (s:List UInt8):seq (LX s zf) []=dw s:=by
 unfold seq LX Lib.trimS Lib.trimLeftS Lib.trimRightS;simp only[Og];rw[Bool.eq_iff_iff,beq_iff_eq,drop_nil];unfold dw;rw[List.all_eq_true];constructor
 ·intro h x hx
  have hx:x∈s.reverse:=by simpa using hx
  rw[←List.takeWhile_append_dropWhile (p:=fun x=>nA x) (l:=s.reverse),List.mem_append] at hx;rcases hx with hx|hx
  ·exact MW _ _ _ hx
  ·exact h x (by simpa using hx)
 ·intro h x hx
  rw[List.mem_reverse] at hx;have:=(List.dropWhile_sublist (fun x=>nA x)).subset hx;exact h x (by simpa using this)
theorem Vp (s:List UInt8) (hc:ai (aj s) 1000=true):af fE 94 [.str s] (.bool (dw s)):=by
 refine ah D7 fS_ok 5 2 ?_;rw[Vm];have h2:=Vo s;unfold zf at h2;rw[h2,hc,ay (by decide)]
theorem JG:bq fE fS2:=by
 unfold fS2;refine bq.cons (fun args r h=>?_) fS_ok;all_goals (revert h;intro h;first|unfold Yb at h)
 all_goals (split at h;rotate_left; · cases h)
 all_goals (simp only[Option.some.injEq,Prod.mk.injEq] at h;obtain⟨hc,rfl⟩:=h)
 ·exact Vp _ hc
theorem selT (x y:Option V):sel true x y=x:=rfl
theorem ZB (b c:Bool) (X T:Option V):sel (aG b) (sel c X T) T=if¬(b=true)∧c=true then X else T:=by cases b<;>cases c<;>rfl
theorem ZC (a b c:Bool) (X T:Option V):sel a (sel b (sel c X T) T) T=if a=true∧b=true∧c=true then X else T:=by cases a<;>cases b<;>cases c<;>rfl
theorem ZD (a b c d e:Bool) (X T:Option V):sel a (sel (aG b) (sel (aG c) (sel d (sel e X T) T) T) T) T=if a=true∧ ¬(b=true)∧ ¬(c=true)∧d=true∧e=true then X else T:=by cases a<;>cases b<;>cases c<;>cases d<;>cases e<;>rfl
theorem Dq (s c:List UInt8):(nM s c).length≤s.length∧(pz s c).length≤s.length:=by
 unfold nM pz Lib.cut;split<;>simp<;>omega
theorem ZE (s:List UInt8) (hc:ai (aj s) 1000=true):af fE 76 [.str s] (.tup [.int .i64 (fkK s),.str (fkA s),.str (fkZ s)]):=by
 refine ah D7 JG 5 2 ?_
 (rw[Zz];(conv=>zeta))
 have hl:=RD hc;have a1:ai (aj (nM s [37,115])) 1000=true:=bF (by have:=(Dq s [37,115]).1;rw[aB];omega);have a2:ai (aj (pz s [37,115])) 1000=true:=bF (by have:=(Dq s [37,115]).2;rw[aB];omega);have a3:ai (aj (nM s [47])) 1000=true:=bF (by have:=(Dq s [47]).1;rw[aB];omega);have a4:ai (aj (pz s [47])) 1000=true:=bF (by have:=(Dq s [47]).2;rw[aB];omega);have a5:ak (ai (aj s) 1000) (ak (ai 1 (aj [37,115])) (ai (aj [37,115]) 2))=true:=by rw[hc];rfl
 have a6:ak (ai (aj s) 1000) (ak (ai 1 (aj [47])) (ai (aj [47]) 2))=true:=by rw[hc];rfl
 simp only[a5,a6];simp only[hc,a1,a2,a3,a4,selT];unfold fkK fkA fkZ;rw[←Zy];unfold Xg WE slash;rw[ZD,ZC,ZB,bJ];simp only[dI,show @Tj.nM= @Nt.Ev.YtplklcejbmfgdaaGreatDoor.nM from rfl,show @Tj.pz= @Nt.Ev.YtplklcejbmfgdaaGreatDoor.pz from rfl,show @Tj.og= @Nt.Ev.YtplklcejbmfgdaaGreatDoor.og from rfl];split
 ·rfl
 ·split
  ·rfl
  ·split
   ·rfl
   ·split<;>rfl
theorem fSl_ok:bq fE fSl:=by
 unfold fSl;refine JG
section
variable (F n:Nat) (a:Nat) (xs:List V) (hx:xs.length≤10) (K:V→Option V)
end
theorem PE:bq fE fS3:=by
 unfold fS3;refine bq.cons (fun args r h=>?_) fSl_ok;all_goals (revert h;intro h;first|unfold fCutS at h)
 all_goals (split at h;rotate_left; · cases h)
 all_goals (simp only[Option.some.injEq,Prod.mk.injEq] at h;obtain⟨hc,rfl⟩:=h)
 ·exact ZE _ hc
theorem IR (s:List UInt8) (hc:ai (aj s) 1000=true):af fE 45 [.str s] (.int .i64 (jG s)):=by
 refine ah D7 PE 5 2 ?_;rw[FL,hc];unfold jG;by_cases h:16<s.length
 ·rw[ay (bD (by rw[aB];omega)),if_pos h]
 ·rw[aU (bB (by rw[aB];omega)),if_neg h,selT]
  by_cases h2:fkK s=0
  ·rw[if_pos h2,ay (bn h2)]
  ·rw[if_neg h2,aU (cO h2)]
theorem FI (s:List UInt8) (hc:ai (aj s) 1000=true):af fE 70 [.str s] (.tup [.str (Db s),.int .i64 (Dc s)]):=by
 refine ah D7 JG 5 2 ?_
 (rw[Cy];(conv=>zeta);rw[hc])
 unfold Db Dc leP;simp only[selT,bJ,bf,dI,aB,bP];by_cases h1:s=[45]
 ·rw[if_pos h1,if_pos h1]
 ·rw[if_neg h1,if_neg h1]
  by_cases h2:6<s.length
  ·rw[if_pos (by omega),if_pos h2]
  ·rw[if_neg (by omega),if_neg h2]
   by_cases h3:s=[]
   ·rw[if_pos h3,if_pos (.inl h3)]
   ·rw[if_neg h3]
    cases h4:Tj.dw s with
    |true=>simp[h3]
    |false=>simp
theorem fS4_ok:bq fE fS4:=by
 unfold fS4;refine bq.cons (fun args r h=>?_) (bq.cons (fun args r h=>?_) PE);all_goals (revert h;intro h;first|unfold Yc at h|unfold Sw at h)
 all_goals (split at h;rotate_left; · cases h)
 all_goals (simp only[Option.some.injEq,Prod.mk.injEq] at h;obtain⟨hc,rfl⟩:=h)
 ·exact IR _ hc
 ·exact FI _ hc
end Nt.Ev.YtplklcejbmfgdaaGreatDoor
namespace Nt.Tj
end Nt.Tj
namespace Nt.Ev.YtplklcejbmfgdaaGreatDoor
open Go Go.RowKit Nt Nt.Num Nt.Tj Go.Proofs.YtplklcejbmfgdaaGreatDoor
variable [mJ]
def ltP (s:List UInt8):List UInt8×Int:=if s=[] then([45],0) else if Dc s≠0∨Db s≠s then([],4) else(s,0)
def ltT (s:List UInt8):List UInt8:=(ltP s).1
def Ti (s:List UInt8):Int:=(ltP s).2
theorem Yd {s:List UInt8} (h:jG s=0):s.length≤16∧fkK s≠0:=by
 unfold jG at h;by_cases h1:16<s.length
 ·rw[if_pos h1] at h;cases h
 ·rw[if_neg h1] at h
  by_cases h2:fkK s=0
  ·rw[if_pos h2] at h;cases h
  ·exact⟨by omega,h2⟩
theorem UY (s:List UInt8) (hs:s.length≤1000):af fE 38 [.str s] (.tup [.str (ltT s),.int .i64 (Ti s)]):=by
 refine ah D7 fS4_ok 5 2 ?_;have hc:ai (aj s) 1000=true:=bF (by rw[aB];omega)
 (rw[QI];(conv=>zeta);rw[hc,selT])
 unfold ltT Ti ltP;simp only[bJ,dI,bP,aK];by_cases h1:s=[]
 ·rw[if_pos h1,if_pos h1]
 ·rw[if_neg h1,if_neg h1]
  by_cases h2:Dc s=0
  ·rw[if_neg (by simpa using h2)]
   by_cases h3:Db s=s
   ·rw[if_neg (by simpa using h3),if_neg (by simp[h2,h3])]
   ·rw[if_pos h3,if_pos (.inr h3)]
  ·rw[if_pos h2,if_pos (.inl h2)]
end Nt.Ev.YtplklcejbmfgdaaGreatDoor
