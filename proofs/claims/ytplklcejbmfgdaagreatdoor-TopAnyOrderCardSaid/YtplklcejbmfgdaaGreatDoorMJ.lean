/-
  The plain law of formats: what is a name, where it is cut, which kind it is. Formats, further: how a difference is written; what the document's check asks. Format: equations of functions, as the evaluator prints them. Formats: what the program's functions and the document's answer. Formats: what a time is called, both sides. FormatLaw: equations of functions, as the evaluator prints them. Formats: the statements FormatTells and FormatHangs.
-/
import Derived.Lib.IndexMore
import Derived.Test.YtplklcejbmfgdaaGreatDoorME
set_option linter.unusedVariables false
set_option linter.unusedSimpArgs false
set_option linter.unusedSectionVars false
namespace Nt.JX
open Go
def kg (c:UInt8):Bool:=decide ((65≤c.toNat∧c.toNat≤90)∨(97≤c.toNat∧c.toNat≤122)∨(48≤c.toNat∧c.toNat≤57)∨c.toNat=43∨c.toNat=45)
def cZ (s:List UInt8):Bool:=s.all kg
def rC (s w:List UInt8):List UInt8→Int×List UInt8×List UInt8
 |[]=>if w=[] then(0,[],[]) else(1,s,[])
 |c::t=>
  if c=37 then
   match t with
   |[]=>(0,[],[])
   |x::b=>if x=115 then(if cZ b=true then(2,w,b) else(0,[],[])) else if x=122∧b=[]∧w=[] then(3,[],[]) else(0,[],[])
  else if c=47 then(if w≠[]∧t≠[]∧cZ t=true then(4,w,t) else(0,[],[])) else(0,[],[])
def Du (s:List UInt8):Int×List UInt8×List UInt8:=rC s (s.takeWhile kg) (s.dropWhile kg)
theorem zR: ∀s:List UInt8,s=s.takeWhile kg++s.dropWhile kg∧cZ (s.takeWhile kg)=true∧(s.dropWhile kg=[]∨ ∃c t,s.dropWhile kg=c::t∧kg c=false)
 |[]=>⟨rfl,rfl,.inl rfl⟩
 |c::l=>by
  obtain⟨h1,h2,h3⟩:=zR l
  cases hc:kg c with
  |true=>
   rw[List.takeWhile_cons,List.dropWhile_cons,hc];simp only[if_true];refine⟨by rw[List.cons_append,←h1],?_,h3⟩;unfold cZ at h2⊢;rw[List.all_cons,hc,h2];rfl
  |false=>
   rw[List.takeWhile_cons,List.dropWhile_cons,hc];simp only[Bool.false_eq_true,if_false];exact⟨rfl,rfl,.inr ⟨c,l,rfl,hc⟩⟩
theorem parts_of (w r:List UInt8) (hw:cZ w=true) (hr:r=[]∨ ∃c t,r=c::t∧kg c=false):(w++r).takeWhile kg=w∧(w++r).dropWhile kg=r:=by
 induction w with
 |nil=>
  rcases hr with rfl|⟨c,t,rfl,hc⟩
  ·exact⟨rfl,rfl⟩
  ·simp[List.takeWhile_cons,List.dropWhile_cons,hc]
 |cons a w ih=>
  unfold cZ at hw;rw[List.all_cons,Bool.and_eq_true] at hw;obtain⟨i1,i2⟩:=ih hw.2;rw[List.cons_append,List.takeWhile_cons,List.dropWhile_cons,hw.1,i1,i2];simp
theorem Nr (w r:List UInt8) (hw:cZ w=true) (hr:r=[]∨ ∃c t,r=c::t∧kg c=false):Du (w++r)=rC (w++r) w r:=by
 unfold Du;obtain⟨h1,h2⟩:=parts_of w r hw hr;rw[h1,h2]
theorem vH {w:List UInt8} (h:cZ w=true) {c:UInt8} (hc:c∈w):kg c=true:=List.all_eq_true.1 h c hc
theorem word_app (a b:List UInt8):cZ (a++b)=(cZ a&&cZ b):=by unfold cZ;rw[List.all_append]
theorem Qg (w r:List UInt8) (x:UInt8) (sep:List UInt8) (hw:cZ w=true) (hx:kg x=false):
  (∃b,r=x::sep++b∧Lib.cut (w++r) (x::sep)=(w,b,true))∨
  ((x::sep).isPrefixOf r=false∧(Lib.cut (w++r) (x::sep)=(w++r,[],false)∨ ∃a b,Lib.cut (w++r) (x::sep)=(a,b,true)∧w.length<a.length∧a<+:w++r)):=by
 have hbef: ∀j,j<w.length→Lib.occAt (w++r) (x::sep) j=false:=by
  intro j hj;unfold Lib.occAt;rw[List.drop_append_of_le_length (by omega),List.drop_eq_getElem_cons hj,List.cons_append,List.isPrefixOf];have:(x==w[j])=false:=by
   rw[beq_eq_false_iff_ne];intro e;have:=vH hw (List.getElem_mem hj);rw[←e,hx] at this
   cases this
  rw[this];rfl
 by_cases hp:(x::sep).isPrefixOf r=true
 ·left
  rw[List.isPrefixOf_iff_prefix] at hp;obtain⟨b,hb⟩:=hp;refine⟨b,hb.symm,?_⟩;have hi:Lib.index (w++r) (x::sep)=(w.length:Nat):=Lib.index_first (by simp) (by
   unfold Lib.occAt;rw[List.drop_left,List.isPrefixOf_iff_prefix];exact⟨b,hb⟩) hbef
  unfold Lib.cut;rw[hi,if_pos (by omega),Int.toNat_natCast,List.take_left,←List.drop_drop,List.drop_left,←hb,List.drop_left]
 ·right
  have hp:(x::sep).isPrefixOf r=false:=Bool.eq_false_iff.2 hp;refine⟨hp,?_⟩;rcases Lib.index_spec (w++r) (x::sep) with⟨h1,_⟩|⟨i,h1,h2,h3,_⟩
  ·left
   unfold Lib.cut;rw[h1,if_neg (by decide)]
  ·right
   have hge:w.length<i:=by
    rcases Nat.lt_trichotomy i w.length with hlt|heq|hgt
    ·rw[hbef i hlt] at h3;cases h3
    ·subst heq
     unfold Lib.occAt at h3;rw[List.drop_left,hp] at h3;cases h3
    ·exact hgt
   refine⟨(w++r).take i,(w++r).drop (i+(x::sep).length),?_,?_,List.take_prefix _ _⟩
   ·unfold Lib.cut
    rw[h1,if_pos (by omega),Int.toNat_natCast]
   ·rw[List.length_take];omega
theorem Li (w r a:List UInt8) (hr:r=[]∨ ∃c t,r=c::t∧kg c=false) (hl:w.length<a.length) (hp:a<+:w++r):cZ a=false:=by
 obtain⟨t,ht⟩:=hp;have hlen:=congrArg List.length ht;rw[List.length_append,List.length_append] at hlen;rcases hr with rfl|⟨c,t',rfl,hc⟩
 ·simp at hlen;omega
 ·have h1:(a++t)[w.length]? =some c:=by rw[ht];simp
  rw[List.getElem?_append_left hl] at h1
  cases hw:cZ a with
  |false=>rfl
  |true=>
   have:=vH hw (List.mem_of_getElem? h1);rw[hc] at this;cases this
def oo (s c:List UInt8):List UInt8:=(Lib.cut s c).1
def ql (s c:List UInt8):List UInt8:=(Lib.cut s c).2.1
def oU (s c:List UInt8):Bool:=(Lib.cut s c).2.2
def slash (s:List UInt8):Prop:=oU s [47]=true∧oo s [47]≠[]∧ql s [47]≠[]∧cZ (oo s [47])=true∧cZ (ql s [47])=true
def perc (s:List UInt8):Prop:=oU s [37,115]=true∧cZ (oo s [37,115])=true∧cZ (ql s [37,115])=true
instance (s):Decidable (slash s):=inferInstanceAs (Decidable (_∧_))
instance (s):Decidable (perc s):=inferInstanceAs (Decidable (_∧_))
def kindP (s : List UInt8) : Int × List UInt8 × List UInt8 :=
  if s = [37, 122] then (3, [], []) else if perc s then (2, oo s [37, 115], ql s [37, 115]) else if slash s then (4, oo s [47], ql s [47]) else if s ≠ [] ∧ cZ s = true then (1, s, []) else (0, [], [])
theorem perc_iff (w r:List UInt8) (hw:cZ w=true) (hr:r=[]∨ ∃c t,r=c::t∧kg c=false):
  (∃b,r=37::115::b∧cZ b=true∧perc (w++r)∧oo (w++r) [37,115]=w∧ql (w++r) [37,115]=b)∨(¬perc (w++r)∧ ∀b,r=37::115::b→cZ b=false):=by
 rcases Qg w r 37 [115] hw (by decide) with⟨b,rfl,hc⟩|⟨hp,hc⟩
 ·have h1:oo (w++(37::[115]++b)) [37,115]=w:=by unfold oo;rw[hc]
  have h2:ql (w++(37::[115]++b)) [37,115]=b:=by unfold ql;rw[hc]
  have h3:oU (w++(37::[115]++b)) [37,115]=true:=by unfold oU;rw[hc]
  cases hb:cZ b with
  |true=>exact .inl ⟨b,rfl,hb,⟨h3,by rw[h1];exact hw,by rw[h2];exact hb⟩,h1,h2⟩
  |false=>
   refine .inr ⟨fun h=>?_,fun b' e=>?_⟩
   ·have:=h.2.2
    rw[h2,hb] at this;cases this
   ·simp at e;rw[←e];exact hb
 ·refine .inr ⟨fun h=>?_,fun b e=>?_⟩
  ·rcases hc with hc|⟨a,b,hc,hl,hpre⟩
   ·have:=h.1;unfold oU at this;rw[hc] at this;cases this
   ·have h2:=h.2.1
    unfold oo at h2;rw[hc] at h2;rw[Li w r a hr hl hpre] at h2;cases h2
  ·rw[e] at hp;simp[List.isPrefixOf] at hp
theorem Y4 (w r:List UInt8) (hw:cZ w=true) (hr:r=[]∨ ∃c t,r=c::t∧kg c=false):
  (∃b,r=47::b∧b≠[]∧w≠[]∧cZ b=true∧slash (w++r)∧oo (w++r) [47]=w∧ql (w++r) [47]=b)∨(¬slash (w++r)∧ ∀b,r=47::b→ ¬(w≠[]∧b≠[]∧cZ b=true)):=by
 rcases Qg w r 47 [] hw (by decide) with⟨b,rfl,hc⟩|⟨hp,hc⟩
 ·have h1:oo (w++(47::[]++b)) [47]=w:=by unfold oo;rw[hc]
  have h2:ql (w++(47::[]++b)) [47]=b:=by unfold ql;rw[hc]
  have h3:oU (w++(47::[]++b)) [47]=true:=by unfold oU;rw[hc]
  by_cases hb:w≠[]∧b≠[]∧cZ b=true
  ·exact .inl ⟨b,rfl,hb.2.1,hb.1,hb.2.2,⟨h3,by rw[h1];exact hb.1,by rw[h2];exact hb.2.1,by rw[h1];exact hw,by rw[h2];exact hb.2.2⟩,h1,h2⟩
  ·refine .inr ⟨fun h=>hb ?_,fun b' e=>?_⟩
   ·obtain⟨_,k1,k2,_,k4⟩:=h
    rw[h1] at k1;rw[h2] at k2 k4;exact⟨k1,k2,k4⟩
   ·simp at e;rw[←e];exact hb
 ·refine .inr ⟨fun h=>?_,fun b e=>?_⟩
  ·rcases hc with hc|⟨a,b,hc,hl,hpre⟩
   ·have:=h.1;unfold oU at this;rw[hc] at this;cases this
   ·have h2:=h.2.2.2.1
    unfold oo at h2;rw[hc] at h2;rw[Li w r a hr hl hpre] at h2;cases h2
  ·rw[e] at hp;simp[List.isPrefixOf] at hp
theorem kindP_eq (s:List UInt8):kindP s=Du s:=by
 obtain⟨h1,hw,hr⟩:=zR s;generalize s.takeWhile kg=w at*;generalize s.dropWhile kg=r at*;subst h1;rw[Nr w r hw hr];unfold kindP;by_cases hz:w++r=[37,122]
 ·rw[if_pos hz]
  have hw0:w=[]:=by
   cases w with
   |nil=>rfl
   |cons a w=>
    have:a=37:=by simpa using(List.cons.inj hz).1
    subst this;have:=vH hw List.mem_cons_self;exact absurd this (by decide)
  subst hw0;have:r=[37,122]:=hz;subst this;rfl
 ·rw[if_neg hz]
  rcases perc_iff w r hw hr with⟨b,rfl,hb,hp,e1,e2⟩|⟨hp,hpn⟩
  ·rw[if_pos hp,e1,e2]
   simp[rC,hb]
  ·rw[if_neg hp]
   rcases Y4 w r hw hr with⟨b,rfl,hb0,hw0,hb,hs,e1,e2⟩|⟨hs,hsn⟩
   ·rw[if_pos hs,e1,e2]
    simp[rC,hw0,hb0,hb]
   ·rw[if_neg hs]
    rcases hr with rfl|⟨c,t,rfl,hc⟩
    ·rw[List.append_nil]
     by_cases h0:w=[]
     ·simp[rC,h0]
     ·simp[rC,h0,hw]
    ·have hnw:cZ (w++c::t)=false:=by
      rw[word_app];unfold cZ;rw[List.all_cons,hc];simp
     rw[if_neg (fun h=>by rw[hnw] at h;cases h.2)];by_cases h37:c=37
     ·subst h37
      cases t with
      |nil=>simp[rC]
      |cons x b=>
       by_cases hx:x=115
       ·subst hx
        simp[rC,hpn b rfl]
       ·have: ¬(x=122∧b=[]∧w=[]):=by
         rintro⟨rfl,rfl,rfl⟩;exact hz rfl
        simp[rC,hx];intro h1 h2 h3;exact absurd ⟨h1,h2,h3⟩ this
     ·by_cases h47:c=47
      ·subst h47
       have:=hsn t rfl;simp[rC];intro h1 h2
       cases hb:cZ t with
       |false=>rfl
       |true=>exact absurd ⟨h1,h2,hb⟩ this
      ·simp[rC,h37,h47]
theorem kind_two {a b:List UInt8} {c y:UInt8} (ha:cZ a=true) (hc:kg c=false) (hy:y∈b) (hl:kg y=false):(Du (a++c::b)).1=0:=by
 rw[Nr a (c::b) ha (.inr ⟨c,b,rfl,hc⟩)];have hwb:cZ b=false:=by
  cases h:cZ b with
  |false=>rfl
  |true=>rw[vH h hy] at hl;cases hl
 unfold rC;dsimp only;by_cases h1:c=37
 ·rw[if_pos h1]
  cases b with
  |nil=>cases hy
  |cons x b'=>
   dsimp only;by_cases h2:x=115
   ·subst h2
    rw[if_pos rfl];have:cZ b'=false:=by
     unfold cZ at hwb⊢;rw[List.all_cons,show kg 115=true by decide,Bool.true_and] at hwb;exact hwb
    rw[this];rfl
   ·rw[if_neg h2,if_neg]
    rintro⟨rfl,rfl,_⟩;rw[List.mem_singleton] at hy;subst hy;revert hl;decide
 ·rw[if_neg h1]
  by_cases h2:c=47
  ·rw[if_pos h2,if_neg (by rw[hwb];simp)]
  ·rw[if_neg h2]
theorem Y5 {s:List UInt8} {c:UInt8} (h:c∈s) (hl:kg c=false) (h1:c≠37) (h2:c≠47):(Du s).1=0:=by
 obtain⟨a,b,rfl,ha⟩:=List.eq_append_cons_of_mem h;obtain⟨e1,e2,e3⟩:=zR a;rcases e3 with e3|⟨d,t,e3,hd⟩
 ·rw[e3,List.append_nil] at e1
  rw[←e1] at e2;rw[Nr a (c::b) e2 (.inr ⟨c,b,rfl,hl⟩)];unfold rC;dsimp only;rw[if_neg h1,if_neg h2]
 ·rw[e3] at e1
  rw[e1,List.append_assoc,List.cons_append];exact kind_two e2 hd (y:=c) (by simp) hl
def I4 (c:UInt8):Bool:=kg c||decide (c=37)||decide (c=47)
end Nt.JX
namespace Nt.Ev.YtplklcejbmfgdaaGreatDoor
set_option maxRecDepth 100000
open Go Nt.Num Go.Proofs.YtplklcejbmfgdaaGreatDoor
variable [nP]
noncomputable def fE:Env:=⟨Go.Proofs.Tryz.prog,fun g=>bif g==3 then some (.rptr [.int .i64] (.int .i64 nP.val) 0) else none⟩
def Tm (l:List UInt8):Bool:=l.all fun c=>decide (c.toNat<128)
def Pg (s c:List UInt8):List UInt8:=Lib.trimS s c
def oo (s c:List UInt8):List UInt8:=(Lib.cut s c).1
def ql (s c:List UInt8):List UInt8:=(Lib.cut s c).2.1
def oU (s c:List UInt8):Bool:=(Lib.cut s c).2.2
noncomputable def trimS1:aG:=fun a=>match a with|[.str s,.str c]=>some (ai (ak (au s) 1000) (ai (ak (au c) 1000) (Tm c)),.str (Pg s c))|_=>none
noncomputable def cutS1:aG:=fun a=>match a with|[.str s,.str c]=>some (ai (ak (au s) 1000) (ai (ak 1 (au c)) (ak (au c) 2)),.tup [.str (oo s c),.str (ql s c),.bool (oU s c)])|_=>none
noncomputable def fS:List (Nat×aG):=(111,trimS1)::(97,cutS1)::[]
open Nt.JX
noncomputable def fWordS:aG:=fun a=>match a with|[.str s]=>some (ak (au s) 1000,.bool (cZ s))|_=>none
noncomputable def fS2:List (Nat×aG):=(94,fWordS)::fS
def fkK (s:List UInt8):Int:=(JX.Du s).1
def fkA (s:List UInt8):List UInt8:=(JX.Du s).2.1
def fkZ (s:List UInt8):List UInt8:=(JX.Du s).2.2
noncomputable def fCutS:aG:=fun a=>match a with|[.str s]=>some (ak (au s) 1000,.tup [.int .i64 (fkK s),.str (fkA s),.str (fkZ s)])|_=>none
noncomputable def fSl:List (Nat×aG):=fS2
noncomputable def fS3:List (Nat×aG):=(76,fCutS)::fSl
def jy (s:List UInt8):Int:=if 16<s.length then 9 else if fkK s=0 then 4 else 0
noncomputable def checkS:aG:=fun a=>match a with|[.str s]=>some (ak (au s) 1000,.int .i64 (jy s))|_=>none
def leP (s:List UInt8):List UInt8×Int:=if s=[45] then([],0) else if 6<s.length then([],9) else if s=[]∨cZ s=false then([],4) else(s,0)
def Ag (s:List UInt8):List UInt8:=(leP s).1
def zZ (s:List UInt8):Int:=(leP s).2
noncomputable def Wk:aG:=fun a=>match a with|[.str s]=>some (ak (au s) 1000,.tup [.str (Ag s),.int .i64 (zZ s)])|_=>none
noncomputable def fS4:List (Nat×aG):=(45,checkS)::(70,Wk)::fS3
theorem Y6 (F:Nat) (s:List UInt8) (K:V→Option V):
 bW fE (bT fE fS F 2) F 94 [V.str s] K=
 sel (ai (ak (au s) 1000) (ai (ak (au [65,66,67,68,69,70,71,72,73,74,75,76,77,78,79,80,81,82,83,84,85,86,87,88,89,90,97,98,99,100,101,102,103,104,105,106,107,108,109,110,111,112,113,114,115,116,117,118,119,120,121,122,48,49,50,51,52,53,54,55,56,57,43,45]) 1000) (Tm [65,66,67,68,69,70,71,72,73,74,75,76,77,78,79,80,81,82,83,84,85,86,87,88,89,90,97,98,99,100,101,102,103,104,105,106,107,108,109,110,111,112,113,114,115,116,117,118,119,120,121,122,48,49,50,51,52,53,54,55,56,57,43,45]))) (K (V.bool (seq (Pg s [65,66,67,68,69,70,71,72,73,74,75,76,77,78,79,80,81,82,83,84,85,86,87,88,89,90,97,98,99,100,101,102,103,104,105,106,107,108,109,110,111,112,113,114,115,116,117,118,119,120,121,122,48,49,50,51,52,53,54,55,56,57,43,45]) []))) none:=by kernel_rfl
theorem fCut_top (F:Nat) (s:List UInt8) (K:V→Option V):
 bW fE (bT fE fS2 F 2) F 76 [V.str s] K=
 let C:=V.str [];let D:=ak (au s) 1000;let E:=oo s [47];let G:=ql s [47];let H:=oo s [37,115];let I:=ql s [37,115];let J:=K (V.tup [V.int .i64 0,C,C]);let A:=sel (aK (seq s [])) (sel D (sel (cZ s) (K (V.tup [V.int .i64 1,V.str s,C])) J) none) J;let B:=sel (ai D (ai (ak 1 (au [47])) (ak (au [47]) 2))) (sel (oU s [47]) (sel (aK (seq E [])) (sel (aK (seq G [])) (sel (ak (au E) 1000) (sel (cZ E) (sel (ak (au G) 1000) (sel (cZ G) (K (V.tup [V.int .i64 4,V.str E,V.str G])) A) none) A) none) A) A) A) (none);sel (seq s [37,122]) (K (V.tup [V.int .i64 3,C,C])) (sel (ai D (ai (ak 1 (au [37,115])) (ak (au [37,115]) 2))) (sel (oU s [37,115]) (sel (ak (au H) 1000) (sel (cZ H) (sel (ak (au I) 1000) (sel (cZ I) (K (V.tup [V.int .i64 2,V.str H,V.str I])) B) none) B) none) B) none):=by kernel_rfl
theorem Eh (F:Nat) (s:List UInt8) (K:V→Option V):
 bW fE (bT fE fS2 F 2) F 70 [V.str s] K=
 let B:=V.str [];let A:=K (V.tup [B,V.int .i64 4]);sel (seq s [45]) (K (V.tup [B,V.int .i64 0])) (sel (aU 6 (au s)) (K (V.tup [B,V.int .i64 9])) (sel (seq s []) A (sel (ak (au s) 1000) (sel (aK (cZ s)) A (K (V.tup [V.str s,V.int .i64 0]))) none))):=by kernel_rfl
theorem IG (F:Nat) (s:List UInt8) (K:V→Option V):
 bW fE (bT fE fS3 F 2) F 45 [V.str s] K=
 sel (aU 16 (au s)) (K (V.int .i64 9)) (sel (ak (au s) 1000) (sel (ieq (fkK s) 0) (K (V.int .i64 4)) (K (V.int .i64 0))) none):=by kernel_rfl
theorem UB (F:Nat) (s:List UInt8) (K:V→Option V):
 bW fE (bT fE fS4 F 2) F 38 [V.str s] K=
 let A:=K (V.tup [V.str [],V.int .i64 4]);sel (seq s []) (K (V.tup [V.str [45],V.int .i64 0])) (sel (ak (au s) 1000) (sel (aK (ieq (zZ s) 0)) A (sel (aK (seq (Ag s) s)) A (K (V.tup [V.str s,V.int .i64 0])))) none):=by kernel_rfl
open Go.RowKit Nt
theorem F8:tY fE:=⟨by kernel_rfl,by kernel_rfl⟩
theorem Vt {s:List UInt8} (h:ak (au s) 1000=true):s.length≤1000:=by rw[ay,aC] at h;omega
theorem Y7 (s c:List UInt8) (hc:ai (ak (au s) 1000) (ai (ak (au c) 1000) (Tm c))=true):af fE 111 [.str s,.str c] (.str (Pg s c)):=by
 obtain⟨h1,h2⟩:=aR hc;obtain⟨h2,h3⟩:=aR h2;have h1:=Vt h1;have h2:=Vt h2;refine bP fun G w vs hG hg hp=>?_
 obtain⟨x,y,rfl,hx,hy⟩:=jD hp;unfold aO at hx hy;subst hx;subst hy;refine(Go.Proofs.Tryz.BV ⟨s.toArray⟩ ⟨c.toArray⟩ w (show s.toArray.size≤_ by simp;omega) (show c.toArray.size<_ by simp;omega) (fun j b hb=>?_)).mono ?_
 ·have h3:(c.all fun c=>decide (c.toNat<128))=true:=h3
  have:=List.all_eq_true.1 h3 b (List.mem_of_getElem? hb);exact of_decide_eq_true this
 ·rintro e w' ⟨rfl,hb⟩
  exact⟨_,rfl,hb,M4 _⟩
theorem cutS1_ok (s c:List UInt8) (hc:ai (ak (au s) 1000) (ai (ak 1 (au c)) (ak (au c) 2))=true):af fE 97 [.str s,.str c] (.tup [.str (oo s c),.str (ql s c),.bool (oU s c)]):=by
 obtain⟨h1,_⟩:=aR hc;have h1:=Vt h1;refine bP fun G w vs hG hg hp=>?_
 obtain⟨x,y,rfl,hx,hy⟩:=jD hp;unfold aO at hx hy;subst hx;subst hy;have hm:=PR (E:=fE) hG hg (n:=3) (k:=.i64) (m:=nP.val) rfl;refine(Go.Proofs.Tryz.strings_Cut ⟨s.toArray⟩ ⟨c.toArray⟩ _ w (show s.toArray.size<_ by simp;omega) hm).mono ?_;rintro e w' ⟨rfl,n,rfl⟩;exact⟨_,rfl,Nt.below_drewN (Below.refl _ _) n,M5 (vs:=[_,_,_]) (.cons (G7 _) (.cons (G7 _) (.cons (K7 _) .nil)))⟩
theorem fS_ok:bn fE fS:=by
 unfold fS;refine bn.cons (fun args r h=>?_) (bn.cons (fun args r h=>?_) bn.nil);all_goals (revert h;intro h;first|unfold trimS1 at h|unfold cutS1 at h)
 all_goals (split at h;rotate_left; · cases h)
 all_goals (simp only[Option.some.injEq,Prod.mk.injEq] at h;obtain⟨hc,rfl⟩:=h)
 ·exact Y7 _ _ hc
 ·exact cutS1_ok _ _ hc
def Bq:List UInt8:=[65,66,67,68,69,70,71,72,73,74,75,76,77,78,79,80,81,82,83,84,85,86,87,88,89,90,97,98,99,100,101,102,103,104,105,106,107,108,109,110,111,112,113,114,115,116,117,118,119,120,121,122,48,49,50,51,52,53,54,55,56,57,43,45]
theorem Rv (c:UInt8):Bq.contains c=kg c:=by
 have h: ∀n:Fin 256,Bq.contains (UInt8.ofNat n)=kg (UInt8.ofNat n):=by decide+kernel
 have:=h ⟨c.toNat,c.toNat_lt⟩;simpa using this
theorem drop_nil (p:UInt8→Bool): ∀l:List UInt8,l.dropWhile p=[]↔ ∀x∈l,p x=true
 |[]=>by simp
 |x::l=>by
  rw[List.dropWhile_cons]
  cases h:p x with
  |true=>simp[h,drop_nil p l]
  |false=>simp[h]
theorem Qh (p:UInt8→Bool): ∀(l:List UInt8) (x:UInt8),x∈l.takeWhile p→p x=true
 |[],_,h=>by cases h
 |y::l,x,h=>by
  rw[List.takeWhile_cons] at h
  cases hy:p y with
  |true=>
   rw[hy,if_pos rfl,List.mem_cons] at h;rcases h with rfl|h
   ·exact hy
   ·exact Qh p l x h
  |false=>rw[hy] at h;cases h
theorem Y8 (s:List UInt8):seq (Pg s Bq) []=cZ s:=by
 unfold seq Pg Lib.trimS Lib.trimLeftS Lib.trimRightS;simp only[Rv];rw[Bool.eq_iff_iff,beq_iff_eq,drop_nil];unfold cZ;rw[List.all_eq_true];constructor
 ·intro h x hx
  have hx:x∈s.reverse:=by simpa using hx
  rw[←List.takeWhile_append_dropWhile (p:=fun x=>kg x) (l:=s.reverse),List.mem_append] at hx;rcases hx with hx|hx
  ·exact Qh _ _ _ hx
  ·exact h x (by simpa using hx)
 ·intro h x hx
  rw[List.mem_reverse] at hx;have:=(List.dropWhile_sublist (fun x=>kg x)).subset hx;exact h x (by simpa using this)
theorem Y9 (s:List UInt8) (hc:ak (au s) 1000=true):af fE 94 [.str s] (.bool (cZ s)):=by
 refine aj F8 fS_ok 5 2 ?_;rw[Y6];have h2:=Y8 s;unfold Bq at h2;rw[h2,hc,aB (by decide)]
theorem Mv:bn fE fS2:=by
 unfold fS2;refine bn.cons (fun args r h=>?_) fS_ok;all_goals (revert h;intro h;first|unfold fWordS at h)
 all_goals (split at h;rotate_left; · cases h)
 all_goals (simp only[Option.some.injEq,Prod.mk.injEq] at h;obtain⟨hc,rfl⟩:=h)
 ·exact Y9 _ hc
theorem selT (x y:Option V):sel true x y=x:=rfl
theorem sel_and2 (b c:Bool) (X T:Option V):sel (aK b) (sel c X T) T=if¬(b=true)∧c=true then X else T:=by cases b<;>cases c<;>rfl
theorem sel_and3 (a b c:Bool) (X T:Option V):sel a (sel b (sel c X T) T) T=if a=true∧b=true∧c=true then X else T:=by cases a<;>cases b<;>cases c<;>rfl
theorem sel_and5 (a b c d e:Bool) (X T:Option V):sel a (sel (aK b) (sel (aK c) (sel d (sel e X T) T) T) T) T=if a=true∧ ¬(b=true)∧ ¬(c=true)∧d=true∧e=true then X else T:=by cases a<;>cases b<;>cases c<;>cases d<;>cases e<;>rfl
theorem Fp (s c:List UInt8):(oo s c).length≤s.length∧(ql s c).length≤s.length:=by
 unfold oo ql Lib.cut;split<;>simp<;>omega
theorem fCutS_ok (s:List UInt8) (hc:ak (au s) 1000=true):af fE 76 [.str s] (.tup [.int .i64 (fkK s),.str (fkA s),.str (fkZ s)]):=by
 refine aj F8 Mv 5 2 ?_
 (rw[fCut_top];(conv=>zeta))
 have hl:=Vt hc;have a1:ak (au (oo s [37,115])) 1000=true:=bB (by have:=(Fp s [37,115]).1;rw[aC];omega);have a2:ak (au (ql s [37,115])) 1000=true:=bB (by have:=(Fp s [37,115]).2;rw[aC];omega);have a3:ak (au (oo s [47])) 1000=true:=bB (by have:=(Fp s [47]).1;rw[aC];omega);have a4:ak (au (ql s [47])) 1000=true:=bB (by have:=(Fp s [47]).2;rw[aC];omega);have a5:ai (ak (au s) 1000) (ai (ak 1 (au [37,115])) (ak (au [37,115]) 2))=true:=by rw[hc];rfl
 have a6:ai (ak (au s) 1000) (ai (ak 1 (au [47])) (ak (au [47]) 2))=true:=by rw[hc];rfl
 simp only[a5,a6];simp only[hc,a1,a2,a3,a4,selT];unfold fkK fkA fkZ;rw[←kindP_eq];unfold kindP perc slash;rw[sel_and5,sel_and3,sel_and2,bV];simp only[dh,show @JX.oo= @Nt.Ev.YtplklcejbmfgdaaGreatDoor.oo from rfl,show @JX.ql= @Nt.Ev.YtplklcejbmfgdaaGreatDoor.ql from rfl,show @JX.oU= @Nt.Ev.YtplklcejbmfgdaaGreatDoor.oU from rfl];split
 ·rfl
 ·split
  ·rfl
  ·split
   ·rfl
   ·split<;>rfl
theorem fSl_ok:bn fE fSl:=by
 unfold fSl;refine Mv
section
variable (F n:Nat) (a:Nat) (xs:List V) (hx:xs.length≤10) (K:V→Option V)
end
theorem Tn:bn fE fS3:=by
 unfold fS3;refine bn.cons (fun args r h=>?_) fSl_ok;all_goals (revert h;intro h;first|unfold fCutS at h)
 all_goals (split at h;rotate_left; · cases h)
 all_goals (simp only[Option.some.injEq,Prod.mk.injEq] at h;obtain⟨hc,rfl⟩:=h)
 ·exact fCutS_ok _ hc
theorem Lj (s:List UInt8) (hc:ak (au s) 1000=true):af fE 45 [.str s] (.int .i64 (jy s)):=by
 refine aj F8 Tn 5 2 ?_;rw[IG,hc];unfold jy;by_cases h:16<s.length
 ·rw[aB (bE (by rw[aC];omega)),if_pos h]
 ·rw[aW (bD (by rw[aC];omega)),if_neg h,selT]
  by_cases h2:fkK s=0
  ·rw[if_pos h2,aB (bq h2)]
  ·rw[if_neg h2,aW (bQ h2)]
theorem IC (s:List UInt8) (hc:ak (au s) 1000=true):af fE 70 [.str s] (.tup [.str (Ag s),.int .i64 (zZ s)]):=by
 refine aj F8 Mv 5 2 ?_
 (rw[Eh];(conv=>zeta);rw[hc])
 unfold Ag zZ leP;simp only[selT,bV,bf,dh,aC,bZ];by_cases h1:s=[45]
 ·rw[if_pos h1,if_pos h1]
 ·rw[if_neg h1,if_neg h1]
  by_cases h2:6<s.length
  ·rw[if_pos (by omega),if_pos h2]
  ·rw[if_neg (by omega),if_neg h2]
   by_cases h3:s=[]
   ·rw[if_pos h3,if_pos (.inl h3)]
   ·rw[if_neg h3]
    cases h4:JX.cZ s with
    |true=>simp[h3]
    |false=>simp
theorem fS4_ok:bn fE fS4:=by
 unfold fS4;refine bn.cons (fun args r h=>?_) (bn.cons (fun args r h=>?_) Tn);all_goals (revert h;intro h;first|unfold checkS at h|unfold Wk at h)
 all_goals (split at h;rotate_left; · cases h)
 all_goals (simp only[Option.some.injEq,Prod.mk.injEq] at h;obtain⟨hc,rfl⟩:=h)
 ·exact Lj _ hc
 ·exact IC _ hc
end Nt.Ev.YtplklcejbmfgdaaGreatDoor
namespace Nt.JX
end Nt.JX
namespace Nt.Ev.YtplklcejbmfgdaaGreatDoor
open Go Go.RowKit Nt Nt.Num Nt.JX Go.Proofs.YtplklcejbmfgdaaGreatDoor
variable [nP]
def ltP (s:List UInt8):List UInt8×Int:=if s=[] then([45],0) else if zZ s≠0∨Ag s≠s then([],4) else(s,0)
def I7 (s:List UInt8):List UInt8:=(ltP s).1
def RF (s:List UInt8):Int:=(ltP s).2
theorem ck_len {s:List UInt8} (h:jy s=0):s.length≤16∧fkK s≠0:=by
 unfold jy at h;by_cases h1:16<s.length
 ·rw[if_pos h1] at h;cases h
 ·rw[if_neg h1] at h
  by_cases h2:fkK s=0
  ·rw[if_pos h2] at h;cases h
  ·exact⟨by omega,h2⟩
theorem YE (s:List UInt8) (hs:s.length≤1000):af fE 38 [.str s] (.tup [.str (I7 s),.int .i64 (RF s)]):=by
 refine aj F8 fS4_ok 5 2 ?_;have hc:ak (au s) 1000=true:=bB (by rw[aC];omega)
 (rw[UB];(conv=>zeta);rw[hc,selT])
 unfold I7 RF ltP;simp only[bV,dh,bZ,aL];by_cases h1:s=[]
 ·rw[if_pos h1,if_pos h1]
 ·rw[if_neg h1,if_neg h1]
  by_cases h2:zZ s=0
  ·rw[if_neg (by simpa using h2)]
   by_cases h3:Ag s=s
   ·rw[if_neg (by simpa using h3),if_neg (by simp[h2,h3])]
   ·rw[if_pos h3,if_pos (.inr h3)]
  ·rw[if_pos h2,if_pos (.inl h2)]
theorem V6 (t:List UInt8) (h:RF t=0):zZ (I7 t)=0∧Ag (I7 t)=t:=by
 unfold RF ltP at h;unfold I7 ltP;by_cases h1:t=[]
 ·rw[if_pos h1];subst h1;decide
 ·rw[if_neg h1] at h⊢
  by_cases h2:zZ t≠0∨Ag t≠t
  ·rw[if_pos h2] at h;cases h
  ·rw[if_neg h2]
   rw[not_or,Decidable.not_not,Decidable.not_not] at h2;exact h2
end Nt.Ev.YtplklcejbmfgdaaGreatDoor
