/-
  The plain law of formats: what is a name, where it is cut, which kind it is. Formats, further: how a difference is written; what the document's check asks. Format: equations of functions, as the evaluator prints them. Formats: what the program's functions and the document's answer. Formats: what a time is called, both sides. FormatLaw: equations of functions, as the evaluator prints them. Formats: the statements FormatTells and FormatHangs.
-/
import Derived.Lib.IndexMore
import Derived.Test.YtpbgegnlkdfjgaaGreatDoorME
set_option linter.unusedVariables false
set_option linter.unusedSimpArgs false
set_option linter.unusedSectionVars false
namespace Nt.Vt
open Go
def iC (c:UInt8):Bool:=decide ((65≤c.toNat∧c.toNat≤90)∨(97≤c.toNat∧c.toNat≤122)∨(48≤c.toNat∧c.toNat≤57)∨c.toNat=43∨c.toNat=45)
def bT (s:List UInt8):Bool:=s.all iC
def o9 (s w:List UInt8):List UInt8→Int×List UInt8×List UInt8
 |[]=>if w=[] then(0,[],[]) else(1,s,[])
 |c::t=>
  if c=37 then
   match t with
   |[]=>(0,[],[])
   |x::b=>if x=115 then(if bT b=true then(2,w,b) else(0,[],[])) else if x=122∧b=[]∧w=[] then(3,[],[]) else(0,[],[])
  else if c=47 then(if w≠[]∧t≠[]∧bT t=true then(4,w,t) else(0,[],[])) else(0,[],[])
def wO (s:List UInt8):Int×List UInt8×List UInt8:=o9 s (s.takeWhile iC) (s.dropWhile iC)
theorem vz: ∀s:List UInt8,s=s.takeWhile iC++s.dropWhile iC∧bT (s.takeWhile iC)=true∧(s.dropWhile iC=[]∨ ∃c t,s.dropWhile iC=c::t∧iC c=false)
 |[]=>⟨rfl,rfl,.inl rfl⟩
 |c::l=>by
  obtain⟨h1,h2,h3⟩:=vz l
  cases hc:iC c with
  |true=>
   rw[List.takeWhile_cons,List.dropWhile_cons,hc];simp only[if_true];refine⟨by rw[List.cons_append,←h1],?_,h3⟩;unfold bT at h2⊢;rw[List.all_cons,hc,h2];rfl
  |false=>
   rw[List.takeWhile_cons,List.dropWhile_cons,hc];simp only[Bool.false_eq_true,if_false];exact⟨rfl,rfl,.inr ⟨c,l,rfl,hc⟩⟩
theorem abz (w r:List UInt8) (hw:bT w=true) (hr:r=[]∨ ∃c t,r=c::t∧iC c=false):(w++r).takeWhile iC=w∧(w++r).dropWhile iC=r:=by
 induction w with
 |nil=>
  rcases hr with rfl|⟨c,t,rfl,hc⟩
  ·exact⟨rfl,rfl⟩
  ·simp[List.takeWhile_cons,List.dropWhile_cons,hc]
 |cons a w ih=>
  unfold bT at hw;rw[List.all_cons,Bool.and_eq_true] at hw;obtain⟨i1,i2⟩:=ih hw.2;rw[List.cons_append,List.takeWhile_cons,List.dropWhile_cons,hw.1,i1,i2];simp
theorem yI (w r:List UInt8) (hw:bT w=true) (hr:r=[]∨ ∃c t,r=c::t∧iC c=false):wO (w++r)=o9 (w++r) w r:=by
 unfold wO;obtain⟨h1,h2⟩:=abz w r hw hr;rw[h1,h2]
theorem xE {w:List UInt8} (h:bT w=true) {c:UInt8} (hc:c∈w):iC c=true:=List.all_eq_true.1 h c hc
theorem Po (a b:List UInt8):bT (a++b)=(bT a&&bT b):=by unfold bT;rw[List.all_append]
theorem Pp (w r:List UInt8) (x:UInt8) (sep:List UInt8) (hw:bT w=true) (hx:iC x=false):
  (∃b,r=x::sep++b∧Lib.cut (w++r) (x::sep)=(w,b,true))∨
  ((x::sep).isPrefixOf r=false∧(Lib.cut (w++r) (x::sep)=(w++r,[],false)∨ ∃a b,Lib.cut (w++r) (x::sep)=(a,b,true)∧w.length<a.length∧a<+:w++r)):=by
 have hbef: ∀j,j<w.length→Lib.occAt (w++r) (x::sep) j=false:=by
  intro j hj;unfold Lib.occAt;rw[List.drop_append_of_le_length (by omega),List.drop_eq_getElem_cons hj,List.cons_append,List.isPrefixOf];have:(x==w[j])=false:=by
   rw[beq_eq_false_iff_ne];intro e;have:=xE hw (List.getElem_mem hj);rw[←e,hx] at this
   cases this
  rw[this];rfl
 by_cases hp:(x::sep).isPrefixOf r=true
 ·left
  rw[List.isPrefixOf_iff_prefix] at hp;obtain⟨b,hb⟩:=hp;refine⟨b,hb.symm,?_⟩;have hi:Lib.index (w++r) (x::sep)=(w.length:Nat):=Lib.index_first (by simp) (by
   unfold Lib.occAt;rw[List.drop_left,List.isPrefixOf_iff_prefix];exact⟨b,hb⟩) hbef
  unfold Lib.cut;rw[hi,if_pos (by omega),Int.toNat_natCast,List.take_left,←List.drop_drop,List.drop_left,←hb,List.drop_left]
 ·right
  have hp:(x::sep).isPrefixOf r=false:=Bool.eq_false_iff.2 hp;refine⟨hp,?_⟩;rcases Lib.index_spec (w++r) (x::sep) with⟨h1,_⟩|⟨i,h1,h2,h3,_⟩
  ·left
   unfold Lib.cut;rw[h1,if_neg (by decide)]
  ·right
   have hge:w.length<i:=by
    rcases Nat.lt_trichotomy i w.length with hlt|heq|hgt
    ·rw[hbef i hlt] at h3;cases h3
    ·subst heq
     unfold Lib.occAt at h3;rw[List.drop_left,hp] at h3;cases h3
    ·exact hgt
   refine⟨(w++r).take i,(w++r).drop (i+(x::sep).length),?_,?_,List.take_prefix _ _⟩
   ·unfold Lib.cut
    rw[h1,if_pos (by omega),Int.toNat_natCast]
   ·rw[List.length_take];omega
theorem La (w r a:List UInt8) (hr:r=[]∨ ∃c t,r=c::t∧iC c=false) (hl:w.length<a.length) (hp:a<+:w++r):bT a=false:=by
 obtain⟨t,ht⟩:=hp;have hlen:=congrArg List.length ht;rw[List.length_append,List.length_append] at hlen;rcases hr with rfl|⟨c,t',rfl,hc⟩
 ·simp at hlen;omega
 ·have h1:(a++t)[w.length]? =some c:=by rw[ht];simp
  rw[List.getElem?_append_left hl] at h1
  cases hw:bT a with
  |false=>rfl
  |true=>
   have:=xE hw (List.mem_of_getElem? h1);rw[hc] at this;cases this
def pz (s c:List UInt8):List UInt8:=(Lib.cut s c).1
def rJ (s c:List UInt8):List UInt8:=(Lib.cut s c).2.1
def qA (s c:List UInt8):Bool:=(Lib.cut s c).2.2
def slash (s:List UInt8):Prop:=qA s [47]=true∧pz s [47]≠[]∧rJ s [47]≠[]∧bT (pz s [47])=true∧bT (rJ s [47])=true
def YT (s:List UInt8):Prop:=qA s [37,115]=true∧bT (pz s [37,115])=true∧bT (rJ s [37,115])=true
instance (s):Decidable (slash s):=inferInstanceAs (Decidable (_∧_))
instance (s):Decidable (YT s):=inferInstanceAs (Decidable (_∧_))
def Zl (s : List UInt8) : Int × List UInt8 × List UInt8 :=
  if s = [37, 122] then (3, [], []) else if YT s then (2, pz s [37, 115], rJ s [37, 115]) else if slash s then (4, pz s [47], rJ s [47]) else if s ≠ [] ∧ bT s = true then (1, s, []) else (0, [], [])
theorem abA (w r:List UInt8) (hw:bT w=true) (hr:r=[]∨ ∃c t,r=c::t∧iC c=false):
  (∃b,r=37::115::b∧bT b=true∧YT (w++r)∧pz (w++r) [37,115]=w∧rJ (w++r) [37,115]=b)∨(¬YT (w++r)∧ ∀b,r=37::115::b→bT b=false):=by
 rcases Pp w r 37 [115] hw (by decide) with⟨b,rfl,hc⟩|⟨hp,hc⟩
 ·have h1:pz (w++(37::[115]++b)) [37,115]=w:=by unfold pz;rw[hc]
  have h2:rJ (w++(37::[115]++b)) [37,115]=b:=by unfold rJ;rw[hc]
  have h3:qA (w++(37::[115]++b)) [37,115]=true:=by unfold qA;rw[hc]
  cases hb:bT b with
  |true=>exact .inl ⟨b,rfl,hb,⟨h3,by rw[h1];exact hw,by rw[h2];exact hb⟩,h1,h2⟩
  |false=>
   refine .inr ⟨fun h=>?_,fun b' e=>?_⟩
   ·have:=h.2.2
    rw[h2,hb] at this;cases this
   ·simp at e;rw[←e];exact hb
 ·refine .inr ⟨fun h=>?_,fun b e=>?_⟩
  ·rcases hc with hc|⟨a,b,hc,hl,hpre⟩
   ·have:=h.1;unfold qA at this;rw[hc] at this;cases this
   ·have h2:=h.2.1
    unfold pz at h2;rw[hc] at h2;rw[La w r a hr hl hpre] at h2;cases h2
  ·rw[e] at hp;simp[List.isPrefixOf] at hp
theorem Xl (w r:List UInt8) (hw:bT w=true) (hr:r=[]∨ ∃c t,r=c::t∧iC c=false):
  (∃b,r=47::b∧b≠[]∧w≠[]∧bT b=true∧slash (w++r)∧pz (w++r) [47]=w∧rJ (w++r) [47]=b)∨(¬slash (w++r)∧ ∀b,r=47::b→ ¬(w≠[]∧b≠[]∧bT b=true)):=by
 rcases Pp w r 47 [] hw (by decide) with⟨b,rfl,hc⟩|⟨hp,hc⟩
 ·have h1:pz (w++(47::[]++b)) [47]=w:=by unfold pz;rw[hc]
  have h2:rJ (w++(47::[]++b)) [47]=b:=by unfold rJ;rw[hc]
  have h3:qA (w++(47::[]++b)) [47]=true:=by unfold qA;rw[hc]
  by_cases hb:w≠[]∧b≠[]∧bT b=true
  ·exact .inl ⟨b,rfl,hb.2.1,hb.1,hb.2.2,⟨h3,by rw[h1];exact hb.1,by rw[h2];exact hb.2.1,by rw[h1];exact hw,by rw[h2];exact hb.2.2⟩,h1,h2⟩
  ·refine .inr ⟨fun h=>hb ?_,fun b' e=>?_⟩
   ·obtain⟨_,k1,k2,_,k4⟩:=h
    rw[h1] at k1;rw[h2] at k2 k4;exact⟨k1,k2,k4⟩
   ·simp at e;rw[←e];exact hb
 ·refine .inr ⟨fun h=>?_,fun b e=>?_⟩
  ·rcases hc with hc|⟨a,b,hc,hl,hpre⟩
   ·have:=h.1;unfold qA at this;rw[hc] at this;cases this
   ·have h2:=h.2.2.2.1
    unfold pz at h2;rw[hc] at h2;rw[La w r a hr hl hpre] at h2;cases h2
  ·rw[e] at hp;simp[List.isPrefixOf] at hp
theorem abB (s:List UInt8):Zl s=wO s:=by
 obtain⟨h1,hw,hr⟩:=vz s;generalize s.takeWhile iC=w at*;generalize s.dropWhile iC=r at*;subst h1;rw[yI w r hw hr];unfold Zl;by_cases hz:w++r=[37,122]
 ·rw[if_pos hz]
  have hw0:w=[]:=by
   cases w with
   |nil=>rfl
   |cons a w=>
    have:a=37:=by simpa using(List.cons.inj hz).1
    subst this;have:=xE hw List.mem_cons_self;exact absurd this (by decide)
  subst hw0;have:r=[37,122]:=hz;subst this;rfl
 ·rw[if_neg hz]
  rcases abA w r hw hr with⟨b,rfl,hb,hp,e1,e2⟩|⟨hp,hpn⟩
  ·rw[if_pos hp,e1,e2]
   simp[o9,hb]
  ·rw[if_neg hp]
   rcases Xl w r hw hr with⟨b,rfl,hb0,hw0,hb,hs,e1,e2⟩|⟨hs,hsn⟩
   ·rw[if_pos hs,e1,e2]
    simp[o9,hw0,hb0,hb]
   ·rw[if_neg hs]
    rcases hr with rfl|⟨c,t,rfl,hc⟩
    ·rw[List.append_nil]
     by_cases h0:w=[]
     ·simp[o9,h0]
     ·simp[o9,h0,hw]
    ·have hnw:bT (w++c::t)=false:=by
      rw[Po];unfold bT;rw[List.all_cons,hc];simp
     rw[if_neg (fun h=>by rw[hnw] at h;cases h.2)];by_cases h37:c=37
     ·subst h37
      cases t with
      |nil=>simp[o9]
      |cons x b=>
       by_cases hx:x=115
       ·subst hx
        simp[o9,hpn b rfl]
       ·have: ¬(x=122∧b=[]∧w=[]):=by
         rintro⟨rfl,rfl,rfl⟩;exact hz rfl
        simp[o9,hx];intro h1 h2 h3;exact absurd ⟨h1,h2,h3⟩ this
     ·by_cases h47:c=47
      ·subst h47
       have:=hsn t rfl;simp[o9];intro h1 h2
       cases hb:bT t with
       |false=>rfl
       |true=>exact absurd ⟨h1,h2,hb⟩ this
      ·simp[o9,h37,h47]
def gB (s:List UInt8) (c:UInt8):Int:=if s.contains c=true then(if(s.drop (s.idxOf c+1)).contains c=true then -2 else(s.idxOf c:Int)) else -1
theorem yV {s:List UInt8} {c:UInt8} (h:c∉s):gB s c= -1:=by
 unfold gB;rw[if_neg (by simpa using h)]
theorem Hy {a b:List UInt8} {c:UInt8} (ha:c∉a) (hb:c∉b):gB (a++c::b) c=(a.length:Int):=by
 have hi:(a++c::b).idxOf c=a.length:=by
  rw[List.idxOf_append,if_neg ha];simp
 unfold gB;rw[if_pos (by simp),hi,if_neg];rw[show a.length+1=(a++[c]).length by simp,show a++c::b=(a++[c])++b by simp,List.drop_left];simpa using hb
theorem BS (s:List UInt8) (c:UInt8):(gB s c= -1∧c∉s)∨gB s c= -2∨ ∃a b,s=a++c::b∧c∉a∧c∉b∧gB s c=(a.length:Int):=by
 by_cases h:c∈s
 ·obtain⟨a,b,rfl,ha⟩:=List.eq_append_cons_of_mem h
  by_cases hb:c∈b
  ·right;left
   have hi:(a++c::b).idxOf c=a.length:=by
    rw[List.idxOf_append,if_neg ha];simp
   unfold gB;rw[if_pos (by simp),hi,if_pos];rw[show a.length+1=(a++[c]).length by simp,show a++c::b=(a++[c])++b by simp,List.drop_left];simpa using hb
  ·exact .inr (.inr ⟨a,b,rfl,ha,hb,Hy ha hb⟩)
 ·exact .inl ⟨yV h,h⟩
theorem Pq {s:List UInt8} {c:UInt8} (h:gB s c= -2): ∃a b,s=a++c::b∧c∈b:=by
 by_cases hc:c∈s
 ·obtain⟨a,b,rfl,ha⟩:=List.eq_append_cons_of_mem hc
  by_cases hb:c∈b
  ·exact⟨a,b,rfl,hb⟩
  ·rw[Hy ha hb] at h;omega
 ·rw[yV hc] at h;omega
theorem Hz {a b:List UInt8} {c y:UInt8} (ha:bT a=true) (hc:iC c=false) (hy:y∈b) (hl:iC y=false):(wO (a++c::b)).1=0:=by
 rw[yI a (c::b) ha (.inr ⟨c,b,rfl,hc⟩)];have hwb:bT b=false:=by
  cases h:bT b with
  |false=>rfl
  |true=>rw[xE h hy] at hl;cases hl
 unfold o9;dsimp only;by_cases h1:c=37
 ·rw[if_pos h1]
  cases b with
  |nil=>cases hy
  |cons x b'=>
   dsimp only;by_cases h2:x=115
   ·subst h2
    rw[if_pos rfl];have:bT b'=false:=by
     unfold bT at hwb⊢;rw[List.all_cons,show iC 115=true by decide,Bool.true_and] at hwb;exact hwb
    rw[this];rfl
   ·rw[if_neg h2,if_neg]
    rintro⟨rfl,rfl,_⟩;rw[List.mem_singleton] at hy;subst hy;revert hl;decide
 ·rw[if_neg h1]
  by_cases h2:c=47
  ·rw[if_pos h2,if_neg (by rw[hwb];simp)]
  ·rw[if_neg h2]
theorem BU {a b:List UInt8} {c y:UInt8} (hc:iC c=false) (hy:y∈b) (hl:iC y=false):(wO (a++c::b)).1=0:=by
 obtain⟨h1,h2,h3⟩:=vz a;rcases h3 with h3|⟨d,t,h3,hd⟩
 ·rw[h3,List.append_nil] at h1
  rw[←h1] at h2;exact Hz h2 hc hy hl
 ·rw[h3] at h1
  rw[h1,List.append_assoc,List.cons_append];exact Hz h2 hd (y:=c) (by simp) hc
theorem Xm {s:List UInt8} {c d:UInt8} (h1:c∈s) (h2:d∈s) (hne:c≠d) (hc:iC c=false) (hd:iC d=false):(wO s).1=0:=by
 obtain⟨a,b,rfl,ha⟩:=List.eq_append_cons_of_mem h1;rw[List.mem_append,List.mem_cons] at h2;rcases h2 with h2|h2|h2
 ·obtain⟨a1,a2,rfl⟩:=List.append_of_mem h2
  rw[List.append_assoc,List.cons_append];exact BU hd (y:=c) (by simp) hc
 ·exact absurd h2.symm hne
 ·exact BU hc h2 hd
theorem Xn {s:List UInt8} {c:UInt8} (h:c∈s) (hl:iC c=false) (h1:c≠37) (h2:c≠47):(wO s).1=0:=by
 obtain⟨a,b,rfl,ha⟩:=List.eq_append_cons_of_mem h;obtain⟨e1,e2,e3⟩:=vz a;rcases e3 with e3|⟨d,t,e3,hd⟩
 ·rw[e3,List.append_nil] at e1
  rw[←e1] at e2;rw[yI a (c::b) e2 (.inr ⟨c,b,rfl,hl⟩)];unfold o9;dsimp only;rw[if_neg h1,if_neg h2]
 ·rw[e3] at e1
  rw[e1,List.append_assoc,List.cons_append];exact Hz e2 hd (y:=c) (by simp) hl
def okC (c:UInt8):Bool:=iC c||decide (c=37)||decide (c=47)
theorem Bz {l:List UInt8} (h: ∀c∈l,okC c=true) (h1:(37:UInt8)∉l) (h2:(47:UInt8)∉l):bT l=true:=by
 unfold bT;rw[List.all_eq_true];intro c hc;have:=h c hc;unfold okC at this;rw[Bool.or_eq_true,Bool.or_eq_true,decide_eq_true_iff,decide_eq_true_iff] at this;rcases this with(h|h)|h
 ·exact h
 ·subst h;exact absurd hc h1
 ·subst h;exact absurd hc h2
theorem abC (s:List UInt8) (hZ:s≠[37,122]) (h: ∀c∈s,okC c=true):
  (wO s).1=0↔ ¬((0<(s.length:Int)∧gB s 37= -1∧gB s 47= -1)∨(0≤gB s 37∧gB s 47= -1∧gB s 37+1<s.length∧((s.getD (gB s 37+1).toNat 0).toNat:Int)=115)∨(gB s 37= -1∧0<gB s 47∧gB s 47<(s.length:Int)-1)):=by
 have l37:iC 37=false:=by decide
 have l47:iC 47=false:=by decide
 rcases BS s 47 with⟨hq,hq'⟩|hq|⟨a,b,rfl,ha,hb,hq⟩
 ·rcases BS s 37 with⟨hp,hp'⟩|hp|⟨a,b,rfl,ha,hb,hp⟩
  ·have hw:=Bz h hp' hq'
   have:=yI s [] hw (.inl rfl);rw[List.append_nil] at this;rw[this,hp,hq];unfold o9;dsimp only;by_cases h0:s=[]
   ·subst h0;simp
   ·rw[if_neg h0]
    have:0<s.length:=List.length_pos_iff.2 h0;simp<;>omega
  ·obtain⟨a,b,rfl,hb⟩:=Pq hp
   rw[BU l37 hb l37,hp];simp
  ·have wa:=Bz (l:=a) (fun c hc=>h c (by simp[hc])) ha (fun e=>hq' (by simp[e]))
   have wb:=Bz (l:=b) (fun c hc=>h c (by simp[hc])) hb (fun e=>hq' (by simp[e]));rw[yI a (37::b) wa (.inr ⟨37,b,rfl,l37⟩),hp,hq];unfold o9;dsimp only;rw[if_pos rfl];have hn:((a.length:Int)+1).toNat=a.length+1:=by omega
   cases b with
   |nil=>simp<;>omega
   |cons x b'=>
    have hx:(a++37::x::b').getD (a.length+1) 0=x:=by
     rw[List.getD_eq_getElem?_getD,List.getElem?_append_right (by omega)];simp
    rw[hn,hx];dsimp only;by_cases h2:x=115
    ·subst h2
     have wb':bT b'=true:=by
      unfold bT at wb⊢;rw[List.all_cons,Bool.and_eq_true] at wb;exact wb.2
     rw[if_pos rfl,if_pos wb'];refine⟨fun h=>(by simp at h),fun h=>(h (.inr (.inl ⟨by omega,rfl,?_,rfl⟩))).elim⟩;simp<;>omega
    ·rw[if_neg h2,if_neg]
     ·refine⟨fun _ h=>?_,fun _=>rfl⟩
      rcases h with⟨_,h,_⟩|⟨_,_,_,h⟩|⟨h,_⟩
      ·omega
      ·exact h2 (UInt8.toNat_inj.1 (by rw[show(115:UInt8).toNat=115 from rfl];omega))
      ·omega
     ·rintro⟨rfl,rfl,rfl⟩
      exact hZ rfl
 ·obtain⟨a,b,rfl,hb⟩:=Pq hq
  rw[BU l47 hb l47,hq];simp
 ·by_cases h37:(37:UInt8)∈a++47::b
  ·rw[Xm (c:=37) (d:=47) h37 (by simp) (by decide) l37 l47,hq]
   rcases BS (a++47::b) 37 with⟨hp,hp'⟩|hp|⟨_,_,_,_,_,hp⟩
   ·exact absurd h37 hp'
   ·rw[hp];simp<;>omega
   ·rw[hp];simp<;>omega
  ·have hp:=yV h37
   have wa:=Bz (l:=a) (fun c hc=>h c (by simp[hc])) (fun e=>h37 (by simp[e])) ha;have wb:=Bz (l:=b) (fun c hc=>h c (by simp[hc])) (fun e=>h37 (by simp[e])) hb;rw[yI a (47::b) wa (.inr ⟨47,b,rfl,l47⟩),hp,hq];unfold o9;dsimp only;rw[if_neg (by decide),if_pos rfl,wb];by_cases h1:a=[]
   ·subst h1;simp
   ·by_cases h2:b=[]
    ·subst h2;simp
    ·rw[if_pos ⟨h1,h2,rfl⟩]
     have:=List.length_pos_iff.2 h1;have:=List.length_pos_iff.2 h2;simp<;>omega
def rY (c:Int):List UInt8→Nat→Int→Int
 |[],_,a=>a
 |x::l,i,a=>if(x.toNat:Int)=c then(if 0≤a then -2 else rY c l (i+1) i) else rY c l (i+1) a
theorem Dy (c:UInt8): ∀(l:List UInt8) (i:Nat) (a:Int),c∉l→rY c.toNat l i a=a
 |[],_,_,_=>rfl
 |x::l,i,a,h=>by
  rw[List.mem_cons,not_or] at h;unfold rY;rw[if_neg (fun e=>h.1 (UInt8.toNat_inj.1 (by omega))),Dy c l (i+1) a h.2]
theorem Ps (c:UInt8): ∀(l:List UInt8) (i:Nat) (a:Int),0≤a→c∈l→rY c.toNat l i a= -2
 |[],_,_,_,h=>by cases h
 |x::l,i,a,h0,h=>by
  unfold rY;by_cases e:x=c
  ·subst e;rw[if_pos rfl,if_pos h0]
  ·rw[if_neg (fun e'=>e (UInt8.toNat_inj.1 (by omega)))]
   rw[List.mem_cons] at h;exact Ps c l (i+1) a h0 (h.resolve_left fun e'=>e e'.symm)
theorem EI (c:UInt8) (b:List UInt8): ∀(l:List UInt8) (i:Nat),c∉l→rY c.toNat (l++c::b) i (-1)=rY c.toNat b (i+l.length+1) (i+l.length:Nat)
 |[],i,_=>by
  rw[List.nil_append];conv=>lhs;unfold rY
  rw[if_pos rfl,if_neg (by omega)];rfl
 |x::l,i,h=>by
  rw[List.mem_cons,not_or] at h;rw[List.cons_append];conv=>lhs;unfold rY
  rw[if_neg (fun e=>h.1 (UInt8.toNat_inj.1 (by omega))),EI c b l (i+1) h.2,List.length_cons];congr 1<;>omega
theorem U8 (s:List UInt8) (c:UInt8):rY c.toNat s 0 (-1)=gB s c:=by
 by_cases hc:c∈s
 ·obtain⟨a,b,rfl,ha⟩:=List.eq_append_cons_of_mem hc
  rw[EI c b a 0 ha];by_cases hb:c∈b
  ·rw[Ps c b _ _ (by omega) hb]
   have hi:(a++c::b).idxOf c=a.length:=by
    rw[List.idxOf_append,if_neg ha];simp
   unfold gB;rw[if_pos (by simp),hi,if_pos];rw[show a.length+1=(a++[c]).length by simp,show a++c::b=(a++[c])++b by simp,List.drop_left];simpa using hb
  ·rw[Dy c b _ _ hb,Hy ha hb];omega
 ·rw[Dy c s _ _ hc,yV hc]
end Nt.Vt
namespace Nt.Ev.YtpbgegnlkdfjgaaGreatDoor
set_option maxRecDepth 100000
open Go Nt.Num Go.Proofs.YtpbgegnlkdfjgaaGreatDoor
variable [uT]
noncomputable def fE:Env:=⟨Go.Proofs.Tryz.prog,fun g=>bif g==0 then some (.rptr [.int .i64] (.int .i64 uT.val) 0) else none⟩
def R8 (l:List UInt8):Bool:=l.all fun c=>decide (c.toNat<128)
def Ow (s c:List UInt8):List UInt8:=Lib.trimS s c
def pz (s c:List UInt8):List UInt8:=(Lib.cut s c).1
def rJ (s c:List UInt8):List UInt8:=(Lib.cut s c).2.1
def qA (s c:List UInt8):Bool:=(Lib.cut s c).2.2
noncomputable def Z6:aL:=fun a=>match a with|[.str s,.str c]=>some (av (ak (ah s) 1000) (av (ak (ah c) 1000) (R8 c)),.str (Ow s c))|_=>none
noncomputable def cutS1:aL:=fun a=>match a with|[.str s,.str c]=>some (av (ak (ah s) 1000) (av (ak 1 (ah c)) (ak (ah c) 2)),.tup [.str (pz s c),.str (rJ s c),.bool (qA s c)])|_=>none
noncomputable def fS:List (Nat×aL):=(176,Z6)::(164,cutS1)::[]
open Nt.Vt
noncomputable def Z7:aL:=fun a=>match a with|[.str s]=>some (ak (ah s) 1000,.bool (bT s))|_=>none
noncomputable def fS2:List (Nat×aL):=(157,Z7)::fS
def Rh (s:List UInt8):Int:=(Vt.wO s).1
def fkA (s:List UInt8):List UInt8:=(Vt.wO s).2.1
def fkZ (s:List UInt8):List UInt8:=(Vt.wO s).2.2
def J9 (s:List UInt8) (c:Int):Int:=Vt.rY c s 0 (-1)
noncomputable def fCutS:aL:=fun a=>match a with|[.str s]=>some (ak (ah s) 1000,.tup [.int .i64 (Rh s),.str (fkA s),.str (fkZ s)])|_=>none
noncomputable def findS:aL:=fun a=>match a with|[.str s,.int .u8 c]=>some (ak (ah s) 1000,.int .i64 (J9 s c))|_=>none
def Gj (c:Int):Bool:=decide ((65≤c∧c≤90)∨(97≤c∧c≤122)∨(48≤c∧c≤57)∨c=43∨c=45)
noncomputable def Pt:aL:=fun a=>match a with|[.int .u8 c]=>some (true,.bool (Gj c))|_=>none
noncomputable def fSl:List (Nat×aL):=(86,Pt)::fS2
noncomputable def fS3:List (Nat×aL):=(141,fCutS)::(87,findS)::fSl
def gD (s:List UInt8):Int:=if 16<s.length then 9 else if Rh s=0 then 4 else 0
def leP (s:List UInt8):List UInt8×Int:=if s=[45] then([],0) else if 6<s.length then([],9) else if s=[]∨bT s=false then([],4) else(s,0)
def T9 (s:List UInt8):List UInt8:=(leP s).1
def EY (s:List UInt8):Int:=(leP s).2
theorem Xo (F:Nat) (s:List UInt8) (K:V→Option V):
 bD fE (bB fE fS F 2) F 157 [V.str s] K=
 sel (av (ak (ah s) 1000) (av (ak (ah [65,66,67,68,69,70,71,72,73,74,75,76,77,78,79,80,81,82,83,84,85,86,87,88,89,90,97,98,99,100,101,102,103,104,105,106,107,108,109,110,111,112,113,114,115,116,117,118,119,120,121,122,48,49,50,51,52,53,54,55,56,57,43,45]) 1000) (R8 [65,66,67,68,69,70,71,72,73,74,75,76,77,78,79,80,81,82,83,84,85,86,87,88,89,90,97,98,99,100,101,102,103,104,105,106,107,108,109,110,111,112,113,114,115,116,117,118,119,120,121,122,48,49,50,51,52,53,54,55,56,57,43,45]))) (K (V.bool (seq (Ow s [65,66,67,68,69,70,71,72,73,74,75,76,77,78,79,80,81,82,83,84,85,86,87,88,89,90,97,98,99,100,101,102,103,104,105,106,107,108,109,110,111,112,113,114,115,116,117,118,119,120,121,122,48,49,50,51,52,53,54,55,56,57,43,45]) []))) none:=by kernel_rfl
theorem abD (F:Nat) (s:List UInt8) (K:V→Option V):
 bD fE (bB fE fS2 F 2) F 141 [V.str s] K=
 let C:=V.str [];let D:=ak (ah s) 1000;let E:=pz s [47];let G:=rJ s [47];let H:=pz s [37,115];let I:=rJ s [37,115];let J:=K (V.tup [V.int .i64 0,C,C]);let A:=sel (aB (seq s [])) (sel D (sel (bT s) (K (V.tup [V.int .i64 1,V.str s,C])) J) none) J;let B:=sel (av D (av (ak 1 (ah [47])) (ak (ah [47]) 2))) (sel (qA s [47]) (sel (aB (seq E [])) (sel (aB (seq G [])) (sel (ak (ah E) 1000) (sel (bT E) (sel (ak (ah G) 1000) (sel (bT G) (K (V.tup [V.int .i64 4,V.str E,V.str G])) A) none) A) none) A) A) A) (none);sel (seq s [37,122]) (K (V.tup [V.int .i64 3,C,C])) (sel (av D (av (ak 1 (ah [37,115])) (ak (ah [37,115]) 2))) (sel (qA s [37,115]) (sel (ak (ah H) 1000) (sel (bT H) (sel (ak (ah I) 1000) (sel (bT I) (K (V.tup [V.int .i64 2,V.str H,V.str I])) B) none) B) none) B) none):=by kernel_rfl
theorem QK (F:Nat) (s:List UInt8) (K:V→Option V):
 bD fE (bB fE fS2 F 2) F 123 [V.str s] K=
 let B:=V.str [];let A:=K (V.tup [B,V.int .i64 4]);sel (seq s [45]) (K (V.tup [B,V.int .i64 0])) (sel (aK 6 (ah s)) (K (V.tup [B,V.int .i64 9])) (sel (seq s []) A (sel (ak (ah s) 1000) (sel (aB (bT s)) A (K (V.tup [V.str s,V.int .i64 0]))) none))):=by kernel_rfl
noncomputable def xG (F:Nat) (ns:List Nat) (n:Nat) (x0:List UInt8) (x1 x4 x5 x6:Int) (K:V→Option V):Option V:=
 dN fE fS2 F 2 87 [1,1,0,1,0] ns K n (iY 22 [(0,V.str x0),(1,V.int .u8 x1),(4,V.int .i64 x4),(5,V.int .i64 x5),(6,V.int .i64 x6)] [])
theorem Xp (F:Nat) (s:List UInt8) (c:Int) (K:V→Option V):
 bD fE (bB fE fS2 F 2) F 87 [V.str s,V.int .u8 c] K=
 xG F [] F s c 0 (-1) 0 K:=by kernel_rfl
theorem zF (F n:Nat) (x0:List UInt8) (x1 x4 x5 x6:Int) (K:V→Option V):
 xG F [] (n+1) x0 x1 x4 x5 x6 K=
 let A:=aK x6 (ah x0);sel A (sel (av (ak 0 x6) A) (sel (aB (ieq (sat x0 x6) x1)) (xG F [] n x0 x1 x4 x5 (bP .i64 x6 1) K) (sel (ak 0 x5) (K (V.int .i64 (-2))) (xG F [] n x0 x1 x4 x6 (bP .i64 x6 1) K))) none) (K (V.int .i64 x5)):=by kernel_rfl
noncomputable def mr (F:Nat) (ns:List Nat) (n:Nat) (x0 x2:List UInt8) (x3 x4:Int) (K:V→Option V):Option V:=
 dN fE fSl F 2 67 [1,1,1,0,1,0] ns K n (iY 24 [(0,V.str x0),(2,V.str x2),(3,V.int .i64 x3),(4,V.int .i64 x4)] [])
theorem JA (F:Nat) (s:List UInt8) (K:V→Option V):
 bD fE (bB fE fSl F 2) F 67 [V.str s] K=
 sel (seq s [45]) (K (V.tup [V.str [],V.int .i64 0])) (sel (aK 6 (ah s)) (K (V.tup [V.str [],V.int .i64 9])) (mr F [] F s [] 0 0 K)):=by kernel_rfl
theorem sO (F n:Nat) (x0 x2:List UInt8) (x3 x4:Int) (K:V→Option V):
 mr F [] (n+1) x0 x2 x3 x4 K=
 let A:=K (V.tup [V.str [],V.int .i64 4]);let B:=aK x4 (ah x0);sel B (sel (av (ak 0 x4) B) (sel (aB (Gj (sat x0 x4))) A (mr F [] n x0 x2 x3 (bP .i64 x4 1) K)) none) (sel (seq x0 []) A (K (V.tup [V.str x0,V.int .i64 0]))):=by kernel_rfl
theorem Nw (F:Nat) (c:Int) (K:V→Option V):
 bD fE (bB fE fS2 F 2) F 86 [V.int .u8 c] K=
 let B:=K (V.bool true);let C:=sel (ieq c 43) B (K (V.bool (ieq c 45)));let A:=sel (ak 48 c) (sel (ak c 57) B C) C;let D:=sel (ak 97 c) (sel (ak c 122) B A) A;sel (ak 65 c) (sel (ak c 90) B D) D:=by kernel_rfl
theorem TI (F:Nat) (s:List UInt8) (K:V→Option V):
 bD fE (bB fE fS3 F 2) F 108 [V.str s] K=
 sel (aK 16 (ah s)) (K (V.int .i64 9)) (sel (ak (ah s) 1000) (sel (ieq (Rh s) 0) (K (V.int .i64 4)) (K (V.int .i64 0))) none):=by kernel_rfl
noncomputable def lT (F:Nat) (ns:List Nat) (n:Nat) (x0:List UInt8) (x2 x3 x4:Int) (K:V→Option V):Option V:=
 dN fE fS3 F 2 59 [1,1,1,0,1,0] ns K n (iY 92 [(0,V.str x0),(2,V.int .i64 x2),(3,V.int .i64 x3),(4,V.int .i64 x4),(5,V.tup []),(6,V.tup []),(7,V.tup []),(8,V.tup []),(9,V.tup [])] [])
theorem Ny (F:Nat) (s:List UInt8) (K:V→Option V):
 bD fE (bB fE fS3 F 2) F 59 [V.str s] K=
 sel (aK 16 (ah s)) (K (V.int .i64 9)) (lT F [] F s 0 (ah s) 0 K):=by kernel_rfl
theorem uN (F n:Nat) (x0:List UInt8) (x2 x3 x4:Int) (K:V→Option V):
 lT F [] (n+1) x0 x2 x3 x4 K=
 let G:=K (V.int .i64 0);let H:=J9 x0 47;let L:=lT F [] n x0 x2 x3 (bP .i64 x4 1) K;let N:=av (ak 0 x4) (aK x4 (ah x0));let P:=J9 x0 37;let S:=sat x0 x4;let T:=ak (ah x0) 1000;let U:=K (V.int .i64 4);let A:=sel (seq x0 [37,122]) G U;let E:=bP .i64 P 1;let I:=ieq P (-1);let M:=ieq H (-1);let D:=sel (aK H (nP .i64 x3 1)) G A;let J:=ieq (sat x0 E) 115;let Q:=av (ak 0 E) (aK E (ah x0));let C:=sel I (sel (aK 0 H) (sel M G D) (sel M G A)) (sel M G A);let O:=sel I (sel (aK 0 H) D A) A;let R:=sel J G A;let B:=sel (ak 0 P) (sel M (sel (aK E x3) (sel Q (sel I (sel (aK 0 H) (sel J G D) R) R) none) O) O) O;sel (aK x4 x3) (sel N (sel (aB (Gj S)) (sel N (sel (aB (ieq S 37)) (sel N (sel (aB (ieq S 47)) U L) none) L) none) L) none) (sel T (sel T (sel (aK 0 x3) (sel I (sel (ak 0 P) (sel M (sel (aK E x3) (sel Q (sel I (sel (aK 0 H) (sel M G (sel J G D)) (sel M G R)) (sel M G R)) none) C) C) C) B) B) none) none):=by kernel_rfl
open Go.RowKit Nt
theorem D7:vT fE:=⟨by kernel_rfl,by kernel_rfl⟩
theorem Ox {s:List UInt8} (h:ak (ah s) 1000=true):s.length≤1000:=by rw[aA,au] at h;omega
theorem Xq (s c:List UInt8) (hc:av (ak (ah s) 1000) (av (ak (ah c) 1000) (R8 c))=true):af fE 176 [.str s,.str c] (.str (Ow s c)):=by
 obtain⟨h1,h2⟩:=aV hc;obtain⟨h2,h3⟩:=aV h2;have h1:=Ox h1;have h2:=Ox h2;refine bJ fun G w vs hG hg hp=>?_
 obtain⟨x,y,rfl,hx,hy⟩:=jo hp;unfold aP at hx hy;subst hx;subst hy;refine(Go.Proofs.Tryz.Cr ⟨s.toArray⟩ ⟨c.toArray⟩ w (show s.toArray.size≤_ by simp;omega) (show c.toArray.size<_ by simp;omega) (fun j b hb=>?_)).mono ?_
 ·have h3:(c.all fun c=>decide (c.toNat<128))=true:=h3
  have:=List.all_eq_true.1 h3 b (List.mem_of_getElem? hb);exact of_decide_eq_true this
 ·rintro e w' ⟨rfl,hb⟩
  exact⟨_,rfl,hb,MF _⟩
theorem abE (s c:List UInt8) (hc:av (ak (ah s) 1000) (av (ak 1 (ah c)) (ak (ah c) 2))=true):af fE 164 [.str s,.str c] (.tup [.str (pz s c),.str (rJ s c),.bool (qA s c)]):=by
 obtain⟨h1,_⟩:=aV hc;have h1:=Ox h1;refine bJ fun G w vs hG hg hp=>?_
 obtain⟨x,y,rfl,hx,hy⟩:=jo hp;unfold aP at hx hy;subst hx;subst hy;have hm:=O3 (E:=fE) hG hg (n:=0) (k:=.i64) (m:=uT.val) rfl;refine(Go.Proofs.Tryz.strings_Cut ⟨s.toArray⟩ ⟨c.toArray⟩ _ w (show s.toArray.size<_ by simp;omega) hm).mono ?_;rintro e w' ⟨rfl,n,rfl⟩;exact⟨_,rfl,Nt.below_drewN (Below.refl _ _) n,UY (vs:=[_,_,_]) (.cons (Hg _) (.cons (Hg _) (.cons (KV _) .nil)))⟩
theorem fS_ok:bF fE fS:=by
 unfold fS;refine bF.cons (fun args r h=>?_) (bF.cons (fun args r h=>?_) bF.nil);all_goals (revert h;intro h;first|unfold Z6 at h|unfold cutS1 at h)
 all_goals (split at h;rotate_left; · cases h)
 all_goals (simp only[Option.some.injEq,Prod.mk.injEq] at h;obtain⟨hc,rfl⟩:=h)
 ·exact Xq _ _ hc
 ·exact abE _ _ hc
def BV:List UInt8:=[65,66,67,68,69,70,71,72,73,74,75,76,77,78,79,80,81,82,83,84,85,86,87,88,89,90,97,98,99,100,101,102,103,104,105,106,107,108,109,110,111,112,113,114,115,116,117,118,119,120,121,122,48,49,50,51,52,53,54,55,56,57,43,45]
theorem QL (c:UInt8):BV.contains c=iC c:=by
 have h: ∀n:Fin 256,BV.contains (UInt8.ofNat n)=iC (UInt8.ofNat n):=by decide+kernel
 have:=h ⟨c.toNat,c.toNat_lt⟩;simpa using this
theorem drop_nil (p:UInt8→Bool): ∀l:List UInt8,l.dropWhile p=[]↔ ∀x∈l,p x=true
 |[]=>by simp
 |x::l=>by
  rw[List.dropWhile_cons]
  cases h:p x with
  |true=>simp[h,drop_nil p l]
  |false=>simp[h]
theorem Pv (p:UInt8→Bool): ∀(l:List UInt8) (x:UInt8),x∈l.takeWhile p→p x=true
 |[],_,h=>by cases h
 |y::l,x,h=>by
  rw[List.takeWhile_cons] at h
  cases hy:p y with
  |true=>
   rw[hy,if_pos rfl,List.mem_cons] at h;rcases h with rfl|h
   ·exact hy
   ·exact Pv p l x h
  |false=>rw[hy] at h;cases h
theorem Xr (s:List UInt8):seq (Ow s BV) []=bT s:=by
 unfold seq Ow Lib.trimS Lib.trimLeftS Lib.trimRightS;simp only[QL];rw[Bool.eq_iff_iff,beq_iff_eq,drop_nil];unfold bT;rw[List.all_eq_true];constructor
 ·intro h x hx
  have hx:x∈s.reverse:=by simpa using hx
  rw[←List.takeWhile_append_dropWhile (p:=fun x=>iC x) (l:=s.reverse),List.mem_append] at hx;rcases hx with hx|hx
  ·exact Pv _ _ _ hx
  ·exact h x (by simpa using hx)
 ·intro h x hx
  rw[List.mem_reverse] at hx;have:=(List.dropWhile_sublist (fun x=>iC x)).subset hx;exact h x (by simpa using this)
theorem Xt (s:List UInt8) (hc:ak (ah s) 1000=true):af fE 157 [.str s] (.bool (bT s)):=by
 refine ai D7 fS_ok 5 2 ?_;rw[Xo];have h2:=Xr s;unfold BV at h2;rw[h2,hc,aj (by decide)]
theorem GI:bF fE fS2:=by
 unfold fS2;refine bF.cons (fun args r h=>?_) fS_ok;all_goals (revert h;intro h;first|unfold Z7 at h)
 all_goals (split at h;rotate_left; · cases h)
 all_goals (simp only[Option.some.injEq,Prod.mk.injEq] at h;obtain⟨hc,rfl⟩:=h)
 ·exact Xt _ hc
theorem Od (x y:Option V):sel true x y=x:=rfl
theorem Rx (x y:Option V):sel false x y=y:=rfl
theorem abF (b c:Bool) (X T:Option V):sel (aB b) (sel c X T) T=if¬(b=true)∧c=true then X else T:=by cases b<;>cases c<;>rfl
theorem abG (a b c:Bool) (X T:Option V):sel a (sel b (sel c X T) T) T=if a=true∧b=true∧c=true then X else T:=by cases a<;>cases b<;>cases c<;>rfl
theorem abH (a b c d e:Bool) (X T:Option V):sel a (sel (aB b) (sel (aB c) (sel d (sel e X T) T) T) T) T=if a=true∧ ¬(b=true)∧ ¬(c=true)∧d=true∧e=true then X else T:=by cases a<;>cases b<;>cases c<;>cases d<;>cases e<;>rfl
theorem FJ (s c:List UInt8):(pz s c).length≤s.length∧(rJ s c).length≤s.length:=by
 unfold pz rJ Lib.cut;split<;>simp<;>omega
theorem abI (s:List UInt8) (hc:ak (ah s) 1000=true):af fE 141 [.str s] (.tup [.int .i64 (Rh s),.str (fkA s),.str (fkZ s)]):=by
 refine ai D7 GI 5 2 ?_
 (rw[abD];(conv=>zeta))
 have hl:=Ox hc;have a1:ak (ah (pz s [37,115])) 1000=true:=bA (by have:=(FJ s [37,115]).1;rw[au];omega);have a2:ak (ah (rJ s [37,115])) 1000=true:=bA (by have:=(FJ s [37,115]).2;rw[au];omega);have a3:ak (ah (pz s [47])) 1000=true:=bA (by have:=(FJ s [47]).1;rw[au];omega);have a4:ak (ah (rJ s [47])) 1000=true:=bA (by have:=(FJ s [47]).2;rw[au];omega);have a5:av (ak (ah s) 1000) (av (ak 1 (ah [37,115])) (ak (ah [37,115]) 2))=true:=by rw[hc];rfl
 have a6:av (ak (ah s) 1000) (av (ak 1 (ah [47])) (ak (ah [47]) 2))=true:=by rw[hc];rfl
 simp only[a5,a6];simp only[hc,a1,a2,a3,a4,Od];unfold Rh fkA fkZ;rw[←abB];unfold Zl YT slash;rw[abH,abG,abF,bI];simp only[dH,show @Vt.pz= @Nt.Ev.YtpbgegnlkdfjgaaGreatDoor.pz from rfl,show @Vt.rJ= @Nt.Ev.YtpbgegnlkdfjgaaGreatDoor.rJ from rfl,show @Vt.qA= @Nt.Ev.YtpbgegnlkdfjgaaGreatDoor.qA from rfl];split
 ·rfl
 ·split
  ·rfl
  ·split
   ·rfl
   ·split<;>rfl
theorem R9 (s:List UInt8) (i:Nat) (h:i<s.length):sat s (i:Int)=(s[i].toNat:Int):=by
 rw[mg,List.getD_eq_getElem?_getD,List.getElem?_eq_getElem h];rfl
theorem Z8 (c:UInt8):Gj (c.toNat:Int)=iC c:=by
 unfold Gj iC;congr 1
 simp only[eq_iff_iff];omega
theorem QM (c:Int) (hc:true=true):af fE 86 [.int .u8 c] (.bool (Gj c)):=by
 refine ai D7 GI 5 2 ?_
 (rw[Nw];(conv=>zeta))
 simp only[bI,aA,aH];unfold Gj;repeat' split
 all_goals first|(exfalso;omega)|(rw[decide_eq_true (by omega)];done)|(congr 2;unfold ieq;rw[Bool.eq_iff_iff];simp;omega)
theorem Z9:bF fE fSl:=by
 unfold fSl;refine bF.cons (fun args r h=>?_) GI;all_goals (revert h;intro h;first|unfold Pt at h)
 all_goals (split at h;rotate_left; · cases h)
 all_goals (simp only[Option.some.injEq,Prod.mk.injEq] at h;obtain⟨hc,rfl⟩:=h)
 ·exact QM _ rfl
theorem Xu (F:Nat) (s:List UInt8) (c:Int) (hs:s.length≤1000): ∀(n i:Nat) (at':Int),i≤s.length→s.length≤i+n→at'≤i→-1≤at'→
  xG F [] (n+1) s c 0 at' i some=some (.int .i64 (rY c (s.drop i) i at')):=by
 intro n;induction n with
 |zero=>
  intro i a h1 h2 h3 h4
  (rw[zF];(conv=>zeta);rw[aG (bu (by rw[au];omega)),List.drop_eq_nil_of_le (by omega)])
  rfl
 |succ n ih=>
  intro i a h1 h2 h3 h4
  (rw[zF];(conv=>zeta))
  by_cases hi:i<s.length
  ·rw[aj (bq (by rw[au];omega)),aj (by rw[aC,aA,aU,au];omega),R9 s i hi,dh (by omega),List.drop_eq_getElem_cons hi]
   have e1:((i:Int)+1)=((i+1:Nat):Int):=by omega
   rw[e1];unfold rY;by_cases hc:(s[i].toNat:Int)=c
   ·rw[if_pos hc,aG (by rw[hc];unfold aB ieq;simp)]
    by_cases h0:0≤a
    ·rw[if_pos h0,aj (bA h0)]
    ·rw[if_neg h0,aG (zq (by omega))]
     have:=ih (i+1) (i:Int) (by omega) (by omega) (by omega) (by omega);rw[this]
   ·rw[if_neg hc,aj (by unfold aB ieq;simpa using hc)]
    have:=ih (i+1) a (by omega) (by omega) (by omega) (by omega);rw[this]
  ·rw[aG (bu (by rw[au];omega)),List.drop_eq_nil_of_le (by omega)]
   rfl
theorem abJ (s:List UInt8) (c:Int) (hc:ak (ah s) 1000=true):af fE 87 [.str s,.int .u8 c] (.int .i64 (J9 s c)):=by
 have hl:=Ox hc;refine ai D7 GI 1001 2 ?_;rw[Xp];exact Xu 1001 s c hl 1000 0 (-1) (by omega) (by omega) (by omega) (by omega)
section
variable (F n:Nat) (a:Nat) (xs:List V) (hx:xs.length≤10) (K:V→Option V)
end
theorem aaa:bF fE fS3:=by
 unfold fS3;refine bF.cons (fun args r h=>?_) (bF.cons (fun args r h=>?_) Z9);all_goals (revert h;intro h;first|unfold fCutS at h|unfold findS at h)
 all_goals (split at h;rotate_left; · cases h)
 all_goals (simp only[Option.some.injEq,Prod.mk.injEq] at h;obtain⟨hc,rfl⟩:=h)
 ·exact abI _ hc
 ·exact abJ _ _ hc
theorem Xv (s:List UInt8) (p q:Int) (hp:gB s 37=p) (hq:gB s 47=q) (hZ:s≠[37,122]) (h: ∀c∈s,okC c=true):
  Rh s=0↔ ¬((0<(s.length:Int)∧p= -1∧q= -1)∨(0≤p∧q= -1∧p+1<s.length∧sat s (p+1)=115)∨(p= -1∧0<q∧q<(s.length:Int)-1)):=by
 subst hp;subst hq;exact abC s hZ h
theorem U9 (s:List UInt8) (c:UInt8): -2≤gB s c∧gB s c<s.length:=by
 rcases BS s c with⟨h,_⟩|h|⟨a,b,rfl,_,_,h⟩<;>rw[h]
 ·omega
 ·omega
 ·simp;omega
theorem findI37 (s:List UInt8):J9 s 37=gB s 37:=U8 s 37
theorem findI47 (s:List UInt8):J9 s 47=gB s 47:=U8 s 47
theorem okC_let {c:UInt8} (h:iC c=true):okC c=true:=by unfold okC;rw[h];rfl
theorem TJ (F:Nat) (s:List UInt8) (hs:s.length≤16): ∀(n i:Nat),i≤s.length→s.length≤i+n→(∀c∈s.take i,okC c=true)→
  lT F [] (n+1) s 0 (ah s) i some=some (.int .i64 (if Rh s=0 then 4 else 0)):=by
 have fin: ∀i n:Nat,s.length≤i→(∀c∈s.take i,okC c=true)→lT F [] (n+1) s 0 (ah s) i some=some (.int .i64 (if Rh s=0 then 4 else 0)):=by
  intro i n h1 h3;rw[List.take_of_length_le h1] at h3;have k1:aK (i:Int) (ah s)=false:=bu (by rw[au];omega);have k2:ak (ah s) 1000=true:=bA (by rw[au];omega)
  (rw[uN];(conv=>zeta);rw[k1,k2])
  simp only[Od,Rx,findI37,findI47];have b1:=U9 s 37;have b2:=U9 s 47;by_cases hZ:s=[37,122]
  ·subst hZ
   rw[show gB [37,122] 37=0 by decide,show gB [37,122] 47= -1 by decide,show Rh [37,122]=3 by decide];first|rfl|decide
  ·have kz:seq s [37,122]=false:=by rw[Bool.eq_false_iff];intro e;rw[dH] at e;exact hZ e
   have key:=Xv s _ _ rfl rfl hZ h3;generalize gB s 37=p at*;generalize gB s 47=q at*;have hl:0≤ah s:=by rw[au];omega
   have hl2:ah s≤1000:=by rw[au];omega
   rw[←au] at key b1 b2;rw[dh (by omega),wV (by omega),kz];simp only[Od,Rx];generalize ah s=m at*;generalize sat s (p+1)=z at*;generalize Rh s=k at*;clear k1 k2 kz h3 hZ;have b4:(if k=0 then(4:Int) else 0)=4∧k=0∨(if k=0 then(4:Int) else 0)=0∧k≠0:=by
    by_cases h:k=0
    ·rw[if_pos h];exact .inl ⟨rfl,h⟩
    ·rw[if_neg h];exact .inr ⟨rfl,h⟩
   generalize (if k=0 then(4:Int) else 0)=u at*;have t1:=aU 0 m;have t2:=aH p (-1);have t3:=aA 0 p;have t4:=aH q (-1);have t5:=aU (p+1) m;have t6:=aA 0 (p+1);have t7:=aU 0 q;have t8:=aH z 115;have t9:=aU q (m-1);revert t1 t2 t3 t4 t5 t6 t7 t8 t9
   cases aK 0 m<;>cases ieq p (-1)<;>cases ak 0 p<;>cases ieq q (-1)<;>cases aK (p+1) m<;>cases ak 0 (p+1)<;>cases aK 0 q<;>cases ieq z 115<;>cases aK q (m-1)<;>intro t1 t2 t3 t4 t5 t6 t7 t8 t9<;>
    simp only[Od,Rx,Bool.false_eq_true,eq_iff_iff,true_iff,false_iff,show av true true=true from rfl,show av false true=false from rfl,show av true false=false from rfl,show av false false=false from rfl] at t1 t2 t3 t4 t5 t6 t7 t8 t9⊢
   all_goals first|(exfalso;clear b4;omega)|(congr 2;omega)
 intro n;induction n with
 |zero=>
  intro i h1 h2 h3;exact fin i 0 (by omega) h3
 |succ n ih=>
  intro i h1 h2 h3;by_cases hi:i<s.length
  ·have k1:aK (i:Int) (ah s)=true:=bq (by rw[au];omega)
   have k2:av (ak 0 (i:Int)) (aK (i:Int) (ah s))=true:=by rw[k1,bA (by omega)];rfl
   have hnext:=ih (i+1) (by omega) (by omega);have ht:s.take (i+1)=s.take i++[s[i]]:=by rw[List.take_add_one,List.getElem?_eq_getElem hi];rfl
   have e1:((i:Int)+1)=((i+1:Nat):Int):=by omega
   have hgo:okC s[i]=true→lT F [] (n+1) s 0 (ah s) ((i+1:Nat):Int) some=some (.int .i64 (if Rh s=0 then 4 else 0)):=by
    intro hok;refine hnext fun c hc=>?_
    rw[ht,List.mem_append,List.mem_singleton] at hc;rcases hc with hc|rfl
    ·exact h3 c hc
    ·exact hok
   (rw[uN];(conv=>zeta);rw[k2,k1,R9 s i hi,Z8,dh (by omega),e1])
   simp only[Od];by_cases c1:iC s[i]=true
   ·rw[c1,show aB true=false from rfl,Rx]
    exact hgo (okC_let c1)
   ·rw[aj (by rw[bE];exact c1)]
    by_cases c2:s[i]=37
    ·rw[show aB (ieq (s[i].toNat:Int) 37)=false by rw[c2];rfl,Rx]
     exact hgo (by rw[c2];rfl)
    ·rw[aj (by rw[bE,aH];intro e;exact c2 (UInt8.toNat_inj.1 (by rw[show(37:UInt8).toNat=37 from rfl];omega)))]
     by_cases c3:s[i]=47
     ·rw[show aB (ieq (s[i].toNat:Int) 47)=false by rw[c3];rfl,Rx]
      exact hgo (by rw[c3];rfl)
     ·rw[aj (by rw[bE,aH];intro e;exact c3 (UInt8.toNat_inj.1 (by rw[show(47:UInt8).toNat=47 from rfl];omega)))]
      have h0:Rh s=0:=Xn (List.getElem_mem hi) (Bool.eq_false_iff.2 c1) c2 c3;rw[h0];rfl
  ·exact fin i (n+1) (by omega) h3
theorem Xw (s:List UInt8) (hc:ak (ah s) 1000=true):af fE 108 [.str s] (.int .i64 (gD s)):=by
 refine ai D7 aaa 5 2 ?_;rw[TI,hc];unfold gD;by_cases h:16<s.length
 ·rw[aj (bq (by rw[au];omega)),if_pos h]
 ·rw[aG (bu (by rw[au];omega)),if_neg h,Od]
  by_cases h2:Rh s=0
  ·rw[if_pos h2,aj (aR h2)]
  ·rw[if_neg h2,aG (bf h2)]
theorem oL (s:List UInt8) (hc:ak (ah s) 1000=true):af fE 59 [.str s] (.int .i64 (gD s)):=by
 refine ai D7 aaa 17 2 ?_;rw[Ny];unfold gD;by_cases h:16<s.length
 ·rw[aj (bq (by rw[au];omega)),if_pos h]
 ·rw[aG (bu (by rw[au];omega)),if_neg h]
  exact TJ 17 s (by omega) 16 0 (by omega) (by omega) (by simp)
theorem Tw (s:List UInt8) (hc:ak (ah s) 1000=true):af fE 123 [.str s] (.tup [.str (T9 s),.int .i64 (EY s)]):=by
 refine ai D7 GI 5 2 ?_
 (rw[QK];(conv=>zeta);rw[hc])
 unfold T9 EY leP;simp only[Od,bI,aU,dH,au,bE];by_cases h1:s=[45]
 ·rw[if_pos h1,if_pos h1]
 ·rw[if_neg h1,if_neg h1]
  by_cases h2:6<s.length
  ·rw[if_pos (by omega),if_pos h2]
  ·rw[if_neg (by omega),if_neg h2]
   by_cases h3:s=[]
   ·rw[if_pos h3,if_pos (.inl h3)]
   ·rw[if_neg h3]
    cases h4:Vt.bT s with
    |true=>simp[h3]
    |false=>simp
theorem Nz (F:Nat) (s:List UInt8) (hs:s.length≤6): ∀(n i:Nat),i≤s.length→s.length≤i+n→bT (s.take i)=true→
  mr F [] (n+1) s [] 0 i some=some (if s=[]∨bT s=false then .tup [.str [],.int .i64 4] else .tup [.str s,.int .i64 0]):=by
 have fin: ∀i n:Nat,s.length≤i→bT (s.take i)=true→mr F [] (n+1) s [] 0 i some=some (if s=[]∨bT s=false then .tup [.str [],.int .i64 4] else .tup [.str s,.int .i64 0]):=by
  intro i n h1 h3;rw[List.take_of_length_le h1] at h3
  (rw[sO];(conv=>zeta);rw[aG (bu (by rw[au];omega)),h3])
  simp only[bI,dH];by_cases h:s=[]
  ·rw[if_pos h,if_pos (.inl h)]
  ·rw[if_neg h,if_neg (by simp[h])]
 intro n;induction n with
 |zero=>
  intro i h1 h2 h3;exact fin i 0 (by omega) h3
 |succ n ih=>
  intro i h1 h2 h3;by_cases hi:i<s.length
  ·have ht:s.take (i+1)=s.take i++[s[i]]:=by rw[List.take_add_one,List.getElem?_eq_getElem hi];rfl
   have e1:((i:Int)+1)=((i+1:Nat):Int):=by omega
   (rw[sO];(conv=>zeta);rw[aj (bq (by rw[au];omega)),aj (by rw[aC,aA,aU,au];omega),R9 s i hi,Z8,dh (by omega),e1])
   cases c1:iC s[i] with
   |true=>
    rw[show aB true=false from rfl,Rx];refine ih (i+1) (by omega) (by omega) ?_;rw[ht,Po,h3];unfold bT;simp[c1]
   |false=>
    rw[show aB false=true from rfl,Od,if_pos];right
    cases hw:bT s with
    |false=>rfl
    |true=>have:=xE hw (List.getElem_mem hi);rw[c1] at this;cases this
  ·exact fin i (n+1) (by omega) h3
theorem mJ (s:List UInt8) (hc:ak (ah s) 1000=true):af fE 67 [.str s] (.tup [.str (T9 s),.int .i64 (EY s)]):=by
 refine ai D7 Z9 7 2 ?_;rw[JA];unfold T9 EY leP;simp only[bI,aU,dH,au];by_cases h1:s=[45]
 ·rw[if_pos h1,if_pos h1]
 ·rw[if_neg h1,if_neg h1]
  by_cases h2:6<s.length
  ·rw[if_pos (by omega),if_pos h2]
  ·rw[if_neg (by omega),if_neg h2]
   have:=Nz 7 s (by omega) 6 0 (by omega) (by omega) rfl;rw[show((0:Nat):Int)=0 from rfl] at this;rw[this];split<;>rfl
end Nt.Ev.YtpbgegnlkdfjgaaGreatDoor
namespace Nt.Vt
end Nt.Vt
namespace Nt.Ev.YtpbgegnlkdfjgaaGreatDoor
open Go Go.RowKit Nt Nt.Num Nt.Vt Go.Proofs.YtpbgegnlkdfjgaaGreatDoor
variable [uT]
theorem Sb {s:List UInt8} (h:gD s=0):s.length≤16∧Rh s≠0:=by
 unfold gD at h;by_cases h1:16<s.length
 ·rw[if_pos h1] at h;cases h
 ·rw[if_neg h1] at h
  by_cases h2:Rh s=0
  ·rw[if_pos h2] at h;cases h
  ·exact⟨by omega,h2⟩
end Nt.Ev.YtpbgegnlkdfjgaaGreatDoor
