/-
  Fields of a line: the plain law. Fields of a line, one at a time: the plain law. Fields: equations of functions, as the evaluator prints them. Fields: a field's text on both sides, the document's fields. Fields2: equations of functions, as the evaluator prints them. Fields: functions of the library that the cutter calls. Fields3: equations of functions, as the evaluator prints them. Fields: the cutter's next field. Join: equations of functions, as the evaluator prints them. strings.Join. Fields4: equations of functions, as the evaluator prints them. Fields: lines that are cut, fields that are joined, on both sides; whether rows of strings are the same. FieldsLaw: equations of functions, as the evaluator prints them. Fields: the three statements.
-/
import Derived.Test.YtplklcejbmfgdaaGreatDoorMBB
import Derived.Test.YtplklcejbmfgdaaGreatDoorMC
import Derived.Test.YtplklcejbmfgdaaGreatDoorMD
import Derived.Test.YtplklcejbmfgdaaGreatDoorMS
import Derived.Shelf.Strings.SlTrimAscii
import Derived.Test.YtplklcejbmfgdaaGreatDoorMP
set_option linter.unusedVariables false
set_option linter.unusedSimpArgs false
set_option linter.unusedSectionVars false
namespace Nt.Fld
open Go Nt.Ev
def Ao (out:List (List UInt8)):List (List UInt8)×Int:=if 16<out.length then([],6) else(out,0)
def oV (op:Bool) (out:List (List UInt8)) (f:List UInt8):List (List UInt8):=sel op (out++[f]) out
def nY:List UInt8→List (List UInt8)→List UInt8→Bool→Bool→List (List UInt8)×Int
 |[],out,f,op,qu=>sel qu ([],8) (Ao (oV op out f))
 |c::t,out,f,op,qu=>sel qu
  (sel (c==34) (nY t out f op false) (nY t out (f++[c]) op true))
  (sel (c==35) (Ao (oV op out f)) (sel (c==9) (nY t (oV op out f) [] false false) (sel (c==32) (nY t (oV op out f) [] false false)
   (sel (c==34) (nY t out f true true) (nY t out (f++[c]) true false)))))
def EE (s:List UInt8):List (List UInt8)×Int:=nY s [] [] false false
def vZ (c:UInt8):Bool:=c==9||c==32||c==35
def oh (s:List UInt8):List UInt8×Int:=if s.contains 34=true then([],8) else if s=[]∨s.any vZ=true then([34]++s++[34],0) else(s,0)
def bL:List (List UInt8)→List UInt8×Int
 |[]=>([],0)
 |x::l=>if(oh x).2=0 then(if(bL l).2=0 then([32]++(oh x).1++(bL l).1,0) else([],(bL l).2)) else([],(oh x).2)
def fw (l:List (List UInt8)):List UInt8×Int:=if 16<l.length then([],6) else if(bL l).2=0 then((bL l).1.drop 1,0) else([],(bL l).2)
theorem tx_err (x:List UInt8):(oh x).2=0∨(oh x).2=8:=by
 unfold oh
 (repeat' split)<;>simp
theorem tx_ok {x:List UInt8} (h:(oh x).2=0):x.contains 34=false:=by
 unfold oh at h
 cases e:x.contains 34 with
 |false=>rfl
 |true=>rw[e,if_pos rfl] at h;cases h
theorem C8 (rest:List UInt8) (out:List (List UInt8)) (op:Bool): ∀(x f:List UInt8),x.contains 34=false→nY (x++rest) out f op true=nY rest out (f++x) op true
 |[],f,_=>by simp
 |c::x,f,h=>by
  rw[List.contains_cons,Bool.or_eq_false_iff] at h;have hc:(c==34)=false:=by
   rw[beq_eq_false_iff_ne] at h⊢;exact fun e=>h.1 e.symm
  show sel true (sel (c==34) _ (nY (x++rest) out (f++[c]) op true)) _=_;rw[hc];show nY (x++rest) out (f++[c]) op true=_;rw[C8 rest out op x (f++[c]) h.2];simp
theorem Ho (rest:List UInt8) (out:List (List UInt8)): ∀(x f:List UInt8) (op:Bool),x.contains 34=false→x.any vZ=false→nY (x++rest) out f op false=nY rest out (f++x) (op|| !x.isEmpty) false
 |[],f,op,_,_=>by simp
 |c::x,f,op,h,h2=>by
  rw[List.contains_cons,Bool.or_eq_false_iff] at h;have hc:(c==34)=false:=by
   rw[beq_eq_false_iff_ne] at h⊢;exact fun e=>h.1 e.symm
  rw[List.any_cons,Bool.or_eq_false_iff] at h2;have h3:=h2.1;unfold vZ at h3;rw[Bool.or_eq_false_iff,Bool.or_eq_false_iff] at h3;show sel false _ (sel (c==35) _ (sel (c==9) _ (sel (c==32) _ (sel (c==34) _ (nY (x++rest) out (f++[c]) true false)))))=_;rw[h3.2,h3.1.1,h3.1.2,hc];show nY (x++rest) out (f++[c]) true false=_;rw[Ho rest out x (f++[c]) true h.2 h2.2];simp
theorem Wo (x rest:List UInt8) (out:List (List UInt8)) (h:(oh x).2=0):nY ((oh x).1++rest) out [] false false=nY rest out x true false:=by
 have hc:=tx_ok h;unfold oh;rw[hc,if_neg (by decide)];by_cases h1:x=[]∨x.any vZ=true
 ·rw[if_pos h1]
  show nY ([34]++x++[34]++rest) out [] false false=_;have e:[34]++x++[34]++rest=34::(x++(34::rest)):=by simp
  rw[e];show nY (x++(34::rest)) out [] true true=_;rw[C8 (34::rest) out true x [] hc];rfl
 ·rw[if_neg h1]
  have h2:x≠[]:=fun e=>h1 (.inl e)
  have h3:x.any vZ=false:=by
   cases e:x.any vZ with
   |false=>rfl
   |true=>exact absurd (.inr e) h1
  show nY (x++rest) out [] false false=_;rw[Ho rest out x [] false hc h3]
  cases x with
  |nil=>exact absurd rfl h2
  |cons c t=>rfl
def blankB (c:UInt8):Bool:=c==9||c==32
theorem of_blank (c:UInt8) (rest:List UInt8) (out:List (List UInt8)) (f:List UInt8) (op:Bool) (h:blankB c=true):nY (c::rest) out f op false=nY rest (oV op out f) [] false false:=by
 unfold blankB at h;have hc:c=9∨c=32:=by simpa using h
 rcases hc with rfl|rfl<;>rfl
theorem Hq (rest:List UInt8): ∀(l:List (List UInt8)) (out:List (List UInt8)) (f:List UInt8),(bL l).2=0→nY ((bL l).1++rest) out f true false=nY rest (out++((f::l).dropLast)) ((f::l).getLast (by simp)) true false
 |[],out,f,_=>by simp[bL]
 |x::l,out,f,h=>by
  unfold bL at h⊢;by_cases h1:(oh x).2=0
  ·rw[if_pos h1] at h⊢
   by_cases h2:(bL l).2=0
   ·rw[if_pos h2]
    show nY ([32]++(oh x).1++(bL l).1++rest) out f true false=_;have e:[32]++(oh x).1++(bL l).1++rest=32::((oh x).1++((bL l).1++rest)):=by simp
    rw[e,of_blank 32 _ out f true rfl,Wo x _ _ h1];rw[Hq rest l (oV true out f) x h2];have e2:oV true out f=out++[f]:=rfl;rw[e2];congr 1
    simp[List.dropLast_cons_of_ne_nil]
   ·rw[if_neg h2] at h;exact absurd h h2
  ·rw[if_neg h1] at h;exact absurd h h1
theorem join_ok {l:List (List UInt8)} (h:(fw l).2=0):l.length≤16∧(bL l).2=0∧(fw l).1=(bL l).1.drop 1:=by
 unfold fw at h⊢;by_cases h1:16<l.length
 ·rw[if_pos h1] at h;cases h
 ·rw[if_neg h1] at h⊢
  by_cases h2:(bL l).2=0
  ·rw[if_pos h2];exact⟨by omega,h2,rfl⟩
  ·rw[if_neg h2] at h;exact absurd h h2
theorem Wp (l:List (List UInt8)) (h:(fw l).2=0):EE (fw l).1=(l,0):=by
 obtain⟨h1,h2,h3⟩:=join_ok h;rw[h3]
 cases l with
 |nil=>rfl
 |cons x l=>
  unfold bL at h2⊢;by_cases h4:(oh x).2=0
  ·rw[if_pos h4] at h2⊢
   by_cases h5:(bL l).2=0
   ·rw[if_pos h5]
    have e:([32]++(oh x).1++(bL l).1).drop 1=(oh x).1++(bL l).1:=by simp
    show nY (([32]++(oh x).1++(bL l).1).drop 1) [] [] false false=_;rw[e,Wo x _ _ h4];have:=Hq [] l [] x h5;rw[List.append_nil] at this;rw[this];show Ao (oV true ([]++(x::l).dropLast) ((x::l).getLast _))=_;have e3:oV true ([]++(x::l).dropLast) ((x::l).getLast (by simp))=x::l:=by
     show([]++(x::l).dropLast)++[(x::l).getLast _]=_;rw[List.nil_append,List.dropLast_concat_getLast]
    rw[e3];unfold Ao;rw[if_neg (by omega)]
   ·rw[if_neg h5] at h2;exact absurd h2 h5
  ·rw[if_neg h4] at h2;exact absurd h2 h4
theorem Nv {x:List UInt8} (h:x.contains 34=false):(oh x).2=0:=by
 unfold oh;rw[h,if_neg (by decide)];split<;>rfl
theorem rO: ∀(l:List (List UInt8)),(∀x∈l,x.contains 34=false)→(bL l).2=0
 |[],_=>rfl
 |x::l,h=>by
  unfold bL;rw[if_pos (Nv (h x List.mem_cons_self)),if_pos (rO l fun y hy=>h y (List.mem_cons_of_mem _ hy))]
def upTo (t:List UInt8):List UInt8:=t.takeWhile fun c=>c != 34
def behind (t:List UInt8):List UInt8:=t.drop ((upTo t).length+1)
def xD:Nat→List UInt8→List UInt8→Bool×List UInt8×List UInt8
 |0,s,f=>(false,f,s)
 |n+1,[],f=>(false,f,[])
 |n+1,c::t,f=>sel (vZ c) (false,f,c::t) (sel (c==34) (sel (t.contains 34) (xD n (behind t) (f++upTo t)) (true,f,t)) (xD n t (f++[c])))
def Cb (s:List UInt8):List UInt8:=s.dropWhile fun b=>([32,9]:List UInt8).contains b
def nd (s:List UInt8):Bool×List UInt8×List UInt8:=xD ((Cb s).length+1) (Cb s) []
def Cc (s:List UInt8):Bool:=match Cb s with|[]=>false|c::_=>!(c==35)
def LK (s:List UInt8):Bool:=Cc s&&(nd s).1
def LM (s:List UInt8):List UInt8:=sel (Cc s) (nd s).2.1 []
def w9 (s:List UInt8):List UInt8:=sel (Cc s) (nd s).2.2 (Cb s)
theorem zT: ∀t:List UInt8,t.contains 34=true→t=upTo t++34::behind t∧(upTo t).contains 34=false
 |[],h=>by cases h
 |c::t,h=>by
  by_cases hc:c=34
  ·subst hc
   exact⟨rfl,rfl⟩
  ·have h2:t.contains 34=true:=by
    rw[List.contains_cons,Bool.or_eq_true] at h;rcases h with h|h
    ·rw[beq_iff_eq] at h;exact absurd h.symm hc
    ·exact h
   obtain⟨e1,e2⟩:=zT t h2;have hb:(c != 34)=true:=by rw[bne_iff_ne];exact hc
   have hu:upTo (c::t)=c::upTo t:=by unfold upTo;rw[List.takeWhile_cons,if_pos hb]
   have hb2:behind (c::t)=behind t:=by unfold behind;rw[hu];rfl
   refine⟨by rw[hu,hb2];simp only[List.cons_append];rw[←e1],?_⟩;rw[hu,List.contains_cons,e2,Bool.or_false,beq_eq_false_iff_ne];exact fun e=>hc e.symm
theorem pZ (t:List UInt8) (h:t.contains 34=true):(behind t).length<t.length∧(upTo t).length+(behind t).length+1=t.length:=by
 have:=congrArg List.length (zT t h).1;simp at this;omega
theorem Wq: ∀(t:List UInt8) (out:List (List UInt8)) (f:List UInt8) (op:Bool),t.contains 34=false→nY t out f op true=([],8)
 |[],_,_,_,_=>rfl
 |c::t,out,f,op,h=>by
  rw[List.contains_cons,Bool.or_eq_false_iff] at h;have hc:(c==34)=false:=by
   rw[beq_eq_false_iff_ne] at h⊢;exact fun e=>h.1 e.symm
  show sel true (sel (c==34) _ (nY t out (f++[c]) op true)) _=_;rw[hc];exact Wq t out (f++[c]) op h.2
theorem of_nd: ∀(n:Nat) (s f:List UInt8) (out:List (List UInt8)),s.length<n→nY s out f true false=sel (xD n s f).1 ([],8) (nY (xD n s f).2.2 (out++[(xD n s f).2.1]) [] false false)
 |0,s,f,out,h=>by omega
 |n+1,[],f,out,h=>rfl
 |n+1,c::t,f,out,h=>by
  have h:t.length<n:=by simpa using h
  unfold xD
  cases hs:vZ c with
  |true=>
   show _=nY (c::t) (out++[f]) [] false false;unfold vZ at hs;have hc:(c=9∨c=32)∨c=35:=by simpa using hs
   rcases hc with(rfl|rfl)|rfl<;>rfl
  |false=>
   show _=sel (sel (c==34) (sel (t.contains 34) (xD n (behind t) (f++upTo t)) (true,f,t)) (xD n t (f++[c]))).1 ([],8) _;unfold vZ at hs;rw[Bool.or_eq_false_iff,Bool.or_eq_false_iff] at hs;obtain⟨⟨h9,h32⟩,Sj⟩:=hs;have e0:nY (c::t) out f true false=sel (c==34) (nY t out f true true) (nY t out (f++[c]) true false):=by
    show sel false _ (sel (c==35) _ (sel (c==9) _ (sel (c==32) _ _)))=_;rw[h9,h32,Sj];rfl
   rw[e0]
   cases hq:c==34 with
   |false=>exact of_nd n t (f++[c]) out h
   |true=>
    cases hm:t.contains 34 with
    |false=>exact Wq t out f true hm
    |true=>
     obtain⟨e1,e2⟩:=zT t hm;have e3:nY t out f true true=nY (behind t) out (f++upTo t) true false:=by
      have:=C8 (34::behind t) out true (upTo t) f e2;rw[←e1] at this;rw[this];rfl
     show nY t out f true true=sel (xD n (behind t) (f++upTo t)).1 ([],8) _;rw[e3];exact of_nd n (behind t) (f++upTo t) out (by have:=(pZ t hm).1;omega)
theorem Gx: ∀(n:Nat) (s f:List UInt8),s.length<n→(xD n s f).2.2.length≤s.length∧(xD n s f).2.1.length≤f.length+s.length
 |0,s,f,h=>by omega
 |n+1,[],f,h=>⟨Nat.le_refl _,Nat.le_refl _⟩
 |n+1,c::t,f,h=>by
  have h:t.length<n:=by simpa using h
  unfold xD
  cases hs:vZ c with
  |true=>exact⟨Nat.le_refl _,by simp[sel]⟩
  |false=>
   cases hq:c==34 with
   |false=>
    have:=Gx n t (f++[c]) h;show(xD n t (f++[c])).2.2.length≤_∧(xD n t (f++[c])).2.1.length≤_;simp only[List.length_append,List.length_cons,List.length_nil] at this⊢;omega
   |true=>
    cases hm:t.contains 34 with
    |false=>
     show t.length≤(c::t).length∧f.length≤f.length+(c::t).length;simp
    |true=>
     obtain⟨k1,k2⟩:=pZ t hm;have:=Gx n (behind t) (f++upTo t) (by omega);show(xD n (behind t) (f++upTo t)).2.2.length≤_∧(xD n (behind t) (f++upTo t)).2.1.length≤_;simp only[List.length_append,List.length_cons] at this⊢;omega
theorem Nw: ∀s:List UInt8,(Cb s).length≤s.length:=fun s=>(List.dropWhile_sublist _).length_le
theorem Ws: ∀(s:List UInt8) (out:List (List UInt8)),nY s out [] false false=nY (Cb s) out [] false false
 |[],out=>rfl
 |c::t,out=>by
  unfold Cb;rw[List.dropWhile_cons]
  cases hb:([32,9]:List UInt8).contains c with
  |false=>rw[if_neg (by decide)]
  |true=>
   rw[if_pos rfl];have hc:c=32∨c=9:=by simpa using hb
   have:nY (c::t) out [] false false=nY t out [] false false:=by rcases hc with rfl|rfl<;>rfl
   rw[this];exact Ws t out
theorem Qj {s t:List UInt8} {c:UInt8} (h:Cb s=c::t):(c==32)=false∧(c==9)=false:=by
 have h2: ∀(l:List UInt8),Cb l=c::t→([32,9]:List UInt8).contains c=false:=by
  intro l;induction l with
  |nil=>intro h;cases h
  |cons a l ih=>
   intro h;unfold Cb at h;rw[List.dropWhile_cons] at h
   cases hb:([32,9]:List UInt8).contains a with
   |true=>rw[hb,if_pos rfl] at h;exact ih h
   |false=>
    rw[hb,if_neg (by decide)] at h;simp only[List.cons.injEq] at h;rw[←h.1];exact hb
 have:=h2 s h;simpa using this
theorem of_next (s:List UInt8) (out:List (List UInt8)):nY s out [] false false=sel (Cc s) (sel (LK s) ([],8) (nY (w9 s) (out++[LM s]) [] false false)) (Ao out):=by
 rw[Ws];have hT:=Nw s;unfold LK w9 LM nd Cc
 cases h:Cb s with
 |nil=>rfl
 |cons c t=>
  rw[h] at hT;simp only[h]
  cases Sj:c==35 with
  |true=>
   rw[beq_iff_eq] at Sj;subst Sj;rfl
  |false=>
   obtain⟨h32,h9⟩:=Qj h;have e0:nY (c::t) out [] false false=nY (c::t) out [] true false:=by
    show sel false _ (sel (c==35) _ (sel (c==9) _ (sel (c==32) _ (sel (c==34) _ _))))=sel false _ (sel (c==35) _ (sel (c==9) _ (sel (c==32) _ (sel (c==34) _ _))));rw[h9,h32,Sj];rfl
   rw[e0];exact of_nd ((c::t).length+1) (c::t) [] out (by omega)
theorem Tt (s:List UInt8):(w9 s).length≤s.length∧(LM s).length≤s.length∧(Cc s=true→LK s=false→(w9 s).length<s.length):=by
 have hT:=Nw s;have h1:=Gx ((Cb s).length+1) (Cb s) [] (by omega);refine⟨?_,?_,?_⟩
 ·unfold w9 nd
  cases Cc s
  ·exact hT
  ·show(xD ((Cb s).length+1) (Cb s) []).2.2.length≤_;omega
 ·unfold LM nd
  cases Cc s
  ·exact Nat.zero_le _
  ·show(xD ((Cb s).length+1) (Cb s) []).2.1.length≤_
   have:=h1.2;simp only[List.length_nil,Nat.zero_add] at this;omega
 ·intro hm hb
  unfold w9 nd;rw[hm];show(xD ((Cb s).length+1) (Cb s) []).2.2.length<_;unfold Cc at hm
  cases h:Cb s with
  |nil=>rw[h] at hm;cases hm
  |cons c t=>
   rw[h] at hm hT;have Sj:(c==35)=false:=by simpa using hm
   obtain⟨h32,h9⟩:=Qj h;have hT:t.length<s.length:=by simp at hT;omega
   have hs:vZ c=false:=by unfold vZ;rw[h9,h32,Sj];rfl
   show(sel (vZ c) (false,[],c::t) (sel (c==34) (sel (t.contains 34) (xD (t.length+1) (behind t) ([]++upTo t)) (true,[],t)) (xD (t.length+1) t ([]++[c])))).2.2.length<_;rw[hs]
   cases hq:c==34 with
   |false=>show(xD (t.length+1) t ([]++[c])).2.2.length<_;have:=(Gx (t.length+1) t ([]++[c]) (by omega)).1;omega
   |true=>
    cases hm2:t.contains 34 with
    |false=>show t.length<_;exact hT
    |true=>
     show(xD (t.length+1) (behind t) ([]++upTo t)).2.2.length<_;have k:=(pZ t hm2).1;have:=(Gx (t.length+1) (behind t) ([]++upTo t) (by omega)).1;omega
end Nt.Fld
namespace Nt.Ev.YtplklcejbmfgdaaGreatDoor
set_option maxRecDepth 100000
open Go Nt.Num Go.Proofs.YtplklcejbmfgdaaGreatDoor
def ixF (s c:List UInt8):Int:=Go.Lib.indexAny s c
def jq (l:List UInt8):Bool:=l.all fun c=>decide (c.toNat<128)
noncomputable def hE:Env:=⟨Go.Proofs.Tryz.prog,fun _=>none⟩
def uL (s:List UInt8) (c:Int):Int:=Go.Lib.indexByte s c.toNat.toUInt8
noncomputable def hAnyS:aG:=fun a=>match a with|[.str s,.str c]=>some (ai (ak (au s) 4000000) (ai (ai (ak 2 (au c)) (ak (au c) 1000)) (jq c)),.int .i64 (ixF s c))|_=>none
noncomputable def hRuneS:aG:=fun a=>match a with|[.str s,.int .i32 r]=>some (ai (ak 0 r) (aU r 128),.int .i64 (uL s r))|_=>none
noncomputable def hS0:List (Nat×aG):=(116,hAnyS)::(115,hRuneS)::[]
def ftT (s:List UInt8):List UInt8:=(Nt.Fld.oh s).1
def ftW (s:List UInt8):Int:=(Nt.Fld.oh s).2
noncomputable def Tv:aG:=fun a=>match a with|[.str s]=>some (ak (au s) 4000000,.tup [.str (ftT s),.int .i64 (ftW s)])|_=>none
theorem Zj (F:Nat) (s:List UInt8) (K:V→Option V):
 bW hE (bT hE hS0 F 4) F 82 [V.str s] K=
 let A:=sel (gz [34] s) (sel (gz (gy [34] s) [34]) (K (V.tup [V.str (gy (gy [34] s) [34]),V.int .i64 0])) none) (none);let B:=au [32,9,35];sel (ak 0 (uL s 34)) (K (V.tup [V.str [],V.int .i64 8])) (sel (seq s []) A (sel (ai (ak (au s) 4000000) (ai (ai (ak 2 B) (ak B 1000)) (jq [32,9,35]))) (sel (ak 0 (ixF s [32,9,35])) A (K (V.tup [V.str s,V.int .i64 0]))) none)):=by kernel_rfl
open Go.RowKit Nt Nt.Fld
theorem Ke:tY hE:=⟨by kernel_rfl,by kernel_rfl⟩
theorem Vu {s:List UInt8} (h:ak (au s) 4000000=true):s.length≤4000000:=by rw[ay,aC] at h;omega
theorem Ph (l:List UInt8):(⟨l.toArray⟩:ByteArray).size=l.length:=by simp[ByteArray.size]
theorem hAnyS_ok (s c:List UInt8) (hc:ai (ak (au s) 4000000) (ai (ai (ak 2 (au c)) (ak (au c) 1000)) (jq c))=true):af hE 116 [.str s,.str c] (.int .i64 (ixF s c)):=by
 obtain⟨h1,h2⟩:=aR hc;obtain⟨h2,h3⟩:=aR h2;obtain⟨h2,h4⟩:=aR h2;have h1:=Vu h1;rw[ay,aC] at h2 h4;refine bP fun G w vs hG hg hp=>?_
 obtain⟨x,y,rfl,hx,hy⟩:=jD hp;unfold aO at hx hy;subst hx;subst hy;refine(Nt.AnyS.K8 Go.Proofs.Tryz.M7 (by kernel_rfl) ⟨s.toArray⟩ ⟨c.toArray⟩ w (by rw[Ph];omega) (by rw[Ph];omega) (by rw[Ph];omega) (fun b hb=>?_)).mono ?_
 ·have h3:(c.all fun c=>decide (c.toNat<128))=true:=h3
  exact of_decide_eq_true (List.all_eq_true.1 h3 b hb)
 ·rintro e w' ⟨rfl,hb⟩
  exact⟨_,rfl,hb,qE _ _⟩
theorem Zk (s:List UInt8) (r:Int) (hc:ai (ak 0 r) (aU r 128)=true):af hE 115 [.str s,.int .i32 r] (.int .i64 (uL s r)):=by
 rw[aJ,ay,bf] at hc;refine bP fun G w vs hG hg hp=>?_
 obtain⟨x,y,rfl,hx,hy⟩:=jD hp;unfold aO at hx hy;subst hx;subst hy;refine(Go.Proofs.Tryz.strings_IndexRune_ascii ⟨s.toArray⟩ r w hc.1 hc.2).mono ?_;rintro e w' ⟨rfl,rfl⟩;exact⟨_,rfl,Below.refl _ _,qE _ _⟩
theorem hS0_ok:bn hE hS0:=by
 unfold hS0;refine bn.cons (fun args r h=>?_) (bn.cons (fun args r h=>?_) bn.nil);all_goals (revert h;intro h;first|unfold hAnyS at h|unfold hRuneS at h)
 all_goals (split at h;rotate_left; · cases h)
 all_goals (simp only[Option.some.injEq,Prod.mk.injEq] at h;obtain⟨hc,rfl⟩:=h)
 ·exact hAnyS_ok _ _ hc
 ·exact Zk _ _ hc
theorem Wt (b c:UInt8) (l:List UInt8):Lib.indexByte (b::l) c=if b==c then 0 else if Lib.indexByte l c== -1 then -1 else Lib.indexByte l c+1:=rfl
theorem ib_has: ∀(l:List UInt8) (c:UInt8),-1≤Lib.indexByte l c∧((0≤Lib.indexByte l c)↔l.contains c=true)
 |[],c=>⟨show(-1:Int)≤ -1 by decide,by simp[Lib.indexByte]⟩
 |b::l,c=>by
  obtain⟨h1,h2⟩:=ib_has l c;rw[Wt,List.contains_cons]
  cases hb:b==c with
  |true=>
   have:(c==b)=true:=by rw[beq_iff_eq] at hb⊢;exact hb.symm
   rw[this];simp
  |false=>
   have:(c==b)=false:=by rw[beq_eq_false_iff_ne] at hb⊢;exact fun e=>hb e.symm
   rw[this,Bool.false_or,if_neg (by decide)];by_cases h:Lib.indexByte l c= -1
   ·rw[if_pos (by rw[h];rfl)]
    refine⟨by decide,?_⟩;rw[←h2];omega
   ·rw[if_neg (by simpa using h)]
    refine⟨by omega,?_⟩;rw[←h2];omega
theorem ia_cons (b:UInt8) (l c:List UInt8):Lib.indexAny (b::l) c=if c.contains b then 0 else if Lib.indexAny l c== -1 then -1 else Lib.indexAny l c+1:=rfl
theorem ia_has (c:List UInt8): ∀(l:List UInt8),-1≤Lib.indexAny l c∧((0≤Lib.indexAny l c)↔l.any (fun b=>c.contains b)=true)
 |[]=>⟨show(-1:Int)≤ -1 by decide,by simp[Lib.indexAny]⟩
 |b::l=>by
  obtain⟨h1,h2⟩:=ia_has c l;rw[ia_cons,List.any_cons]
  cases hb:c.contains b with
  |true=>simp
  |false=>
   rw[Bool.false_or,if_neg (by decide)];by_cases h:Lib.indexAny l c= -1
   ·rw[if_pos (by rw[h];rfl)]
    refine⟨by decide,?_⟩;rw[←h2];omega
   ·rw[if_neg (by simpa using h)]
    refine⟨by omega,?_⟩;rw[←h2];omega
theorem sp_any (s:List UInt8):s.any (fun b=>([32,9,35]:List UInt8).contains b)=s.any vZ:=by
 congr 1
 funext b
 obtain⟨⟨m⟩⟩:=b;revert m;decide+kernel
theorem Zl (s:List UInt8) (hc:ak (au s) 4000000=true):af hE 82 [.str s] (.tup [.str (ftT s),.int .i64 (ftW s)]):=by
 have hl:=Vu hc;refine aj Ke hS0_ok 5 4 ?_;have e0:ak 0 (uL s 34)=s.contains 34:=by
  rw[Bool.eq_iff_iff,ay];exact(ib_has s 34).2
 have e1:ak 0 (ixF s [32,9,35])=s.any vZ:=by
  rw[←sp_any,Bool.eq_iff_iff,ay];exact(ia_has [32,9,35] s).2
 have c1:gz [34] s=true:=by rw[eP];simp;omega
 have c2:gz (gy [34] s) [34]=true:=by rw[eP];unfold gy;simp;omega
 have c3:ai (ak (au s) 4000000) (ai (ai (ak 2 (au [32,9,35])) (ak (au [32,9,35]) 1000)) (jq [32,9,35]))=true:=by rw[hc];rfl
 (rw[Zj];(conv=>zeta);rw[e0,e1,c1,c2,c3])
 unfold ftT ftW oh
 cases h1:s.contains 34 with
 |true=>rfl
 |false=>
  rw[if_neg (by decide)];by_cases h2:s=[]
  ·rw[if_pos (Or.inl h2),show seq s []=true by rw[dh];exact h2];rfl
  ·rw[show seq s []=false by cases e:seq s [] with|false=>rfl|true=>rw[dh] at e;exact absurd e h2]
   cases h3:s.any vZ with
   |true=>rw[if_pos (Or.inr rfl)];rfl
   |false=>rw[if_neg (fun h=>h.elim h2 (fun h=>by cases h))];rfl
theorem u8q (c:UInt8) (n:Nat) (d:UInt8) (h:d.toNat=n):ieq ((c.toNat:Nat):Int) (n:Int)=(c==d):=by
 rw[Bool.eq_iff_iff,aL,beq_iff_eq,←UInt8.toNat_inj,h];omega
def bF (l:List (List UInt8)):List V:=l.map V.str
theorem Zm (l:List (List UInt8)) (x:List UInt8):aM (bF l) [V.str x]=bF (l++[x]):=by unfold aM bF;simp
def tlT (s c:List UInt8):List UInt8:=s.dropWhile fun b=>c.contains b
def irI (s:List UInt8) (r:Int):Int:=if r<128 then uL s r else -1
noncomputable def hByS:aG:=fun a=>match a with|[.str s,.int .u8 c]=>some (true,.int .i64 (uL s c))|_=>none
noncomputable def hTlS:aG:=fun a=>match a with|[.str s,.str c]=>some (ai (ak (au c) 1000) (jq c),.str (tlT s c))|_=>none
noncomputable def hRnS:aG:=fun a=>match a with|[.str s,.int .i32 r]=>some (ai (ak 0 r) (ai (jq s) (ak (au s) 1000)),.int .i64 (irI s r))|_=>none
noncomputable def hS2:List (Nat×aG):=(43,hByS)::(119,hTlS)::(115,hRnS)::[]
theorem hByS_ok (s:List UInt8) (c:Int) (hc:true=true):af hE 43 [.str s,.int .u8 c] (.int .i64 (uL s c)):=by
 refine bP fun G w vs hG hg hp=>?_
 obtain⟨x,y,rfl,hx,hy⟩:=jD hp;unfold aO at hx hy;subst hx;subst hy;refine(Go.Proofs.Tryz.strings_IndexByte ⟨s.toArray⟩ c w).mono ?_;rintro e w' ⟨rfl,rfl⟩;exact⟨_,rfl,Below.refl _ _,qE _ _⟩
theorem hTlS_ok (s c:List UInt8) (hc:ai (ak (au c) 1000) (jq c)=true):af hE 119 [.str s,.str c] (.str (tlT s c)):=by
 obtain⟨h1,h2⟩:=aR hc;rw[ay,aC] at h1;refine bP fun G w vs hG hg hp=>?_
 obtain⟨x,y,rfl,hx,hy⟩:=jD hp;unfold aO at hx hy;subst hx;subst hy;refine(Go.Proofs.Any.strings_TrimLeft_laid Go.Proofs.Tryz.lays161 (by kernel_rfl) ⟨s.toArray⟩ ⟨c.toArray⟩ w (by rw[Ph];omega) (fun j b hb=>?_)).mono ?_
 ·have h3:(c.all fun c=>decide (c.toNat<128))=true:=h2
  exact of_decide_eq_true (List.all_eq_true.1 h3 b (List.mem_of_getElem? hb))
 ·rintro e w' ⟨rfl,hb⟩
  exact⟨_,rfl,hb,M4 _⟩
theorem hRnS_ok (s:List UInt8) (r:Int) (hc:ai (ak 0 r) (ai (jq s) (ak (au s) 1000))=true):af hE 115 [.str s,.int .i32 r] (.int .i64 (irI s r)):=by
 obtain⟨h1,h2⟩:=aR hc;obtain⟨h2,h4⟩:=aR h2;rw[ay] at h1 h4;rw[aC] at h4;refine bP fun G w vs hG hg hp=>?_
 obtain⟨x,y,rfl,hx,hy⟩:=jD hp;unfold aO at hx hy;subst hx;subst hy;unfold irI;by_cases hr:r<128
 ·rw[if_pos hr]
  refine(Go.Proofs.Tryz.strings_IndexRune_ascii ⟨s.toArray⟩ r w h1 hr).mono ?_;rintro e w' ⟨rfl,rfl⟩;exact⟨_,rfl,Below.refl _ _,qE _ _⟩
 ·rw[if_neg hr]
  refine(Nt.AnyS.tX Go.Proofs.Tryz.VT ⟨s.toArray⟩ r w (by omega) (fun b hb=>?_) (by rw[Ph];omega)).mono ?_
  ·have h3:(s.all fun c=>decide (c.toNat<128))=true:=h2
   exact of_decide_eq_true (List.all_eq_true.1 h3 b hb)
  ·rintro e w' ⟨rfl,hb⟩
   exact⟨_,rfl,hb,qE _ _⟩
theorem hS2_ok:bn hE hS2:=by
 unfold hS2;refine bn.cons (fun args r h=>?_) (bn.cons (fun args r h=>?_) (bn.cons (fun args r h=>?_) bn.nil));all_goals (revert h;intro h;first|unfold hByS at h|unfold hTlS at h|unfold hRnS at h)
 all_goals (split at h;rotate_left; · cases h)
 all_goals (simp only[Option.some.injEq,Prod.mk.injEq] at h;obtain⟨hc,rfl⟩:=h)
 ·exact hByS_ok _ _ rfl
 ·exact hTlS_ok _ _ hc
 ·exact hRnS_ok _ _ hc
noncomputable def OO:V→Bool| .nilp=>true| .box k off=>k==HL&&off==0|_=>false
noncomputable def bufOk:V→Bool| .nilsl=>true| .sl e sh (some L) xs=>e==5&&Kd.qV [.int .u8] sh&&L==1000001002|_=>false
noncomputable def bufS:V→List UInt8| .sl _ _ _ xs=>gD xs|_=>[]
noncomputable def bufN:V→V| .sl e sh _ xs=> .sl e sh none xs|v=>v
noncomputable def hCpS:aG:=fun a=>match a with|[.bxa 0 [x,b]]=>some (OO x,.out false (.tup []) [[.box HL 0,b]])|_=>none
noncomputable def hStS:aG:=fun a=>match a with|[.bxa 0 [x,b]]=>some (ai (OO x) (bufOk b),.out false (.str (bufS b)) [[x,bufN b]])|_=>none
noncomputable def hS3:List (Nat×aG):=(GX+68,hCpS)::(GX+34,hStS)::hS2
noncomputable def Br (F:Nat) (ns:List Nat) (n:Nat) (x3:Bool) (aZ:List UInt8) (K:V→Option V):Option V:=
 Fb hE hS3 F 3 105 [V.bxa 0 []] [1,1,1,1,0,0] ns K n (mY 71 [(0,V.box 1000000000 0),(2,V.str []),(3,V.bool x3),(4,V.box 4 0)] [(4,[V.nilp,V.nilsl]),(1000000000,[V.str aZ])])
noncomputable def kP (F:Nat) (ns:List Nat) (n:Nat) (x3:Bool) (OP:List V) (aZ:List UInt8) (K:V→Option V):Option V:=
 Fb hE hS3 F 3 105 [V.bxa 0 []] [1,1,1,1,0,0] ns K n (mY 71 [(0,V.box 1000000000 0),(2,V.str []),(3,V.bool x3),(4,V.box 4 0)] [(4,[V.box 4 0,V.sl 5 [Kd.int .u8] (some 50001) OP]),(1000000000,[V.str aZ])])
theorem Zo (F:Nat) (s:List UInt8) (K:V→Option V):
 bW hE (bT hE hS3 F 3) F 105 [V.bxa 0 [V.str s]] K=
 let B:=tlT s [32,9];let A:=K (V.out false (V.tup [V.str [],V.bool false]) [[V.str B]]);sel (ai (ak (au [32,9]) 1000) (jq [32,9])) (sel (seq B []) A (sel (ai (ak 0 0) (aU 0 (au B))) (sel (ieq (sat B 0) 35) A (Br F [] F false B K)) none)) none:=by kernel_rfl
theorem yD (F n:Nat) (x3:Bool) (aZ:List UInt8) (K:V→Option V):
 Br F [] (n+1) x3 aZ K=
 let B:=K (V.out false (V.tup [V.str [],V.bool true]) [[V.str aZ]]);let D:=sat aZ 0;let G:=au aZ;let A:=dG aZ 1 G;let C:=ai (ak 0 0) (aU 0 G);let E:=uL A 34;let H:=eu .i64 E 1;let I:=aI (dG A 0 E);sel (aK (seq aZ [])) (sel C (sel (aK (ieq D 35)) (sel C (sel (ai (ak 0 (qh .i32 D)) (ai (jq [32,9]) (ak (au [32,9]) 1000))) (sel (aK (ak 0 (irI [32,9] (qh .i32 D)))) (sel C (sel (ai (ak 0 1) (ak 1 G)) (sel (ieq D 34) (sel (aU E 0) (K (V.out true (V.iface 159 (V.agg [V.int .i64 8])) [[V.str A]])) (sel (ai (ak 0 E) (ak E (au A))) (sel (ai (ak 0 H) (ak H (au A))) (sel (q9 I) (kP F [] n x3 I (dG A H (au A)) K) none) none) none)) (kP F [] n x3 [V.int .u8 D] A K)) none) none) B) none) none) B) none) B:=by kernel_rfl
theorem yF (F n:Nat) (x3:Bool) (OP:List V) (aZ:List UInt8) (K:V→Option V):
 kP F [] (n+1) x3 OP aZ K=
 let B:=K (V.out false (V.tup [V.str (gD OP),V.bool true]) [[V.str aZ]]);let C:=sat aZ 0;let G:=au aZ;let A:=dG aZ 1 G;let D:=ai (ak 0 0) (aU 0 G);let E:=uL A 34;let H:=eu .i64 E 1;let I:=aI (dG A 0 E);sel (aK (seq aZ [])) (sel D (sel (aK (ieq C 35)) (sel D (sel (ai (ak 0 (qh .i32 C)) (ai (jq [32,9]) (ak (au [32,9]) 1000))) (sel (aK (ak 0 (irI [32,9] (qh .i32 C)))) (sel D (sel (ai (ak 0 1) (ak 1 G)) (sel (ieq C 34) (sel (aU E 0) (K (V.out true (V.iface 159 (V.agg [V.int .i64 8])) [[V.str A]])) (sel (ai (ak 0 E) (ak E (au A))) (sel (ai (ak 0 H) (ak H (au A))) (sel (cO OP I) (kP F [] n x3 (aM OP I) (dG A H (au A)) K) none) none) none)) (sel (cO OP [V.int .u8 C]) (kP F [] n x3 (aM OP [V.int .u8 C]) A K) none)) none) none) B) none) none) B) none) B:=by kernel_rfl
theorem Hr {x:V} (h:OO x=true):x=.nilp∨x=.box HL 0:=by
 unfold OO at h;split at h
 ·exact .inl rfl
 ·rename_i k off
  rw[Bool.and_eq_true,beq_iff_eq,beq_iff_eq] at h;rw[h.1,h.2];exact .inr rfl
 ·cases h
theorem Wu (x b:V) (hc:OO x=true):su hE 68 [.bxa 0 [x,b]] (.out false (.tup []) [[.box HL 0,b]]):=
 su.out (Wv rfl x b [] (Hr hc))
theorem Ww (x b:V) (hc:ai (OO x) (bufOk b)=true):su hE 34 [.bxa 0 [x,b]] (.out false (.str (bufS b)) [[x,bufN b]]):=by
 obtain⟨h1,h2⟩:=aR hc;refine su.out ?_;unfold bufOk at h2;split at h2
 ·exact yG rfl x []
 ·rename_i e sh L xs
  rw[Bool.and_eq_true,Bool.and_eq_true,beq_iff_eq,beq_iff_eq] at h2;obtain⟨⟨rfl,h3⟩,rfl⟩:=h2;have h3:=Kd.bK _ _ h3;subst h3;exact Lp rfl x [] (by rcases Hr h1 with rfl|rfl<;>rfl) rfl xs
 ·cases h2
theorem Mw:bn hE hS3:=by
 unfold hS3;refine bn.qB (fun args r h=>?_) (bn.qB (fun args r h=>?_) hS2_ok);all_goals (revert h;intro h;first|unfold hCpS at h|unfold hStS at h)
 all_goals (split at h;rotate_left; · cases h)
 all_goals (simp only[Option.some.injEq,Prod.mk.injEq] at h;obtain⟨hc,rfl⟩:=h)
 ·exact Wu _ _ hc
 ·exact Ww _ _ hc
theorem lc_map (l:List UInt8) (c:UInt8):aM (aI l) [V.int .u8 (c.toNat:Int)]=aI (l++[c]):=by unfold aM aI;simp
theorem Tw (l:List UInt8):gD (aI l)=l:=by
 unfold gD aI;rw[List.map_map];exact(List.map_congr_left fun c _=>by show UInt8.ofNat ((c.toNat:Int)).toNat=c;simp).trans (List.map_id l)
theorem Ny: ∀(t:List UInt8),Lib.indexByte t 34=if t.contains 34=true then((upTo t).length:Int) else -1
 |[]=>rfl
 |b::l=>by
  rw[Wt,Ny l]
  cases hb:b==34 with
  |true=>
   rw[beq_iff_eq] at hb;subst hb;rfl
  |false=>
   have hc:(b::l).contains 34=l.contains 34:=by
    rw[List.contains_cons];have:((34:UInt8)==b)=false:=by rw[beq_eq_false_iff_ne] at hb⊢;exact fun e=>hb e.symm
    rw[this,Bool.false_or]
   have hu:upTo (b::l)=b::upTo l:=by unfold upTo;rw[List.takeWhile_cons,if_pos (by simpa using hb)]
   rw[hc,hu,if_neg (by decide)]
   cases hq:l.contains 34 with
   |true=>
    rw[if_pos rfl,if_pos rfl];have: ¬((((upTo l).length:Int)== -1)=true):=by rw[beq_iff_eq];omega
    rw[if_neg this];simp
   |false=>rfl
theorem Lr (t:List UInt8):t.take (upTo t).length=upTo t:=by
 unfold upTo;have: ∀l:List UInt8,l.take (l.takeWhile fun c=>c != 34).length=l.takeWhile fun c=>c != 34:=by
  intro l;induction l with
  |nil=>rfl
  |cons a l ih=>
   rw[List.takeWhile_cons];split
   ·rw[List.length_cons,List.take_succ_cons,ih]
   ·rfl
 exact this t
theorem Qk (c:UInt8):ak 0 (irI [32,9] (qh .i32 ((c.toNat:Nat):Int)))=(c==9||c==32):=by
 obtain⟨⟨m⟩⟩:=c;revert m;decide+kernel
theorem Wx (c:UInt8):ak 0 (qh .i32 ((c.toNat:Nat):Int))=true:=by
 obtain⟨⟨m⟩⟩:=c;revert m;decide+kernel
def AF (p:Bool×List UInt8×List UInt8):V:=sel p.1 (V.out true (V.iface 159 (V.agg [V.int .i64 8])) [[V.str p.2.2]]) (V.out false (V.tup [V.str p.2.1,V.bool true]) [[V.str p.2.2]])
theorem tfN {α:Type} (x y:α):sel true x y=x∧sel false x y=y:=⟨rfl,rfl⟩
theorem Fu (F:Nat): ∀(n:Nat) (s f:List UInt8),s.length<n→s.length+f.length≤9000000→kP F [] n false (aI f) s some=some (AF (xD n s f))
 |0,s,f,h,_=>by omega
 |n+1,[],f,h,hl=>by
  (rw[yF];(conv=>zeta);rw[Tw]);rfl
 |n+1,c::t,f,h,hl=>by
  have h:t.length<n:=by simpa using h
  have hl2:t.length+f.length+1≤9000000:=by simp at hl;omega
  have k1:aK (seq (c::t) [])=true:=rfl;have k2:ai (ak 0 0) (aU 0 (au (c::t)))=true:=by rw[aJ,ay,bf,aC];simp
  have k3:sat (c::t) 0=((c.toNat:Nat):Int):=rfl;have k4:ai (jq [32,9]) (ak (au [32,9]) 1000)=true:=rfl;have k5:ai (ak 0 1) (ak 1 (au (c::t)))=true:=by rw[aJ,ay,ay,aC];simp;omega
  have k6:dG (c::t) 1 (au (c::t))=t:=by
   unfold dG;rw[aC];have:((((c::t).length:Nat):Int).toNat-(1:Int).toNat)=t.length:=by simp
   rw[this];exact List.take_of_length_le (Nat.le_refl _)
  have e34:ieq ((c.toNat:Nat):Int) 34=(c==34):=u8q _ 34 34 rfl;have e35:ieq ((c.toNat:Nat):Int) 35=(c==35):=u8q _ 35 35 rfl;have kq:ai (ak 0 (qh .i32 ((c.toNat:Nat):Int))) true=true:=by rw[Wx];rfl
  have ka:cO (aI f) [V.int .u8 ((c.toNat:Nat):Int)]=true:=by rw[iM];unfold aI;simp;omega
  (rw[yF];(conv=>zeta))
  simp only[k1,k2,k3,k4,k5,k6,e34,e35,kq,ka,Qk,Tw,lc_map,tfN];unfold xD
  cases Sj:c==35 with
  |true=>
   have hs:vZ c=true:=by unfold vZ;rw[Sj];simp
   rw[hs];rfl
  |false=>
   cases hb:(c==9||c==32) with
   |true=>
    have hs:vZ c=true:=by unfold vZ;rw[hb,Sj];rfl
    rw[hs];rfl
   |false=>
    have hs:vZ c=false:=by unfold vZ;rw[hb,Sj];rfl
    rw[hs]
    cases hq:c==34 with
    |false=>
     show kP F [] n false (aI (f++[c])) t some=_;rw[Fu F n t (f++[c]) h (by simp;omega)];rfl
    |true=>
     have hi:uL t 34=if t.contains 34=true then((upTo t).length:Int) else -1:=Ny t
     cases hm:t.contains 34 with
     |false=>
      rw[hm,if_neg (by decide)] at hi;rw[hi];rfl
     |true=>
      rw[hm,if_pos rfl] at hi;obtain⟨b1,b2⟩:=pZ t hm;have j1:aU ((upTo t).length:Int) 0=false:=bD (by omega);have j2:ai (ak 0 ((upTo t).length:Int)) (ak ((upTo t).length:Int) (au t))=true:=by rw[aJ,ay,ay,aC];omega
      have j3:eu .i64 ((upTo t).length:Int) 1=(((upTo t).length+1:Nat):Int):=by rw[fU (by omega)];omega
      have j4:ai (ak 0 (((upTo t).length+1:Nat):Int)) (ak (((upTo t).length+1:Nat):Int) (au t))=true:=by rw[aJ,ay,ay,aC];omega
      have j5:dG t 0 ((upTo t).length:Int)=upTo t:=by
       unfold dG;simp only[Int.toNat_natCast,Int.toNat_zero,List.drop_zero,Nat.sub_zero];exact Lr t
      have j6:dG t (((upTo t).length+1:Nat):Int) (au t)=behind t:=by
       unfold dG behind;rw[aC,Int.toNat_natCast,Int.toNat_natCast];exact List.take_of_length_le (by simp)
      have j7:cO (aI f) (aI (upTo t))=true:=by rw[iM];unfold aI;simp;omega
      have j8:aM (aI f) (aI (upTo t))=aI (f++upTo t):=by unfold aM aI;simp
      simp only[hi,j1,j2,j3,j4,j5,j6,j7,j8];show kP F [] n false (aI (f++upTo t)) (behind t) some=_;rw[Fu F n (behind t) (f++upTo t) (by omega) (by simp;omega)];rfl
theorem fn_first (F n:Nat) (s:List UInt8) (h:s.length<n+1) (hl:s.length≤9000000):Br F [] (n+1) false s some=some (AF (xD (n+1) s [])):=by
 cases s with
 |nil=>(rw[yD];(conv=>zeta));rfl
 |cons c t=>
  have h:t.length<n:=by simpa using h
  have hl2:t.length+1≤9000000:=by simpa using hl
  have k1:aK (seq (c::t) [])=true:=rfl;have k2:ai (ak 0 0) (aU 0 (au (c::t)))=true:=by rw[aJ,ay,bf,aC];simp
  have k3:sat (c::t) 0=((c.toNat:Nat):Int):=rfl;have k4:ai (jq [32,9]) (ak (au [32,9]) 1000)=true:=rfl;have k5:ai (ak 0 1) (ak 1 (au (c::t)))=true:=by rw[aJ,ay,ay,aC];simp;omega
  have k6:dG (c::t) 1 (au (c::t))=t:=by
   unfold dG;rw[aC];have:((((c::t).length:Nat):Int).toNat-(1:Int).toNat)=t.length:=by simp
   rw[this];exact List.take_of_length_le (Nat.le_refl _)
  have e34:ieq ((c.toNat:Nat):Int) 34=(c==34):=u8q _ 34 34 rfl;have e35:ieq ((c.toNat:Nat):Int) 35=(c==35):=u8q _ 35 35 rfl;have kq:ai (ak 0 (qh .i32 ((c.toNat:Nat):Int))) true=true:=by rw[Wx];rfl
  (rw[yD];(conv=>zeta))
  simp only[k1,k2,k3,k4,k5,k6,e34,e35,kq,Qk,tfN];unfold xD
  cases Sj:c==35 with
  |true=>
   have hs:vZ c=true:=by unfold vZ;rw[Sj];simp
   rw[hs];rfl
  |false=>
   cases hb:(c==9||c==32) with
   |true=>
    have hs:vZ c=true:=by unfold vZ;rw[hb,Sj];rfl
    rw[hs];rfl
   |false=>
    have hs:vZ c=false:=by unfold vZ;rw[hb,Sj];rfl
    rw[hs]
    cases hq:c==34 with
    |false=>
     show kP F [] n false (aI [c]) t some=_;rw[Fu F n t [c] h (by simp;omega)];rfl
    |true=>
     have hi:uL t 34=if t.contains 34=true then((upTo t).length:Int) else -1:=Ny t
     cases hm:t.contains 34 with
     |false=>
      rw[hm,if_neg (by decide)] at hi;rw[hi];rfl
     |true=>
      rw[hm,if_pos rfl] at hi;obtain⟨b1,b2⟩:=pZ t hm;have j1:aU ((upTo t).length:Int) 0=false:=bD (by omega);have j2:ai (ak 0 ((upTo t).length:Int)) (ak ((upTo t).length:Int) (au t))=true:=by rw[aJ,ay,ay,aC];omega
      have j3:eu .i64 ((upTo t).length:Int) 1=(((upTo t).length+1:Nat):Int):=by rw[fU (by omega)];omega
      have j4:ai (ak 0 (((upTo t).length+1:Nat):Int)) (ak (((upTo t).length+1:Nat):Int) (au t))=true:=by rw[aJ,ay,ay,aC];omega
      have j5:dG t 0 ((upTo t).length:Int)=upTo t:=by
       unfold dG;simp only[Int.toNat_natCast,Int.toNat_zero,List.drop_zero,Nat.sub_zero];exact Lr t
      have j6:dG t (((upTo t).length+1:Nat):Int) (au t)=behind t:=by
       unfold dG behind;rw[aC,Int.toNat_natCast,Int.toNat_natCast];exact List.take_of_length_le (by simp)
      have j7:q9 (aI (upTo t))=true:=by unfold q9 aI;rw[AX];simp;omega
      simp only[hi,j1,j2,j3,j4,j5,j6,j7];show kP F [] n false (aI (upTo t)) (behind t) some=_;rw[Fu F n (behind t) (upTo t) (by omega) (by omega)];rfl
theorem hNxS_ok (s:List UInt8) (hc:ak (au s) 4000000=true):su hE 105 [.bxa 0 [.str s]] (.qb (LK s) (.out true (.iface 159 (.agg [.int .i64 8])) [[.str (w9 s)]]) (.out false (.tup [.str (LM s),.bool (Cc s)]) [[.str (w9 s)]])):=by
 have hl:=Vu hc;have hT:=Nw s;have hx:bW hE (bT hE hS3 ((Cb s).length+1) 3) ((Cb s).length+1) 105 [V.bxa 0 [V.str s]] some=some (sel (Cc s) (AF (nd s)) (V.out false (V.tup [V.str [],V.bool false]) [[V.str (Cb s)]])):=by
  (rw[Zo];(conv=>zeta))
  have k0:ai (ak (au [32,9]) 1000) (jq [32,9])=true:=rfl;have kt:tlT s [32,9]=Cb s:=rfl;rw[k0,kt];unfold Cc nd
  cases h:Cb s with
  |nil=>rfl
  |cons c t=>
   rw[h] at hT;have k2:ai (ak 0 0) (aU 0 (au (c::t)))=true:=by rw[aJ,ay,bf,aC];simp
   have k3:ieq (sat (c::t) 0) 35=(c==35):=u8q _ 35 35 rfl;have kf:Br ((c::t).length+1) [] ((c::t).length+1) false (c::t) some=some (AF (xD ((c::t).length+1) (c::t) [])):=fn_first _ _ (c::t) (by omega) (by omega);rw[k2,k3,kf];show sel (c==35) _ (some (AF (xD ((c::t).length+1) (c::t) [])))=some (sel (!(c==35)) (AF (xD ((c::t).length+1) (c::t) [])) _);generalize AF (xD ((c::t).length+1) (c::t) [])=z
   cases c==35<;>rfl
 refine su.qb (fun hb=>su.out (mR Ke Mw ((Cb s).length+1) 3 ?_)) (fun hb=>su.out (mR Ke Mw ((Cb s).length+1) 3 ?_))
 ·rw[hx]
  unfold LK at hb;rw[Bool.and_eq_true] at hb;unfold w9 AF;rw[hb.1,hb.2];rfl
 ·rw[hx]
  unfold LK at hb;unfold w9 LM AF
  cases hm:Cc s with
  |false=>rfl
  |true=>
   rw[hm] at hb;have hb:(nd s).1=false:=hb;rw[hb];rfl
noncomputable def hGrS:aG:=fun a=>match a with|[.bxa 0 [x,.nilsl],.int .i64 n]=>some (ai (OO x) (ai (ak 0 n) (ak n 281474976710656)),.out false (.tup []) [[x,.sl 5 [.int .u8] (some 1002) []]])|_=>none
noncomputable def hS6:List (Nat×aG):=(GX+117,hGrS)::(GX+68,hCpS)::(GX+34,hStS)::[]
noncomputable def pN (F:Nat) (ns:List Nat) (n:Nat) (x0:List V) (x1:List UInt8) (x5 lu:Int) (x39:List V) (x40 Ol:Int) (K:V→Option V):Option V:=
 iG hE hS6 F 4 83 [1,1,1,1,0,1,0] ns K n (mY 75 [(0,V.sl 9 [Kd.str] none x0),(1,V.str x1),(4,V.str []),(5,V.int .i64 x5),(8,V.tup []),(10,V.tup []),(12,V.int .i64 lu),(39,V.sl 9 [Kd.str] none x39),(40,V.int .i64 x40),(41,V.int .i64 Ol),(63,V.tup []),(64,V.tup []),(65,V.tup [])] [])
noncomputable def pO (F:Nat) (ns:List Nat) (n:Nat) (x0:List V) (x1:List UInt8) (x5 lu:Int) (x39:List V) (x40 Ol:Int) (x63:List V) (x64 x65:Int) (Xz:List V) (K:V→Option V):Option V:=
 iG hE hS6 F 4 83 [1,1,1,1,1,1,1,1,0,1,0] ns K n (mY 75 [(0,V.sl 9 [Kd.str] none x0),(1,V.str x1),(4,V.str []),(5,V.int .i64 x5),(8,V.box 8 0),(12,V.int .i64 lu),(39,V.sl 9 [Kd.str] none x39),(40,V.int .i64 x40),(41,V.int .i64 Ol),(63,V.sl 9 [Kd.str] none x63),(64,V.int .i64 x64),(65,V.int .i64 x65)] [(8,[V.box 8 0,V.sl 5 [Kd.int .u8] (some 90001) Xz])])
theorem Zp (F:Nat) (xs:List V) (c:List UInt8) (K:V→Option V):
 bW hE (bT hE hS6 F 4) F 83 [V.sl 9 [Kd.str] none xs,V.str c] K=
 let A:=jN .i64 (av xs) 1;sel (ieq (av xs) 0) (K (V.str [])) (sel (ieq (av xs) 1) (sel (ai (ak 0 0) (aU 0 (av xs))) (K (V.str (aH (ah (aX xs 0) 0)))) none) (sel (aU 0 (au c)) (sel (aK (ieq A 0)) (sel (ak (oO .i64 9223372036854775807 A) (au c)) none (pN F [] F xs c (eu .i64 0 (FD .i64 (au c) A)) (av xs) xs (av xs) 0 K)) none) (pN F [] F xs c 0 (av xs) xs (av xs) 0 K))):=by kernel_rfl
theorem yH (F n:Nat) (x0:List V) (x1:List UInt8) (x5 lu:Int) (x39:List V) (x40 Ol:Int) (K:V→Option V):
 pN F [] (n+1) x0 x1 x5 lu x39 x40 Ol K=
 let A:=aI (aH (ah (aX x0 0) 0));let B:=dX x0 1 (av x0);let C:=au (aH (ah (aX x39 Ol) 0));let D:=ai (ak 0 0) (aU 0 (av x0));let E:=ai (ak 0 1) (ak 1 (av x0));sel (aU Ol x40) (sel (ai (ak 0 Ol) (aU Ol (av x39))) (sel (aU (jN .i64 9223372036854775807 x5) C) none (pN F [] n x0 x1 (eu .i64 x5 C) lu x39 x40 (eu .i64 Ol 1) K)) none) (sel (aU x5 0) none (sel (aU (jN .i64 0 0) x5) (sel (ai true (ai (ak 0 x5) (ak x5 281474976710656))) (sel D (sel (cO [] A) (sel E (pO F [] F x0 x1 x5 lu x39 x40 Ol B (av B) 0 (aM [] A) K) none) none) none) none) (sel D (sel (q9 A) (sel E (pO F [] F x0 x1 x5 lu x39 x40 Ol B (av B) 0 A K) none) none) none))):=by kernel_rfl
theorem yI (F n:Nat) (x0:List V) (x1:List UInt8) (x5 lu:Int) (x39:List V) (x40 Ol:Int) (x63:List V) (x64 x65:Int) (Xz:List V) (K:V→Option V):
 pO F [] (n+1) x0 x1 x5 lu x39 x40 Ol x63 x64 x65 Xz K=
 let A:=aI (aH (ah (aX x63 x65) 0));let B:=aM Xz (aI x1);sel (aU x65 x64) (sel (ai (ak 0 x65) (aU x65 (av x63))) (sel (cO Xz (aI x1)) (sel (cO B A) (pO F [] n x0 x1 x5 lu x39 x40 Ol x63 x64 (eu .i64 x65 1) (aM B A) K) none) none) none) (K (V.str (gD Xz))):=by kernel_rfl
theorem hGrS_ok (x:V) (n:Int) (hc:ai (OO x) (ai (ak 0 n) (ak n 281474976710656))=true):su hE 117 [.bxa 0 [x,.nilsl],.int .i64 n] (.out false (.tup []) [[x,.sl 5 [.int .u8] (some 1002) []]]):=by
 obtain⟨h1,h2⟩:=aR hc;rw[aJ,ay,ay] at h2;exact su.out (grow_xc rfl x ((Hr h1).imp id fun h=>⟨0,h⟩) n h2.1 h2.2)
theorem hS6_ok:bn hE hS6:=by
 unfold hS6;refine bn.qB (fun args r h=>?_) (bn.qB (fun args r h=>?_) (bn.qB (fun args r h=>?_) bn.nil));all_goals (revert h;intro h;first|unfold hGrS at h|unfold hCpS at h|unfold hStS at h)
 all_goals (split at h;rotate_left; · cases h)
 all_goals (simp only[Option.some.injEq,Prod.mk.injEq] at h;obtain⟨hc,rfl⟩:=h)
 ·exact hGrS_ok _ _ hc
 ·exact Wu _ _ hc
 ·exact Ww _ _ hc
def lX (x:V):List UInt8:=aH (ah x 0)
def oW (c:List UInt8) (l:List V):List UInt8:=(l.map fun y=>c++lX y).flatten
def kK (xs:List V) (c:List UInt8):List UInt8:=match xs with|[]=>[]|x::l=>lX x++oW c l
def jnB (xs:List V) (c:List UInt8):Bool:=decide ((kK xs c).length≤9000000∧xs.length≤1000∧c.length≤1000)
def OQ (l:List V):Nat:=(l.map fun y=>(lX y).length).sum
theorem Ql (c:List UInt8): ∀l:List V,(oW c l).length=c.length*l.length+OQ l
 |[]=>rfl
 |x::l=>by
  have:=Ql c l;unfold oW OQ at this⊢;simp only[List.map_cons,List.flatten_cons,List.length_append,List.sum_cons,List.length_cons,Nat.mul_add,Nat.mul_one,this];omega
theorem Ht (l:List V) (i:Nat) (h:i<l.length):aX l (i:Int)=l[i]∧l.drop i=l[i]::l.drop (i+1):=by
 refine⟨?_,List.drop_eq_getElem_cons h⟩;rw[ja,List.getD_eq_getElem?_getD,List.getElem?_eq_getElem h];rfl
theorem sj1 (F:Nat) (x0:List V) (c:List UInt8) (x5 lu:Int) (x39:List V) (x40 Ol:Int) (rest:List V) (hr:rest.length≤1000): ∀(j i n:Nat) (f:List UInt8),i+j=rest.length→j<n→f.length+(oW c (rest.drop i)).length≤9000000→
  pO F [] n x0 c x5 lu x39 x40 Ol rest (av rest) (i:Int) (aI f) some=some (.str (f++oW c (rest.drop i))):=by
 intro j;induction j with
 |zero=>
  intro i n f hi hn hl;obtain⟨n,rfl⟩: ∃m,n=m+1:=⟨n-1,by omega⟩
  (rw[yI];(conv=>zeta);rw[bD (by rw[aA];omega),Tw,List.drop_of_length_le (by omega)])
  show some (V.str f)=some (V.str (f++[]));rw[List.append_nil]
 |succ j ih=>
  intro i n f hi hn hl;obtain⟨n,rfl⟩: ∃m,n=m+1:=⟨n-1,by omega⟩
  obtain⟨g1,g2⟩:=Ht rest i (by omega);have e1:oW c (rest.drop i)=c++lX rest[i]++oW c (rest.drop (i+1)):=by rw[g2];unfold oW;rw[List.map_cons,List.flatten_cons]
  rw[e1] at hl⊢;simp only[List.length_append] at hl;have k1:aU (i:Int) (av rest)=true:=bE (by rw[aA];omega);have k2:ai (ak 0 (i:Int)) true=true:=by rw[bB (by omega)];rfl
  have k3:aH (ah rest[i] 0)=lX rest[i]:=rfl;have k4:cO (aI f) (aI c)=true:=by rw[iM];unfold aI;simp;omega
  have k5: ∀a b:List UInt8,aM (aI a) (aI b)=aI (a++b):=fun a b=>by unfold aM aI;simp
  have k6:cO (aI (f++c)) (aI (lX rest[i]))=true:=by rw[iM];unfold aI;simp;omega
  have k7:eu .i64 (i:Int) 1=((i+1:Nat):Int):=by rw[fU (by omega)];omega
  (rw[yI];(conv=>zeta);rw[k1,k2,g1,k3,k4,k5,k6,k5,k7])
  show pO F [] n x0 c x5 lu x39 x40 Ol rest (av rest) ((i+1:Nat):Int) (aI (f++c++lX rest[i])) some=_;rw[ih (i+1) n (f++c++lX rest[i]) (by omega) (by omega) (by simp only[List.length_append];omega)];simp
theorem sj0 (F:Nat) (x:V) (l:List V) (c:List UInt8) (hF:l.length<F) (lu:Int) (hl:(kK (x::l) c).length≤9000000) (hn:l.length≤999): ∀(j i n:Nat) (m:Nat),i+j=l.length+1→j<n→m+OQ ((x::l).drop i)=(kK (x::l) c).length→
  pN F [] n (x::l) c (m:Int) lu (x::l) (av (x::l)) (i:Int) some=some (.str (kK (x::l) c)):=by
 intro j;induction j with
 |zero=>
  intro i n m hi hn2 hm;obtain⟨n,rfl⟩: ∃k,n=k+1:=⟨n-1,by omega⟩
  have k0:dX (x::l) 1 (av (x::l))=l:=by
   unfold dX;rw[aA];have:((((x::l).length:Nat):Int).toNat-(1:Int).toNat)=l.length:=by simp
   rw[this];exact List.take_of_length_le (Nat.le_refl _)
  have hj:(kK (x::l) c).length=(lX x).length+(oW c l).length:=by unfold kK;simp
  have k1:aH (ah (aX (x::l) 0) 0)=lX x:=rfl;have k2:ai (ak 0 0) (aU 0 (av (x::l)))=true:=by rw[aJ,ay,bf,aA,List.length_cons];omega
  have k3:ai (ak 0 1) (ak 1 (av (x::l)))=true:=by rw[aJ,ay,ay,aA];simp;omega
  have k4:cO [] (aI (lX x))=true:=by rw[iM];unfold aI;simp;omega
  have k5:q9 (aI (lX x))=true:=by unfold q9 aI;rw[AX];simp;omega
  have k6:aM [] (aI (lX x))=aI (lX x):=rfl;have hm2:m≤9000000:=by omega
  have k7:aU (m:Int) 0=false:=bD (by omega);have k8:ai true (ai (ak 0 (m:Int)) (ak (m:Int) 281474976710656))=true:=by rw[bB (by omega),bB (by omega)];rfl
  have e1:=sj1 F (x::l) c (m:Int) lu (x::l) (av (x::l)) (i:Int) l (by omega) l.length 0 F (lX x) (by omega) hF (by simp only[List.drop_zero];omega);have e1:pO F [] F (x::l) c (m:Int) lu (x::l) (av (x::l)) (i:Int) l (av l) 0 (aI (lX x)) some=some (.str (kK (x::l) c)):=e1
  (rw[yH];(conv=>zeta);rw[bD (by rw[aA,List.length_cons];omega),k7,k0,k1,k2,k3,k4,k5,k6,k8,e1])
  cases aU (jN .i64 0 0) (m:Int)<;>rfl
 |succ j ih=>
  intro i n m hi hn2 hm;obtain⟨n,rfl⟩: ∃k,n=k+1:=⟨n-1,by omega⟩
  have hil:i<(x::l).length:=by simp;omega
  obtain⟨g1,g2⟩:=Ht (x::l) i hil;have e1:OQ ((x::l).drop i)=(lX (x::l)[i]).length+OQ ((x::l).drop (i+1)):=by rw[g2];unfold OQ;simp
  generalize (x::l)[i]=y at g1 g2 e1;rw[e1] at hm;have k1:aU (i:Int) (av (x::l))=true:=bE (by rw[aA];omega);have k2:ai (ak 0 (i:Int)) true=true:=by rw[bB (by omega)];rfl
  have k3:aH (ah y 0)=lX y:=rfl;have k4:aU (jN .i64 9223372036854775807 (m:Int)) (au (lX y))=false:=bD (by rw[vg (by omega),aC];omega);have k5:eu .i64 (m:Int) (au (lX y))=((m+(lX y).length:Nat):Int):=by rw[aC,fU (by omega)];omega
  have k7:eu .i64 (i:Int) 1=((i+1:Nat):Int):=by rw[fU (by omega)];omega
  (rw[yH];(conv=>zeta);rw[k1,k2,g1,k3,k4,k5,k7])
  exact ih (i+1) n (m+(lX y).length) (by omega) (by omega) (by omega)
theorem sJoin_ev (xs:List V) (c:List UInt8) (hc:jnB xs c=true):af hE 83 [.sl 9 [.str] none xs,.str c] (.str (kK xs c)):=by
 have hc:(kK xs c).length≤9000000∧xs.length≤1000∧c.length≤1000:=of_decide_eq_true hc;refine aj Ke hS6_ok 2000 4 ?_
 (rw[Zp];(conv=>zeta))
 match xs,hc with
 |[],_=>rfl
 |[x],_=>
  show some (V.str (lX x))=some (V.str (lX x++[]));rw[List.append_nil]
 |x::y::l,hc=>
  obtain⟨h1,h2,h3⟩:=hc;have h2:l.length+2≤1000:=by simpa using h2
  have k1:ieq (av (x::y::l)) 0=false:=bQ (by rw[aA];simp;omega);have k2:ieq (av (x::y::l)) 1=false:=bQ (by rw[aA];simp;omega);have k3:jN .i64 (av (x::y::l)) 1=((l.length+1:Nat):Int):=by rw[aA,List.length_cons,List.length_cons,vg (by omega)];omega
  have k4:aK (ieq ((l.length+1:Nat):Int) 0)=true:=by rw[bQ (by omega)];rfl
  have hmul:c.length*(l.length+1)≤1000*1000:=Nat.mul_le_mul h3 (by omega);have k5:FD .i64 (au c) ((l.length+1:Nat):Int)=((c.length*(l.length+1):Nat):Int):=by
   rw[aC];have e:(c.length:Int)*((l.length+1:Nat):Int)=((c.length*(l.length+1):Nat):Int):=by rw[Int.natCast_mul]
   rw[Tf (by rw[e];omega),e]
  have k6:eu .i64 0 ((c.length*(l.length+1):Nat):Int)=((c.length*(l.length+1):Nat):Int):=by rw[fU (by omega)];omega
  have k7:ak (oO .i64 9223372036854775807 ((l.length+1:Nat):Int)) (au c)=false:=by
   refine xQ ?_;have q1:(2000:Int)≤9223372036854775807/((l.length+1:Nat):Int):=by
    rw[Int.le_ediv_iff_mul_le (by omega)];omega
   have q2:(9223372036854775807:Int)/((l.length+1:Nat):Int)≤9223372036854775807:=Int.ediv_le_self _ (by omega);have q3:oO .i64 9223372036854775807 ((l.length+1:Nat):Int)=9223372036854775807/((l.length+1:Nat):Int):=by
    unfold oO;rw[Int.tdiv_eq_ediv_of_nonneg (by omega)];exact IntWalk.i64_in _ ⟨by omega,q2⟩
   rw[q3,aC];omega
  have hj:(kK (x::y::l) c).length=c.length*(l.length+1)+OQ (x::y::l):=by
   unfold kK;rw[List.length_append,Ql];unfold OQ;simp only[List.map_cons,List.sum_cons,List.length_cons];omega
  have e0:=sj0 2000 x (y::l) c (by rw[List.length_cons];omega) (av (x::y::l)) h1 (by rw[List.length_cons];omega) (l.length+2) 0 2000 (c.length*(l.length+1)) (by rw[List.length_cons];omega) (by omega) (by rw[hj];rfl);have e0:pN 2000 [] 2000 (x::y::l) c ((c.length*(l.length+1):Nat):Int) (av (x::y::l)) (x::y::l) (av (x::y::l)) 0 some=some (.str (kK (x::y::l) c)):=e0;rw[k1,k2,k3,k4,k5,k6,k7,e0]
  cases hq:aU 0 (au c) with
  |true=>rfl
  |false=>
   have hc0:c=[]:=by
    cases c with
    |nil=>rfl
    |cons a b=>rw[bE (by rw[aC,List.length_cons];omega)] at hq;cases hq
   subst hc0;have e0:pN 2000 [] 2000 (x::y::l) [] 0 (av (x::y::l)) (x::y::l) (av (x::y::l)) 0 some=some (.str (kK (x::y::l) [])):=by
    have:=e0;rw[show(([]:List UInt8).length*(l.length+1):Nat)=0 by simp] at this;exact this
   exact e0
noncomputable def hNxS:aG:=fun a=>match a with|[.bxa 0 [.str s]]=>some (ak (au s) 4000000,.qb (LK s) (.out true (.iface 159 (.agg [.int .i64 8])) [[.str (w9 s)]]) (.out false (.tup [.str (LM s),.bool (Cc s)]) [[.str (w9 s)]]))|_=>none
noncomputable def hS4:List (Nat×aG):=(GX+105,hNxS)::hS3
noncomputable def hJoS:aG:=fun a=>match a with|[.sl e sh o xs,.str c]=>some (ai (e==9&&Kd.qV [.str] sh) (jnB xs c),.str (kK xs c))|_=>none
noncomputable def hS5:List (Nat×aG):=(83,hJoS)::(82,Tv)::hS3
noncomputable def Tx (F:Nat) (ns:List Nat) (n:Nat) (x0 x5:List UInt8) (x6:Bool) (uG:List UInt8) (fu:Int) (K:V→Option V):Option V:=
 Vy hE hS4 F 3 87 104 [V.box 1000005000 0,V.box 1000005001 0] [] [1,1,1,0,1,0] ns K n (mY 29 [(0,V.str x0),(2,V.box 1000005000 0),(3,V.box 1000005001 0),(4,V.box 4 0),(5,V.str x5),(6,V.bool x6)] [(4,[V.str uG]),(1000005001,[V.int .i64 fu]),(1000005000,[V.nilsl])])
noncomputable def zw (F:Nat) (ns:List Nat) (n:Nat) (x0 x5:List UInt8) (x6:Bool) (uG:List UInt8) (fu:Int) (iA:List V) (K:V→Option V):Option V:=
 Vy hE hS4 F 3 87 104 [V.box 1000005000 0,V.box 1000005001 0] [] [1,1,1,0,1,0] ns K n (mY 29 [(0,V.str x0),(2,V.box 1000005000 0),(3,V.box 1000005001 0),(4,V.box 4 0),(5,V.str x5),(6,V.bool x6)] [(4,[V.str uG]),(1000005001,[V.int .i64 fu]),(1000005000,[V.sl 9 [Kd.str] (some 50010000) iA])])
theorem fOf_top (F:Nat) (s:List UInt8) (K:V→Option V):
 bW hE (bT hE hS4 F 3) F 87 [V.str s] K=
 sel (ak (au s) 4000000) (sel (LK s) (K (V.tup [V.nilsl,V.int .i64 8])) (Tx F [] F s (LM s) (Cc s) (w9 s) 0 K)) none:=by kernel_rfl
theorem Rw (F n:Nat) (x0 x5:List UInt8) (x6:Bool) (uG:List UInt8) (fu:Int) (K:V→Option V):
 Tx F [] (n+1) x0 x5 x6 uG fu K=
 sel x6 (sel (ak (au uG) 4000000) (sel (LK uG) (K (V.tup [V.nilsl,V.int .i64 8])) (zw F [] n x0 (LM uG) (Cc uG) (w9 uG) fu [V.str x5] K)) none) (K (V.tup [V.nilsl,V.int .i64 0])):=by kernel_rfl
theorem Rx (F n:Nat) (x0 x5:List UInt8) (x6:Bool) (uG:List UInt8) (fu:Int) (iA:List V) (K:V→Option V):
 zw F [] (n+1) x0 x5 x6 uG fu iA K=
 sel x6 (sel (cO iA [V.str x5]) (sel (ak (au uG) 4000000) (sel (LK uG) (K (V.tup [V.nilsl,V.int .i64 8])) (zw F [] n x0 (LM uG) (Cc uG) (w9 uG) fu (aM iA [V.str x5]) K)) none) none) (sel (aU 16 (av iA)) (K (V.tup [V.nilsl,V.int .i64 6])) (K (V.tup [V.sl 9 [Kd.str] none iA,V.int .i64 0]))):=by kernel_rfl
noncomputable def vI (F:Nat) (ns:List Nat) (n:Nat) (x0:List V) (x2:List UInt8) (x3:Int) (x4 x15:List V) (x16 x17:Int) (K:V→Option V):Option V:=
 iG hE hS5 F 3 62 [1,1,1,0,1,0] ns K n (mY 38 [(0,V.old (V.sl 9 [Kd.str] none x0)),(2,V.str x2),(3,V.int .i64 x3),(4,V.sl 9 [Kd.str] (some 4) x4),(15,V.old (V.sl 9 [Kd.str] none x15)),(16,V.int .i64 x16),(17,V.int .i64 x17)] [])
theorem Zq (F:Nat) (xs:List V) (K:V→Option V):
 bW hE (bT hE hS5 F 3) F 62 [V.old (V.sl 9 [Kd.str] none xs)] K=
 sel (aU 16 (av xs)) (K (V.tup [V.str [],V.int .i64 6])) (sel (ai (ak 0 (av xs)) (ai (ak (av xs) (av xs)) (ak (av xs) 16777216))) (vI F [] F xs [] 0 (Ce (av xs) (V.str [])) xs (av xs) 0 K) none):=by kernel_rfl
theorem yJ (F n:Nat) (x0:List V) (x2:List UInt8) (x3:Int) (x4 x15:List V) (x16 x17:Int) (K:V→Option V):
 vI F [] (n+1) x0 x2 x3 x4 x15 x16 x17 K=
 let A:=aH (ah (aX x15 x17) 0);let B:=dG [32,9] 0 1;sel (aU x17 x16) (sel (ai (ak 0 x17) (aU x17 (av x15))) (sel (ak (au A) 4000000) (sel (aK (ieq (ftW A) 0)) (K (V.tup [V.str [],V.int .i64 (ftW A)])) (sel (ai (ak 0 x17) (aU x17 (av x4))) (vI F [] n x0 x2 x3 (om x4 x17 (V.str (ftT A))) x15 x16 (eu .i64 x17 1) K) none)) none) none) (sel (ai (ak 0 1) (ak 1 (au [32,9]))) (sel (ai true (jnB x4 B)) (K (V.tup [V.str (kK x4 B),V.int .i64 0])) none) none):=by kernel_rfl
theorem hS4_ok:bn hE hS4:=by
 unfold hS4;refine bn.qB (fun args r h=>?_) Mw;all_goals (revert h;intro h;first|unfold hNxS at h)
 all_goals (split at h;rotate_left; · cases h)
 all_goals (simp only[Option.some.injEq,Prod.mk.injEq] at h;obtain⟨hc,rfl⟩:=h)
 ·exact hNxS_ok _ hc
def nilV (l:List V):V:=match l with|[]=> .nilsl|l=> .sl 9 [.str] none l
def XA (p:List (List UInt8)×Int):V:=.tup [nilV (bF p.1),.int .i64 p.2]
theorem fof_fin (out:List (List UInt8)) (h:out≠[]):sel (aU 16 (av (bF out))) (some (V.tup [V.nilsl,V.int .i64 6])) (some (V.tup [V.sl 9 [Kd.str] none (bF out),V.int .i64 0]))=some (XA (Ao out)):=by
 have e:av (bF out)=(out.length:Int):=by unfold bF;rw[aA,List.length_map]
 unfold Ao;rw[e];by_cases h16:16<out.length
 ·rw[bE (by omega),if_pos h16];rfl
 ·rw[bD (by omega),if_neg h16]
  cases out with
  |nil=>exact absurd rfl h
  |cons a l=>rfl
theorem Wy (F:Nat) (s0:List UInt8) (w:Int): ∀(n:Nat) (s f:List UInt8) (m:Bool) (out:List (List UInt8)),s.length≤4000000→out≠[]→(m=true→s.length+1<n)→0<n→(m=true→out.length+s.length≤9000000)→
  zw F [] n s0 f m s w (bF out) some=some (XA (sel m (nY s (out++[f]) [] false false) (Ao out)))
 |0,s,f,m,out,_,_,_,h,_=>by omega
 |n+1,s,f,m,out,hl,ho,hn,_,hb=>by
  rw[Rx]
  cases m with
  |false=>exact fof_fin out ho
  |true=>
   have hn:=hn rfl;have hb:=hb rfl;have k1:cO (bF out) [V.str f]=true:=by rw[iM];unfold bF;simp;omega
   have k2:ak (au s) 4000000=true:=bB (by rw[aC];omega);obtain⟨l1,l2,l3⟩:=Tt s;rw[k1,k2,Zm];show sel (LK s) (some (V.tup [V.nilsl,V.int .i64 8])) (zw F [] n s0 (LM s) (Cc s) (w9 s) w (bF (out++[f])) some)=some (XA (nY s (out++[f]) [] false false));rw[of_next]
   cases hB:LK s with
   |true=>
    have hM:Cc s=true:=by unfold LK at hB;rw[Bool.and_eq_true] at hB;exact hB.1
    rw[hM];rfl
   |false=>
    have ih:=Wy F s0 w n (w9 s) (LM s) (Cc s) (out++[f]) (by omega) (by simp) (fun hM=>by have:=l3 hM hB;omega) (by omega) (fun hM=>by have:=l3 hM hB;simp only[List.length_append,List.length_cons,List.length_nil];omega);show zw F [] n s0 (LM s) (Cc s) (w9 s) w (bF (out++[f])) some=_;rw[ih];rfl
theorem fOf_ev (s:List UInt8) (hl:s.length≤4000000):af hE 87 [.str s] (XA (EE s)):=by
 refine aj Ke hS4_ok (s.length+5) 3 ?_;rw[fOf_top];have k2:ak (au s) 4000000=true:=bB (by rw[aC];omega);obtain⟨l1,l2,l3⟩:=Tt s;obtain⟨m1,m2,m3⟩:=Tt (w9 s);have k3:ak (au (w9 s)) 4000000=true:=bB (by rw[aC];omega);rw[k2];unfold EE;rw[of_next];show sel (LK s) (some (V.tup [V.nilsl,V.int .i64 8])) (Tx (s.length+5) [] (s.length+4+1) s (LM s) (Cc s) (w9 s) 0 some)=_
 cases hB:LK s with
 |true=>
  have hM:Cc s=true:=by unfold LK at hB;rw[Bool.and_eq_true] at hB;exact hB.1
  rw[hM];rfl
 |false=>
  rw[Rw,k3]
  cases hM:Cc s with
  |false=>rfl
  |true=>
   have l3:=l3 hM hB;show sel (LK (w9 s)) (some (V.tup [V.nilsl,V.int .i64 8])) (zw (s.length+5) [] (s.length+4) s (LM (w9 s)) (Cc (w9 s)) (w9 (w9 s)) 0 (bF [LM s]) some)=some (XA (nY (w9 s) [LM s] [] false false));rw[of_next]
   cases hB2:LK (w9 s) with
   |true=>
    have hM2:Cc (w9 s)=true:=by unfold LK at hB2;rw[Bool.and_eq_true] at hB2;exact hB2.1
    rw[hM2];rfl
   |false=>
    rw[Wy (s.length+5) s 0 (s.length+4) (w9 (w9 s)) (LM (w9 s)) (Cc (w9 s)) [LM s] (by omega) (by simp) (fun h=>by have:=m3 h hB2;omega) (by omega) (fun _=>by
     show 1+_≤_;omega)]
    rfl
def tZ (xs:List V):List (List UInt8):=xs.map lX
theorem str_strs (l:List (List UInt8)):tZ (bF l)=l:=by
 unfold tZ bF;rw[List.map_map];exact(List.map_congr_left fun _ _=>rfl).trans (List.map_id l)
def EF (x:List UInt8):List UInt8:=(oh x).1
theorem Ls: ∀(l:List (List UInt8)),(bL l).2=0→(bL l).1=oW [32] (bF (l.map EF))
 |[],_=>rfl
 |x::l,h=>by
  unfold bL at h⊢;by_cases h1:(oh x).2=0
  ·rw[if_pos h1] at h⊢
   by_cases h2:(bL l).2=0
   ·rw[if_pos h2]
    have:=Ls l h2;show[32]++(oh x).1++(bL l).1=([32]++EF x)++oW [32] (bF (l.map EF));rw[this];rfl
   ·rw[if_neg h2] at h;exact absurd h h2
  ·rw[if_neg h1] at h;exact absurd h h1
theorem Zr (l:List (List UInt8)) (h:(bL l).2=0):(bL l).1.drop 1=kK (bF (l.map EF)) [32]:=by
 rw[Ls l h]
 cases l with
 |nil=>rfl
 |cons x l=>rfl
theorem UD (x:List UInt8) (l:List (List UInt8)):(bL (x::l)).2=if(oh x).2=0 then(bL l).2 else(oh x).2:=by
 show(if(oh x).2=0 then(if(bL l).2=0 then(([32]++(oh x).1++(bL l).1,0):List UInt8×Int) else([],(bL l).2)) else([],(oh x).2)).2=_;by_cases h1:(oh x).2=0
 ·rw[if_pos h1,if_pos h1]
  by_cases h2:(bL l).2=0
  ·rw[if_pos h2,h2]
  ·rw[if_neg h2]
 ·rw[if_neg h1,if_neg h1]
theorem Wz (x:List UInt8):(EF x).length≤x.length+2:=by
 unfold EF oh
 (repeat' split)<;>simp
theorem ft_eq (x:List UInt8):ftT x=EF x∧ftW x=(oh x).2:=⟨rfl,rfl⟩
def jnV (e:Int) (t:List UInt8):V:=sel (ieq e 0) (.tup [.str t,.int .i64 0]) (.tup [.str [],.int .i64 e])
def oP (l:List (List UInt8)):Nat:=(l.map List.length).sum
theorem Zs (l:List (List UInt8)):(kK (bF (l.map EF)) [32]).length≤oP l+3*l.length:=by
 have key: ∀l:List (List UInt8),(oW [32] (bF (l.map EF))).length≤oP l+3*l.length:=by
  intro l;induction l with
  |nil=>exact Nat.le_refl _
  |cons x l ih=>
   have e:oW [32] (bF ((x::l).map EF))=[32]++EF x++oW [32] (bF (l.map EF)):=rfl;have e2:oP (x::l)=x.length+oP l:=rfl;have:=Wz x;rw[e,e2];simp only[List.length_append,List.length_cons,List.length_nil];omega
 cases l with
 |nil=>exact Nat.le_refl _
 |cons x l=>
  have e:kK (bF ((x::l).map EF)) [32]=EF x++oW [32] (bF (l.map EF)):=rfl;have e2:oP (x::l)=x.length+oP l:=rfl;have:=Wz x;have:=key l;rw[e,e2];simp only[List.length_append,List.length_cons];omega
theorem Qm {x:List UInt8}: ∀{l:List (List UInt8)},x∈l→x.length≤oP l
 |y::l,h=>by
  have e2:oP (y::l)=y.length+oP l:=rfl;rcases List.mem_cons.1 h with rfl|h
  ·omega
  ·have:=Qm h;omega
theorem jn_spec (hS:bn hE hS5) (F:Nat) (xs:List V) (h16:xs.length≤16) (ht:oP (tZ xs)≤3000000): ∀(j i n:Nat) (done:List (List UInt8)),i+j=xs.length→j<n→done=((tZ xs).take i).map EF→
  vI F [] n xs [] 0 (bF done++List.replicate j (V.str [])) xs (av xs) (i:Int) some=some (jnV (bL ((tZ xs).drop i)).2 (kK (bF ((tZ xs).map EF)) [32])):=by
 intro j;induction j with
 |zero=>
  intro i n done hi hn hd;obtain⟨n,rfl⟩: ∃k,n=k+1:=⟨n-1,by omega⟩
  have hsl:(tZ xs).length=xs.length:=by unfold tZ;simp
  have e1:(tZ xs).drop i=[]:=List.drop_of_length_le (by omega);have e2:done=(tZ xs).map EF:=by rw[hd,List.take_of_length_le (by omega)]
  have e3:bF done++List.replicate 0 (V.str [])=bF ((tZ xs).map EF):=by rw[e2];simp
  have e4:dG [32,9] 0 1=[32]:=rfl;have hl:=Zs (tZ xs);have e5:ai true (jnB (bF ((tZ xs).map EF)) [32])=true:=by
   show jnB _ _=true;unfold jnB;rw[decide_eq_true_iff];refine⟨by omega,?_,by decide⟩;unfold bF tZ;simp;omega
  (rw[yJ];(conv=>zeta);rw[bD (by rw[aA];omega),e1,e3,e4,e5])
  rfl
 |succ j ih=>
  intro i n done hi hn hd;obtain⟨n,rfl⟩: ∃k,n=k+1:=⟨n-1,by omega⟩
  have hsl:(tZ xs).length=xs.length:=by unfold tZ;simp
  have hil:i<xs.length:=by omega
  obtain⟨g1,_⟩:=Ht xs i hil;have hx:aH (ah (aX xs (i:Int)) 0)=(tZ xs)[i]'(by omega):=by
   rw[g1];unfold tZ;rw[List.getElem_map];rfl
  have g2:(tZ xs).drop i=(tZ xs)[i]'(by omega)::(tZ xs).drop (i+1):=List.drop_eq_getElem_cons (by omega);have hmem:(tZ xs)[i]'(by omega)∈tZ xs:=List.getElem_mem _;generalize (tZ xs)[i]'(by omega)=x at hx g2 hmem;have hxl:=Qm hmem;have k1:aU (i:Int) (av xs)=true:=bE (by rw[aA];omega);have k2:ai (ak 0 (i:Int)) true=true:=by rw[bB (by omega)];rfl
  have k3:ak (au x) 4000000=true:=bB (by rw[aC];omega);have hdl:done.length=i:=by rw[hd,List.length_map,List.length_take];omega
  have k4:ai (ak 0 (i:Int)) (aU (i:Int) (av (bF done++List.replicate (j+1) (V.str []))))=true:=by
   rw[aJ,ay,bf,aA];unfold bF;simp only[List.length_append,List.length_map,List.length_replicate];omega
  have k5:eu .i64 (i:Int) 1=((i+1:Nat):Int):=by rw[fU (by omega)];omega
  have k6:om (bF done++List.replicate (j+1) (V.str [])) (i:Int) (V.str (EF x))=bF (done++[EF x])++List.replicate j (V.str []):=by
   unfold om;rw[Int.toNat_natCast];have:(bF done).length=i:=by unfold bF;rw[List.length_map];exact hdl
   rw[List.set_append_right _ _ (by omega),this,Nat.sub_self,List.replicate_succ,List.set_cons_zero];unfold bF;simp
  (rw[yJ];(conv=>zeta);rw[k1,k2,hx,k3,k4,k5,(ft_eq x).1,(ft_eq x).2,k6,g2])
  have ih:=ih (i+1) n (done++[EF x]) (by omega) (by omega) (by
   rw[hd];have:(tZ xs).take (i+1)=(tZ xs).take i++[x]:=by
    rw[List.take_add_one];congr 1
    have h2:(tZ xs)[i]? =some x:=by
     have:=congrArg (fun l=>l[0]?) g2;simpa using this
    rw[h2];rfl
   rw[this,List.map_append];rfl)
  show sel (aK (ieq (oh x).2 0)) (some (V.tup [V.str [],V.int .i64 (oh x).2])) (vI F [] n xs [] 0 (bF (done++[EF x])++List.replicate j (V.str [])) xs (av xs) ((i+1:Nat):Int) some)=_;rw[ih,UD];rcases tx_err x with h|h
  ·rw[h];rfl
  ·rw[h];rfl
def RO (xs:List V):Bool:=decide (oP (tZ xs)≤3000000)
def xg (xs:List V):List UInt8:=(fw (tZ xs)).1
def jnW (xs:List V):Int:=(fw (tZ xs)).2
theorem jnV_eq (xs:List V) (h16:xs.length≤16):jnV (bL (tZ xs)).2 (kK (bF ((tZ xs).map EF)) [32])=.tup [.str (xg xs),.int .i64 (jnW xs)]:=by
 have hsl:(tZ xs).length=xs.length:=by unfold tZ;simp
 unfold jnV xg jnW fw;rw[if_neg (by omega)];by_cases h:(bL (tZ xs)).2=0
 ·rw[if_pos h,bq h,Zr _ h];rfl
 ·rw[if_neg h,bQ h];rfl
theorem hJoS_ok (e:Nat) (sh:List Kd) (o:Option Nat) (xs:List V) (c:List UInt8) (hc:ai (e==9&&Kd.qV [.str] sh) (jnB xs c)=true):af hE 83 [.sl e sh o xs,.str c] (.str (kK xs c)):=by
 obtain⟨h1,h2⟩:=aR hc;rw[Bool.and_eq_true] at h1;have he:e=9:=by simpa using h1.1
 have hs:[Kd.str]=sh:=Kd.bK _ _ h1.2;subst he hs;exact BU (args:=[.sl _ _ o xs,.str c]) (sJoin_ev xs c h2)
theorem hS5_ok:bn hE hS5:=by
 unfold hS5;refine bn.cons (fun args r h=>?_) (bn.cons (fun args r h=>?_) Mw);all_goals (revert h;intro h;first|unfold hJoS at h|unfold Tv at h)
 all_goals (split at h;rotate_left; · cases h)
 all_goals (simp only[Option.some.injEq,Prod.mk.injEq] at h;obtain⟨hc,rfl⟩:=h)
 ·exact hJoS_ok _ _ _ _ _ hc
 ·exact Zl _ hc
theorem hJnS_ok (xs:List V) (hc:RO xs=true):af hE 62 [.sl 9 [.str] none xs] (.tup [.str (xg xs),.int .i64 (jnW xs)]):=by
 unfold RO at hc;rw[decide_eq_true_iff] at hc;have hsl:(tZ xs).length=xs.length:=by unfold tZ;simp
 refine EV Ke hS5_ok (args:=[.old (.sl 9 [.str] none xs)]) 18 3 ?_;rw[Zq];by_cases h16:16<xs.length
 ·rw[bE (by rw[aA];omega)]
  unfold xg jnW fw;rw[if_pos (by omega)];rfl
 ·have k:ai (ak 0 (av xs)) (ai (ak (av xs) (av xs)) (ak (av xs) 16777216))=true:=by rw[aJ,aJ,ay,ay,ay,aA];omega
  rw[bD (by rw[aA];omega),k];have e:Ce (av xs) (V.str [])=bF []++List.replicate xs.length (V.str []):=by unfold Ce;rw[aA,Int.toNat_natCast];rfl
  rw[e];have:=jn_spec hS5_ok 18 xs (by omega) hc xs.length 0 18 [] (by omega) (by omega) (by simp);rw[show(((0:Nat):Int))=0 from rfl,List.drop_zero] at this;rw[←jnV_eq xs (by omega),←this];rfl
def cK (s:List UInt8):List V:=bF (EE s).1
def LP (s:List UInt8):Int:=(EE s).2
noncomputable def hOfS:aG:=fun a=>match a with|[.str s]=>some (ak (au s) 4000000,.tup [.sl 9 [.str] none (cK s),.int .i64 (LP s)])|_=>none
noncomputable def hJnS:aG:=fun a=>match a with|[.sl 9 [.str] none xs]=>some (RO xs,.tup [.str (xg xs),.int .i64 (jnW xs)])|_=>none
noncomputable def RX:List (Nat×aG):=(87,hOfS)::(62,hJnS)::(82,Tv)::hS0
noncomputable def hL:List (Nat×aG):=RX
theorem hOfS_ok (s:List UInt8) (hc:ak (au s) 4000000=true):af hE 87 [.str s] (.tup [.sl 9 [.str] none (cK s),.int .i64 (LP s)]):=by
 have h:=fOf_ev s (Vu hc);unfold XA at h;unfold cK LP
 cases e:bF (EE s).1 with
 |nil=>rw[e] at h;exact N6 h
 |cons x l=>rw[e] at h;exact h
end Nt.Ev.YtplklcejbmfgdaaGreatDoor
