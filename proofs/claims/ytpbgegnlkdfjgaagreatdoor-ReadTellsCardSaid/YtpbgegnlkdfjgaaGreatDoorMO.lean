/-
  Fields of a line: the plain law. Fields of a line, one at a time: the plain law. Fields: equations of functions, as the evaluator prints them. Fields: a field's text on both sides, the document's fields. Fields2: equations of functions, as the evaluator prints them. Fields: functions of the library that the cutter calls. Fields3: equations of functions, as the evaluator prints them. Fields: the cutter's next field. Join: equations of functions, as the evaluator prints them. strings.Join. Fields4: equations of functions, as the evaluator prints them. Fields: lines that are cut, fields that are joined, on both sides; whether rows of strings are the same. FieldsLaw: equations of functions, as the evaluator prints them. Fields: the three statements.
-/
import Derived.Test.YtpbgegnlkdfjgaaGreatDoorMBB
import Derived.Test.YtpbgegnlkdfjgaaGreatDoorMC
import Derived.Test.YtpbgegnlkdfjgaaGreatDoorMD
import Derived.Test.YtpbgegnlkdfjgaaGreatDoorMS
import Derived.Shelf.Strings.SlTrimAscii
import Derived.Test.YtpbgegnlkdfjgaaGreatDoorMP
set_option linter.unusedVariables false
set_option linter.unusedSimpArgs false
set_option linter.unusedSectionVars false
namespace Nt.Fld
open Go Nt.Ev
def A9 (out:List (List UInt8)):List (List UInt8)×Int:=if 16<out.length then([],6) else(out,0)
def vI (op:Bool) (out:List (List UInt8)) (f:List UInt8):List (List UInt8):=sel op (out++[f]) out
def tV:List UInt8→List (List UInt8)→List UInt8→Bool→Bool→List (List UInt8)×Int
 |[],out,f,op,qu=>sel qu ([],8) (A9 (vI op out f))
 |c::t,out,f,op,qu=>sel qu
  (sel (c==34) (tV t out f op false) (tV t out (f++[c]) op true))
  (sel (c==35) (A9 (vI op out f)) (sel (c==9) (tV t (vI op out f) [] false false) (sel (c==32) (tV t (vI op out f) [] false false)
   (sel (c==34) (tV t out f true true) (tV t out (f++[c]) true false)))))
def ofP (s:List UInt8):List (List UInt8)×Int:=tV s [] [] false false
def JN (c:UInt8):Bool:=c==9||c==32||c==35
theorem Lc (rest:List UInt8) (out:List (List UInt8)) (op:Bool): ∀(x f:List UInt8),x.contains 34=false→tV (x++rest) out f op true=tV rest out (f++x) op true
 |[],f,_=>by simp
 |c::x,f,h=>by
  rw[List.contains_cons,Bool.or_eq_false_iff] at h;have hc:(c==34)=false:=by
   rw[beq_eq_false_iff_ne] at h⊢;exact fun e=>h.1 e.symm
  show sel true (sel (c==34) _ (tV (x++rest) out (f++[c]) op true)) _=_;rw[hc];show tV (x++rest) out (f++[c]) op true=_;rw[Lc rest out op x (f++[c]) h.2];simp
def upTo (t:List UInt8):List UInt8:=t.takeWhile fun c=>c != 34
def behind (t:List UInt8):List UInt8:=t.drop ((upTo t).length+1)
def zh:Nat→List UInt8→List UInt8→Bool×List UInt8×List UInt8
 |0,s,f=>(false,f,s)
 |n+1,[],f=>(false,f,[])
 |n+1,c::t,f=>sel (JN c) (false,f,c::t) (sel (c==34) (sel (t.contains 34) (zh n (behind t) (f++upTo t)) (true,f,t)) (zh n t (f++[c])))
def CB (s:List UInt8):List UInt8:=s.dropWhile fun b=>([32,9]:List UInt8).contains b
def nd (s:List UInt8):Bool×List UInt8×List UInt8:=zh ((CB s).length+1) (CB s) []
def CF (s:List UInt8):Bool:=match CB s with|[]=>false|c::_=>!(c==35)
def Lp (s:List UInt8):Bool:=CF s&&(nd s).1
def Lr (s:List UInt8):List UInt8:=sel (CF s) (nd s).2.1 []
def y7 (s:List UInt8):List UInt8:=sel (CF s) (nd s).2.2 (CB s)
theorem AR: ∀t:List UInt8,t.contains 34=true→t=upTo t++34::behind t∧(upTo t).contains 34=false
 |[],h=>by cases h
 |c::t,h=>by
  by_cases hc:c=34
  ·subst hc
   exact⟨rfl,rfl⟩
  ·have h2:t.contains 34=true:=by
    rw[List.contains_cons,Bool.or_eq_true] at h;rcases h with h|h
    ·rw[beq_iff_eq] at h;exact absurd h.symm hc
    ·exact h
   obtain⟨e1,e2⟩:=AR t h2;have hb:(c != 34)=true:=by rw[bne_iff_ne];exact hc
   have hu:upTo (c::t)=c::upTo t:=by unfold upTo;rw[List.takeWhile_cons,if_pos hb]
   have hb2:behind (c::t)=behind t:=by unfold behind;rw[hu];rfl
   refine⟨by rw[hu,hb2];simp only[List.cons_append];rw[←e1],?_⟩;rw[hu,List.contains_cons,e2,Bool.or_false,beq_eq_false_iff_ne];exact fun e=>hc e.symm
theorem qY (t:List UInt8) (h:t.contains 34=true):(behind t).length<t.length∧(upTo t).length+(behind t).length+1=t.length:=by
 have:=congrArg List.length (AR t h).1;simp at this;omega
theorem Vb: ∀(t:List UInt8) (out:List (List UInt8)) (f:List UInt8) (op:Bool),t.contains 34=false→tV t out f op true=([],8)
 |[],_,_,_,_=>rfl
 |c::t,out,f,op,h=>by
  rw[List.contains_cons,Bool.or_eq_false_iff] at h;have hc:(c==34)=false:=by
   rw[beq_eq_false_iff_ne] at h⊢;exact fun e=>h.1 e.symm
  show sel true (sel (c==34) _ (tV t out (f++[c]) op true)) _=_;rw[hc];exact Vb t out (f++[c]) op h.2
theorem Zo: ∀(n:Nat) (s f:List UInt8) (out:List (List UInt8)),s.length<n→tV s out f true false=sel (zh n s f).1 ([],8) (tV (zh n s f).2.2 (out++[(zh n s f).2.1]) [] false false)
 |0,s,f,out,h=>by omega
 |n+1,[],f,out,h=>rfl
 |n+1,c::t,f,out,h=>by
  have h:t.length<n:=by simpa using h
  unfold zh
  cases hs:JN c with
  |true=>
   show _=tV (c::t) (out++[f]) [] false false;unfold JN at hs;have hc:(c=9∨c=32)∨c=35:=by simpa using hs
   rcases hc with(rfl|rfl)|rfl<;>rfl
  |false=>
   show _=sel (sel (c==34) (sel (t.contains 34) (zh n (behind t) (f++upTo t)) (true,f,t)) (zh n t (f++[c]))).1 ([],8) _;unfold JN at hs;rw[Bool.or_eq_false_iff,Bool.or_eq_false_iff] at hs;obtain⟨⟨h9,h32⟩,Rj⟩:=hs;have e0:tV (c::t) out f true false=sel (c==34) (tV t out f true true) (tV t out (f++[c]) true false):=by
    show sel false _ (sel (c==35) _ (sel (c==9) _ (sel (c==32) _ _)))=_;rw[h9,h32,Rj];rfl
   rw[e0]
   cases hq:c==34 with
   |false=>exact Zo n t (f++[c]) out h
   |true=>
    cases hm:t.contains 34 with
    |false=>exact Vb t out f true hm
    |true=>
     obtain⟨e1,e2⟩:=AR t hm;have e3:tV t out f true true=tV (behind t) out (f++upTo t) true false:=by
      have:=Lc (34::behind t) out true (upTo t) f e2;rw[←e1] at this;rw[this];rfl
     show tV t out f true true=sel (zh n (behind t) (f++upTo t)).1 ([],8) _;rw[e3];exact Zo n (behind t) (f++upTo t) out (by have:=(qY t hm).1;omega)
theorem GK: ∀(n:Nat) (s f:List UInt8),s.length<n→(zh n s f).2.2.length≤s.length∧(zh n s f).2.1.length≤f.length+s.length
 |0,s,f,h=>by omega
 |n+1,[],f,h=>⟨Nat.le_refl _,Nat.le_refl _⟩
 |n+1,c::t,f,h=>by
  have h:t.length<n:=by simpa using h
  unfold zh
  cases hs:JN c with
  |true=>exact⟨Nat.le_refl _,by simp[sel]⟩
  |false=>
   cases hq:c==34 with
   |false=>
    have:=GK n t (f++[c]) h;show(zh n t (f++[c])).2.2.length≤_∧(zh n t (f++[c])).2.1.length≤_;simp only[List.length_append,List.length_cons,List.length_nil] at this⊢;omega
   |true=>
    cases hm:t.contains 34 with
    |false=>
     show t.length≤(c::t).length∧f.length≤f.length+(c::t).length;simp
    |true=>
     obtain⟨k1,k2⟩:=qY t hm;have:=GK n (behind t) (f++upTo t) (by omega);show(zh n (behind t) (f++upTo t)).2.2.length≤_∧(zh n (behind t) (f++upTo t)).2.1.length≤_;simp only[List.length_append,List.length_cons] at this⊢;omega
theorem MV: ∀s:List UInt8,(CB s).length≤s.length:=fun s=>(List.dropWhile_sublist _).length_le
theorem Vd: ∀(s:List UInt8) (out:List (List UInt8)),tV s out [] false false=tV (CB s) out [] false false
 |[],out=>rfl
 |c::t,out=>by
  unfold CB;rw[List.dropWhile_cons]
  cases hb:([32,9]:List UInt8).contains c with
  |false=>rw[if_neg (by decide)]
  |true=>
   rw[if_pos rfl];have hc:c=32∨c=9:=by simpa using hb
   have:tV (c::t) out [] false false=tV t out [] false false:=by rcases hc with rfl|rfl<;>rfl
   rw[this];exact Vd t out
theorem Pw {s t:List UInt8} {c:UInt8} (h:CB s=c::t):(c==32)=false∧(c==9)=false:=by
 have h2: ∀(l:List UInt8),CB l=c::t→([32,9]:List UInt8).contains c=false:=by
  intro l;induction l with
  |nil=>intro h;cases h
  |cons a l ih=>
   intro h;unfold CB at h;rw[List.dropWhile_cons] at h
   cases hb:([32,9]:List UInt8).contains a with
   |true=>rw[hb,if_pos rfl] at h;exact ih h
   |false=>
    rw[hb,if_neg (by decide)] at h;simp only[List.cons.injEq] at h;rw[←h.1];exact hb
 have:=h2 s h;simpa using this
theorem of_next (s:List UInt8) (out:List (List UInt8)):tV s out [] false false=sel (CF s) (sel (Lp s) ([],8) (tV (y7 s) (out++[Lr s]) [] false false)) (A9 out):=by
 rw[Vd];have hT:=MV s;unfold Lp y7 Lr nd CF
 cases h:CB s with
 |nil=>rfl
 |cons c t=>
  rw[h] at hT;simp only[h]
  cases Rj:c==35 with
  |true=>
   rw[beq_iff_eq] at Rj;subst Rj;rfl
  |false=>
   obtain⟨h32,h9⟩:=Pw h;have e0:tV (c::t) out [] false false=tV (c::t) out [] true false:=by
    show sel false _ (sel (c==35) _ (sel (c==9) _ (sel (c==32) _ (sel (c==34) _ _))))=sel false _ (sel (c==35) _ (sel (c==9) _ (sel (c==32) _ (sel (c==34) _ _))));rw[h9,h32,Rj];rfl
   rw[e0];exact Zo ((c::t).length+1) (c::t) [] out (by omega)
theorem Sd (s:List UInt8):(y7 s).length≤s.length∧(Lr s).length≤s.length∧(CF s=true→Lp s=false→(y7 s).length<s.length):=by
 have hT:=MV s;have h1:=GK ((CB s).length+1) (CB s) [] (by omega);refine⟨?_,?_,?_⟩
 ·unfold y7 nd
  cases CF s
  ·exact hT
  ·show(zh ((CB s).length+1) (CB s) []).2.2.length≤_;omega
 ·unfold Lr nd
  cases CF s
  ·exact Nat.zero_le _
  ·show(zh ((CB s).length+1) (CB s) []).2.1.length≤_
   have:=h1.2;simp only[List.length_nil,Nat.zero_add] at this;omega
 ·intro hm hb
  unfold y7 nd;rw[hm];show(zh ((CB s).length+1) (CB s) []).2.2.length<_;unfold CF at hm
  cases h:CB s with
  |nil=>rw[h] at hm;cases hm
  |cons c t=>
   rw[h] at hm hT;have Rj:(c==35)=false:=by simpa using hm
   obtain⟨h32,h9⟩:=Pw h;have hT:t.length<s.length:=by simp at hT;omega
   have hs:JN c=false:=by unfold JN;rw[h9,h32,Rj];rfl
   show(sel (JN c) (false,[],c::t) (sel (c==34) (sel (t.contains 34) (zh (t.length+1) (behind t) ([]++upTo t)) (true,[],t)) (zh (t.length+1) t ([]++[c])))).2.2.length<_;rw[hs]
   cases hq:c==34 with
   |false=>show(zh (t.length+1) t ([]++[c])).2.2.length<_;have:=(GK (t.length+1) t ([]++[c]) (by omega)).1;omega
   |true=>
    cases hm2:t.contains 34 with
    |false=>show t.length<_;exact hT
    |true=>
     show(zh (t.length+1) (behind t) ([]++upTo t)).2.2.length<_;have k:=(qY t hm2).1;have:=(GK (t.length+1) (behind t) ([]++upTo t) (by omega)).1;omega
end Nt.Fld
namespace Nt.Ev.YtpbgegnlkdfjgaaGreatDoor
set_option maxRecDepth 100000
open Go Nt.Num Go.Proofs.YtpbgegnlkdfjgaaGreatDoor
def ixF (s c:List UInt8):Int:=Go.Lib.indexAny s c
def lu (l:List UInt8):Bool:=l.all fun c=>decide (c.toNat<128)
noncomputable def hE:Env:=⟨Go.Proofs.Tryz.prog,fun _=>none⟩
def Bg (s:List UInt8) (c:Int):Int:=Go.Lib.indexByte s c.toNat.toUInt8
noncomputable def hAnyS:aL:=fun a=>match a with|[.str s,.str c]=>some (av (ak (ah s) 4000000) (av (av (ak 2 (ah c)) (ak (ah c) 1000)) (lu c)),.int .i64 (ixF s c))|_=>none
noncomputable def aad:aL:=fun a=>match a with|[.str s,.int .i32 r]=>some (av (ak 0 r) (aK r 128),.int .i64 (Bg s r))|_=>none
noncomputable def hS0:List (Nat×aL):=(169,hAnyS)::(100,aad)::[]
noncomputable def kV (F:Nat) (ns:List Nat) (n:Nat) (x0:List UInt8) (x2:List V) (x3:Int) (x4:List V) (x5:List UInt8) (x6 x7:Bool) (x8:Int) (K:V→Option V):Option V:=
 dN hE hS0 F 3 20 [1,1,1,0,1,0] ns K n (iY 77 [(0,V.str x0),(2,V.sl 9 [Kd.str] (some 2) x2),(3,V.int .i64 x3),(4,V.sl 9 [Kd.str] (some 4) x4),(5,V.str x5),(6,V.bool x6),(7,V.bool x7),(8,V.int .i64 x8)] [])
theorem XK (F:Nat) (s:List UInt8) (K:V→Option V):
 bD hE (bB hE hS0 F 3) F 20 [V.str s] K=
 kV F [] F s [] 0 [] [] false false 0 K:=by kernel_rfl
theorem tF (F n:Nat) (x0:List UInt8) (x2:List V) (x3:Int) (x4:List V) (x5:List UInt8) (x6 x7:Bool) (x8:Int) (K:V→Option V):
 kV F [] (n+1) x0 x2 x3 x4 x5 x6 x7 x8 K=
 let B:=bP .i64 x8 1;let I:=sat x0 x8;let L:=aX x4 [V.str x5];let N:=aK x8 (ah x0);let Q:=[Kd.str];let R:=ieq x8 (ah x0);let C:=av (ak 0 x8) N;let E:=av (av (ak 0 B) (ak B (ah x0))) (av (ak 0 x8) (ak x8 B));let G:=kV F [] n x0 x2 x3 L [] false x7 B K;let H:=V.sl 9 Q (some 0) [];let J:=kV F [] n x0 x2 x3 x4 [] false x7 B K;let M:=bU x0 x8 B;let P:=ieq I 35;let O:=K (V.tup [H,V.int .i64 6]);let D:=sel (aK 16 (ax x4)) O (K (V.tup [V.sl 9 Q (some 0) x4,V.int .i64 0]));let A:=sel x6 (sel (dR x4 [V.str x5]) (sel N (sel C (sel P (sel (aK 16 (ax L)) O (K (V.tup [V.sl 9 Q (some 0) L,V.int .i64 0]))) G) none) G) none) (sel N (sel C (sel P D J) none) J);sel (ak x8 (ah x0)) (sel x7 (sel R (K (V.tup [H,V.int .i64 8])) (sel C (sel (ieq I 34) (kV F [] n x0 x2 x3 x4 x5 x6 false B K) (sel E (sel (Ga x5 M) (kV F [] n x0 x2 x3 x4 (Rk x5 M) x6 x7 B K) none) none)) none)) (sel R A (sel C (sel P A (sel C (sel (ieq I 9) A (sel (ieq I 32) A (sel C (sel (ieq I 34) (kV F [] n x0 x2 x3 x4 x5 true true B K) (sel E (sel (Ga x5 M) (kV F [] n x0 x2 x3 x4 (Rk x5 M) true x7 B K) none) none)) none))) none)) none))) D:=by kernel_rfl
open Go.RowKit Nt Nt.Fld
theorem Uy:vT hE:=⟨by kernel_rfl,by kernel_rfl⟩
theorem Uz {s:List UInt8} (h:ak (ah s) 4000000=true):s.length≤4000000:=by rw[aA,au] at h;omega
theorem Oz (l:List UInt8):(⟨l.toArray⟩:ByteArray).size=l.length:=by simp[ByteArray.size]
theorem abU (s c:List UInt8) (hc:av (ak (ah s) 4000000) (av (av (ak 2 (ah c)) (ak (ah c) 1000)) (lu c))=true):af hE 169 [.str s,.str c] (.int .i64 (ixF s c)):=by
 obtain⟨h1,h2⟩:=aV hc;obtain⟨h2,h3⟩:=aV h2;obtain⟨h2,h4⟩:=aV h2;have h1:=Uz h1;rw[aA,au] at h2 h4;refine bJ fun G w vs hG hg hp=>?_
 obtain⟨x,y,rfl,hx,hy⟩:=jo hp;unfold aP at hx hy;subst hx;subst hy;refine(Nt.AnyS.KY Go.Proofs.Tryz.MG (by kernel_rfl) ⟨s.toArray⟩ ⟨c.toArray⟩ w (by rw[Oz];omega) (by rw[Oz];omega) (by rw[Oz];omega) (fun b hb=>?_)).mono ?_
 ·have h3:(c.all fun c=>decide (c.toNat<128))=true:=h3
  exact of_decide_eq_true (List.all_eq_true.1 h3 b hb)
 ·rintro e w' ⟨rfl,hb⟩
  exact⟨_,rfl,hb,r9 _ _⟩
theorem XL (s:List UInt8) (r:Int) (hc:av (ak 0 r) (aK r 128)=true):af hE 100 [.str s,.int .i32 r] (.int .i64 (Bg s r)):=by
 rw[aC,aA,aU] at hc;refine bJ fun G w vs hG hg hp=>?_
 obtain⟨x,y,rfl,hx,hy⟩:=jo hp;unfold aP at hx hy;subst hx;subst hy;refine(Go.Proofs.Tryz.strings_IndexRune_ascii ⟨s.toArray⟩ r w hc.1 hc.2).mono ?_;rintro e w' ⟨rfl,rfl⟩;exact⟨_,rfl,Below.refl _ _,r9 _ _⟩
theorem hS0_ok:bF hE hS0:=by
 unfold hS0;refine bF.cons (fun args r h=>?_) (bF.cons (fun args r h=>?_) bF.nil);all_goals (revert h;intro h;first|unfold hAnyS at h|unfold aad at h)
 all_goals (split at h;rotate_left; · cases h)
 all_goals (simp only[Option.some.injEq,Prod.mk.injEq] at h;obtain⟨hc,rfl⟩:=h)
 ·exact abU _ _ hc
 ·exact XL _ _ hc
theorem ib_cons (b c:UInt8) (l:List UInt8):Lib.indexByte (b::l) c=if b==c then 0 else if Lib.indexByte l c== -1 then -1 else Lib.indexByte l c+1:=rfl
theorem u8q (c:UInt8) (n:Nat) (d:UInt8) (h:d.toNat=n):ieq ((c.toNat:Nat):Int) (n:Int)=(c==d):=by
 rw[Bool.eq_iff_iff,aH,beq_iff_eq,←UInt8.toNat_inj,h];omega
def bQ (l:List (List UInt8)):List V:=l.map V.str
theorem Dz (l:List (List UInt8)) (x:List UInt8):aX (bQ l) [V.str x]=bQ (l++[x]):=by unfold aX bQ;simp
def ofV (p:List (List UInt8)×Int):V:=.tup [.sl 9 [.str] (some 0) (bQ p.1),.int .i64 p.2]
theorem aae (out:List (List UInt8)):sel (aK 16 (ax (bQ out))) (some (V.tup [V.sl 9 [Kd.str] (some 0) [],V.int .i64 6])) (some (V.tup [V.sl 9 [Kd.str] (some 0) (bQ out),V.int .i64 0]))=some (ofV (A9 out)):=by
 have e:ax (bQ out)=(out.length:Int):=by unfold bQ;rw[aI,List.length_map]
 unfold A9;rw[e];by_cases h:16<out.length
 ·rw[aj (bq (by omega)),if_pos h];rfl
 ·rw[aG (bu (by omega)),if_neg h];rfl
theorem selS {α:Type} (x y:α):sel true x y=x∧sel false x y=y:=⟨rfl,rfl⟩
theorem ro_loop (F:Nat) (s:List UInt8) (x2:List V) (x3:Int) (hl:s.length≤4000000): ∀(j i n:Nat) (out:List (List UInt8)) (f:List UInt8) (op qu:Bool),i+j=s.length→j+1<n→out.length≤i→f.length≤i→
  kV F [] n s x2 x3 (bQ out) f op qu (i:Int) some=some (ofV (tV (s.drop i) out f op qu)):=by
 intro j;induction j with
 |zero=>
  intro i n out f op qu hi hn ho hf;obtain⟨n,rfl⟩: ∃m,n=m+1:=⟨n-1,by omega⟩
  obtain⟨n,rfl⟩: ∃m,n=m+1:=⟨n-1,by omega⟩
  have k1:ak (i:Int) (ah s)=true:=bA (by rw[au];omega);have k2:ieq (i:Int) (ah s)=true:=aR (by rw[au];omega);have k3:aK (i:Int) (ah s)=false:=bu (by rw[au];omega);have k4:dR (bQ out) [V.str f]=true:=by unfold dR bQ;rw[yC];simp;omega
  have k5:bP .i64 (i:Int) 1=((i+1:Nat):Int):=by rw[dh (by omega)];omega
  have k6:ak ((i+1:Nat):Int) (ah s)=false:=zq (by rw[au];omega);have again: ∀(l:List V) (g:List UInt8) (p q:Bool),kV F [] (n+1) s x2 x3 l g p q ((i+1:Nat):Int) some=sel (aK 16 (ax l)) (some (V.tup [V.sl 9 [Kd.str] (some 0) [],V.int .i64 6])) (some (V.tup [V.sl 9 [Kd.str] (some 0) l,V.int .i64 0])):=fun l g p q=>by
   (rw[tF];(conv=>zeta);rw[aG k6])
  (rw[tF];(conv=>zeta);rw[aj k1,k2,k3,k4,k5,Dz,List.drop_of_length_le (by omega)])
  show _=some (ofV (sel qu ([],8) (A9 (vI op out f))))
  cases qu<;>cases op<;>simp only[selS,again,aae]<;>rfl
 |succ j ih=>
  intro i n out f op qu hi hn ho hf;obtain⟨n,rfl⟩: ∃m,n=m+1:=⟨n-1,by omega⟩
  have hil:i<s.length:=by omega
  have e:sat s (i:Int)=((s[i].toNat:Nat):Int):=by
   rw[mg,List.getD_eq_getElem?_getD,List.getElem?_eq_getElem hil];rfl
  have k1:ak (i:Int) (ah s)=true:=bA (by rw[au];omega);have k2:ieq (i:Int) (ah s)=false:=bf (by rw[au];omega);have k3:aK (i:Int) (ah s)=true:=bq (by rw[au];omega);have k4:dR (bQ out) [V.str f]=true:=by unfold dR bQ;rw[yC];simp;omega
  have k5:bP .i64 (i:Int) 1=((i+1:Nat):Int):=by rw[dh (by omega)];omega
  have k7:av (ak 0 (i:Int)) true=true:=by rw[bA (by omega)];rfl
  have k8:av (av (ak 0 ((i+1:Nat):Int)) (ak ((i+1:Nat):Int) (ah s))) (av (ak 0 (i:Int)) (ak (i:Int) ((i+1:Nat):Int)))=true:=by
   rw[bA (show(0:Int)≤((i+1:Nat):Int) by omega),bA (show((i+1:Nat):Int)≤ah s by rw[au];omega),bA (show(0:Int)≤(i:Int) by omega),bA (show(i:Int)≤((i+1:Nat):Int) by omega)];rfl
  have k9:bU s (i:Int) ((i+1:Nat):Int)=[s[i]]:=by
   unfold bU;rw[Int.toNat_natCast,Int.toNat_natCast,List.drop_eq_getElem_cons hil,show i+1-i=1 by omega];rfl
  have k10:Ga f [s[i]]=true:=by rw[Wt];simp;omega
  have e34:ieq ((s[i].toNat:Nat):Int) 34=(s[i]==34):=u8q _ 34 34 rfl;have e9:ieq ((s[i].toNat:Nat):Int) 9=(s[i]==9):=u8q _ 9 9 rfl;have e32:ieq ((s[i].toNat:Nat):Int) 32=(s[i]==32):=u8q _ 32 32 rfl;have e35:ieq ((s[i].toNat:Nat):Int) 35=(s[i]==35):=u8q _ 35 35 rfl;have i1:=fun p q=>ih (i+1) n out f p q (by omega) (by omega) (by omega) (by omega)
  have i2:=fun p q=>ih (i+1) n out (f++[s[i]]) p q (by omega) (by omega) (by omega) (by simp;omega)
  have i3:=fun p q=>ih (i+1) n (out++[f]) [] p q (by omega) (by omega) (by simp;omega) (by simp)
  have i4:=fun p q=>ih (i+1) n out [] p q (by omega) (by omega) (by omega) (by simp)
  (rw[tF];(conv=>zeta);rw[aj k1,k2,k3,k4,k5,k7,k8,k9,k10,e,e34,e9,e32,e35,Dz,List.drop_eq_getElem_cons hil])
  show _=some (ofV (sel qu (sel (s[i]==34) (tV (s.drop (i+1)) out f op false) (tV (s.drop (i+1)) out (f++[s[i]]) op true))
   (sel (s[i]==35) (A9 (vI op out f)) (sel (s[i]==9) (tV (s.drop (i+1)) (vI op out f) [] false false) (sel (s[i]==32) (tV (s.drop (i+1)) (vI op out f) [] false false)
    (sel (s[i]==34) (tV (s.drop (i+1)) out f true true) (tV (s.drop (i+1)) out (f++[s[i]]) true false)))))))
  unfold Rk
  cases qu<;>cases op<;>(simp only[i1,i2,i3,i4,aae];cases s[i]==34<;>cases s[i]==35<;>cases s[i]==9<;>cases s[i]==32<;>rfl)
theorem abV (s:List UInt8) (hl:s.length≤4000000):af hE 20 [.str s] (ofV (ofP s)):=by
 refine ai Uy hS0_ok (s.length+2) 3 ?_;rw[XK];exact ro_loop _ s [] 0 hl s.length 0 (s.length+2) [] [] false false (by omega) (by omega) (by simp) (by simp)
def tlT (s c:List UInt8):List UInt8:=s.dropWhile fun b=>c.contains b
def irI (s:List UInt8) (r:Int):Int:=if r<128 then Bg s r else -1
noncomputable def hByS:aL:=fun a=>match a with|[.str s,.int .u8 c]=>some (true,.int .i64 (Bg s c))|_=>none
noncomputable def hTlS:aL:=fun a=>match a with|[.str s,.str c]=>some (av (ak (ah c) 1000) (lu c),.str (tlT s c))|_=>none
noncomputable def hRnS:aL:=fun a=>match a with|[.str s,.int .i32 r]=>some (av (ak 0 r) (av (lu s) (ak (ah s) 1000)),.int .i64 (irI s r))|_=>none
noncomputable def hS2:List (Nat×aL):=(43,hByS)::(71,hTlS)::(100,hRnS)::[]
theorem hByS_ok (s:List UInt8) (c:Int) (hc:true=true):af hE 43 [.str s,.int .u8 c] (.int .i64 (Bg s c)):=by
 refine bJ fun G w vs hG hg hp=>?_
 obtain⟨x,y,rfl,hx,hy⟩:=jo hp;unfold aP at hx hy;subst hx;subst hy;refine(Go.Proofs.Tryz.strings_IndexByte ⟨s.toArray⟩ c w).mono ?_;rintro e w' ⟨rfl,rfl⟩;exact⟨_,rfl,Below.refl _ _,r9 _ _⟩
theorem hTlS_ok (s c:List UInt8) (hc:av (ak (ah c) 1000) (lu c)=true):af hE 71 [.str s,.str c] (.str (tlT s c)):=by
 obtain⟨h1,h2⟩:=aV hc;rw[aA,au] at h1;refine bJ fun G w vs hG hg hp=>?_
 obtain⟨x,y,rfl,hx,hy⟩:=jo hp;unfold aP at hx hy;subst hx;subst hy;refine(Go.Proofs.Any.strings_TrimLeft_laid Go.Proofs.Tryz.lays161 (by kernel_rfl) ⟨s.toArray⟩ ⟨c.toArray⟩ w (by rw[Oz];omega) (fun j b hb=>?_)).mono ?_
 ·have h3:(c.all fun c=>decide (c.toNat<128))=true:=h2
  exact of_decide_eq_true (List.all_eq_true.1 h3 b (List.mem_of_getElem? hb))
 ·rintro e w' ⟨rfl,hb⟩
  exact⟨_,rfl,hb,MF _⟩
theorem hRnS_ok (s:List UInt8) (r:Int) (hc:av (ak 0 r) (av (lu s) (ak (ah s) 1000))=true):af hE 100 [.str s,.int .i32 r] (.int .i64 (irI s r)):=by
 obtain⟨h1,h2⟩:=aV hc;obtain⟨h2,h4⟩:=aV h2;rw[aA] at h1 h4;rw[au] at h4;refine bJ fun G w vs hG hg hp=>?_
 obtain⟨x,y,rfl,hx,hy⟩:=jo hp;unfold aP at hx hy;subst hx;subst hy;unfold irI;by_cases hr:r<128
 ·rw[if_pos hr]
  refine(Go.Proofs.Tryz.strings_IndexRune_ascii ⟨s.toArray⟩ r w h1 hr).mono ?_;rintro e w' ⟨rfl,rfl⟩;exact⟨_,rfl,Below.refl _ _,r9 _ _⟩
 ·rw[if_neg hr]
  refine(Nt.AnyS.vK Go.Proofs.Tryz.UZ ⟨s.toArray⟩ r w (by omega) (fun b hb=>?_) (by rw[Oz];omega)).mono ?_
  ·have h3:(s.all fun c=>decide (c.toNat<128))=true:=h2
   exact of_decide_eq_true (List.all_eq_true.1 h3 b hb)
  ·rintro e w' ⟨rfl,hb⟩
   exact⟨_,rfl,hb,r9 _ _⟩
theorem hS2_ok:bF hE hS2:=by
 unfold hS2;refine bF.cons (fun args r h=>?_) (bF.cons (fun args r h=>?_) (bF.cons (fun args r h=>?_) bF.nil));all_goals (revert h;intro h;first|unfold hByS at h|unfold hTlS at h|unfold hRnS at h)
 all_goals (split at h;rotate_left; · cases h)
 all_goals (simp only[Option.some.injEq,Prod.mk.injEq] at h;obtain⟨hc,rfl⟩:=h)
 ·exact hByS_ok _ _ rfl
 ·exact hTlS_ok _ _ hc
 ·exact hRnS_ok _ _ hc
noncomputable def VJ:V→Bool| .nilp=>true| .box k off=>k==HL&&off==0|_=>false
noncomputable def Zp:V→Bool| .nilsl=>true| .sl e sh (some L) xs=>e==5&&Kd.tO [.int .u8] sh&&L==1000001002|_=>false
noncomputable def bufS:V→List UInt8| .sl _ _ _ xs=>lZ xs|_=>[]
noncomputable def bufN:V→V| .sl e sh _ xs=> .sl e sh none xs|v=>v
noncomputable def hCpS:aL:=fun a=>match a with|[.bxa 0 [x,b]]=>some (VJ x,.out false (.tup []) [[.box HL 0,b]])|_=>none
noncomputable def hStS:aL:=fun a=>match a with|[.bxa 0 [x,b]]=>some (av (VJ x) (Zp b),.out false (.str (bufS b)) [[x,bufN b]])|_=>none
noncomputable def hS3:List (Nat×aL):=(GX+101,hCpS)::(GX+76,hStS)::hS2
noncomputable def BX (F:Nat) (ns:List Nat) (n:Nat) (x3:Bool) (bn:List UInt8) (K:V→Option V):Option V:=
 Fz hE hS3 F 3 48 [V.bxa 0 []] [1,1,1,1,0,0] ns K n (iY 71 [(0,V.box 1000000000 0),(2,V.str []),(3,V.bool x3),(4,V.box 4 0)] [(4,[V.nilp,V.nilsl]),(1000000000,[V.str bn])])
noncomputable def kX (F:Nat) (ns:List Nat) (n:Nat) (x3:Bool) (tZ:List V) (bn:List UInt8) (K:V→Option V):Option V:=
 Fz hE hS3 F 3 48 [V.bxa 0 []] [1,1,1,1,0,0] ns K n (iY 71 [(0,V.box 1000000000 0),(2,V.str []),(3,V.bool x3),(4,V.box 4 0)] [(4,[V.box 4 0,V.sl 5 [Kd.int .u8] (some 50001) tZ]),(1000000000,[V.str bn])])
theorem XM (F:Nat) (s:List UInt8) (K:V→Option V):
 bD hE (bB hE hS3 F 3) F 48 [V.bxa 0 [V.str s]] K=
 let B:=tlT s [32,9];let A:=K (V.out false (V.tup [V.str [],V.bool false]) [[V.str B]]);sel (av (ak (ah [32,9]) 1000) (lu [32,9])) (sel (seq B []) A (sel (av (ak 0 0) (aK 0 (ah B))) (sel (ieq (sat B 0) 35) A (BX F [] F false B K)) none)) none:=by kernel_rfl
theorem zH (F n:Nat) (x3:Bool) (bn:List UInt8) (K:V→Option V):
 BX F [] (n+1) x3 bn K=
 let B:=K (V.out false (V.tup [V.str [],V.bool true]) [[V.str bn]]);let D:=sat bn 0;let G:=ah bn;let A:=bU bn 1 G;let C:=av (ak 0 0) (aK 0 G);let E:=Bg A 34;let H:=bP .i64 E 1;let I:=aZ (bU A 0 E);sel (aB (seq bn [])) (sel C (sel (aB (ieq D 35)) (sel C (sel (av (ak 0 (y8 .i32 D)) (av (lu [32,9]) (ak (ah [32,9]) 1000))) (sel (aB (ak 0 (irI [32,9] (y8 .i32 D)))) (sel C (sel (av (ak 0 1) (ak 1 G)) (sel (ieq D 34) (sel (aK E 0) (K (V.out true (V.iface 95 (V.agg [V.int .i64 8])) [[V.str A]])) (sel (av (ak 0 E) (ak E (ah A))) (sel (av (ak 0 H) (ak H (ah A))) (sel (Gb I) (kX F [] n x3 I (bU A H (ah A)) K) none) none) none)) (kX F [] n x3 [V.int .u8 D] A K)) none) none) B) none) none) B) none) B:=by kernel_rfl
theorem zI (F n:Nat) (x3:Bool) (tZ:List V) (bn:List UInt8) (K:V→Option V):
 kX F [] (n+1) x3 tZ bn K=
 let B:=K (V.out false (V.tup [V.str (lZ tZ),V.bool true]) [[V.str bn]]);let C:=sat bn 0;let G:=ah bn;let A:=bU bn 1 G;let D:=av (ak 0 0) (aK 0 G);let E:=Bg A 34;let H:=bP .i64 E 1;let I:=aZ (bU A 0 E);sel (aB (seq bn [])) (sel D (sel (aB (ieq C 35)) (sel D (sel (av (ak 0 (y8 .i32 C)) (av (lu [32,9]) (ak (ah [32,9]) 1000))) (sel (aB (ak 0 (irI [32,9] (y8 .i32 C)))) (sel D (sel (av (ak 0 1) (ak 1 G)) (sel (ieq C 34) (sel (aK E 0) (K (V.out true (V.iface 95 (V.agg [V.int .i64 8])) [[V.str A]])) (sel (av (ak 0 E) (ak E (ah A))) (sel (av (ak 0 H) (ak H (ah A))) (sel (dR tZ I) (kX F [] n x3 (aX tZ I) (bU A H (ah A)) K) none) none) none)) (sel (dR tZ [V.int .u8 C]) (kX F [] n x3 (aX tZ [V.int .u8 C]) A K) none)) none) none) B) none) none) B) none) B:=by kernel_rfl
theorem Px {x:V} (h:VJ x=true):x=.nilp∨x=.box HL 0:=by
 unfold VJ at h;split at h
 ·exact .inl rfl
 ·rename_i k off
  rw[Bool.and_eq_true,beq_iff_eq,beq_iff_eq] at h;rw[h.1,h.2];exact .inr rfl
 ·cases h
theorem hCpS_ok (x b:V) (hc:VJ x=true):uP hE 101 [.bxa 0 [x,b]] (.out false (.tup []) [[.box HL 0,b]]):=
 uP.out (copy_xc rfl x b [] (Px hc))
theorem hStS_ok (x b:V) (hc:av (VJ x) (Zp b)=true):uP hE 76 [.bxa 0 [x,b]] (.out false (.str (bufS b)) [[x,bufN b]]):=by
 obtain⟨h1,h2⟩:=aV hc;refine uP.out ?_;unfold Zp at h2;split at h2
 ·exact JG rfl x []
 ·rename_i e sh L xs
  rw[Bool.and_eq_true,Bool.and_eq_true,beq_iff_eq,beq_iff_eq] at h2;obtain⟨⟨rfl,h3⟩,rfl⟩:=h2;have h3:=Kd.bL _ _ h3;subst h3;exact XN rfl x [] (by rcases Px h1 with rfl|rfl<;>rfl) rfl xs
 ·cases h2
theorem Se:bF hE hS3:=by
 unfold hS3;refine bF.rX (fun args r h=>?_) (bF.rX (fun args r h=>?_) hS2_ok);all_goals (revert h;intro h;first|unfold hCpS at h|unfold hStS at h)
 all_goals (split at h;rotate_left; · cases h)
 all_goals (simp only[Option.some.injEq,Prod.mk.injEq] at h;obtain⟨hc,rfl⟩:=h)
 ·exact hCpS_ok _ _ hc
 ·exact hStS_ok _ _ hc
theorem lc_map (l:List UInt8) (c:UInt8):aX (aZ l) [V.int .u8 (c.toNat:Int)]=aZ (l++[c]):=by unfold aX aZ;simp
theorem aaf (l:List UInt8):lZ (aZ l)=l:=by
 unfold lZ aZ;rw[List.map_map];exact(List.map_congr_left fun c _=>by show UInt8.ofNat ((c.toNat:Int)).toNat=c;simp).trans (List.map_id l)
theorem MW: ∀(t:List UInt8),Lib.indexByte t 34=if t.contains 34=true then((upTo t).length:Int) else -1
 |[]=>rfl
 |b::l=>by
  rw[ib_cons,MW l]
  cases hb:b==34 with
  |true=>
   rw[beq_iff_eq] at hb;subst hb;rfl
  |false=>
   have hc:(b::l).contains 34=l.contains 34:=by
    rw[List.contains_cons];have:((34:UInt8)==b)=false:=by rw[beq_eq_false_iff_ne] at hb⊢;exact fun e=>hb e.symm
    rw[this,Bool.false_or]
   have hu:upTo (b::l)=b::upTo l:=by unfold upTo;rw[List.takeWhile_cons,if_pos (by simpa using hb)]
   rw[hc,hu,if_neg (by decide)]
   cases hq:l.contains 34 with
   |true=>
    rw[if_pos rfl,if_pos rfl];have: ¬((((upTo l).length:Int)== -1)=true):=by rw[beq_iff_eq];omega
    rw[if_neg this];simp
   |false=>rfl
theorem Ld (t:List UInt8):t.take (upTo t).length=upTo t:=by
 unfold upTo;have: ∀l:List UInt8,l.take (l.takeWhile fun c=>c != 34).length=l.takeWhile fun c=>c != 34:=by
  intro l;induction l with
  |nil=>rfl
  |cons a l ih=>
   rw[List.takeWhile_cons];split
   ·rw[List.length_cons,List.take_succ_cons,ih]
   ·rfl
 exact this t
theorem Py (c:UInt8):ak 0 (irI [32,9] (y8 .i32 ((c.toNat:Nat):Int)))=(c==9||c==32):=by
 obtain⟨⟨m⟩⟩:=c;revert m;decide+kernel
theorem Ve (c:UInt8):ak 0 (y8 .i32 ((c.toNat:Nat):Int))=true:=by
 obtain⟨⟨m⟩⟩:=c;revert m;decide+kernel
def Bh (p:Bool×List UInt8×List UInt8):V:=sel p.1 (V.out true (V.iface 95 (V.agg [V.int .i64 8])) [[V.str p.2.2]]) (V.out false (V.tup [V.str p.2.1,V.bool true]) [[V.str p.2.2]])
theorem tfN {α:Type} (x y:α):sel true x y=x∧sel false x y=y:=⟨rfl,rfl⟩
theorem FK (F:Nat): ∀(n:Nat) (s f:List UInt8),s.length<n→s.length+f.length≤9000000→kX F [] n false (aZ f) s some=some (Bh (zh n s f))
 |0,s,f,h,_=>by omega
 |n+1,[],f,h,hl=>by
  (rw[zI];(conv=>zeta);rw[aaf]);rfl
 |n+1,c::t,f,h,hl=>by
  have h:t.length<n:=by simpa using h
  have hl2:t.length+f.length+1≤9000000:=by simp at hl;omega
  have k1:aB (seq (c::t) [])=true:=rfl;have k2:av (ak 0 0) (aK 0 (ah (c::t)))=true:=by rw[aC,aA,aU,au];simp
  have k3:sat (c::t) 0=((c.toNat:Nat):Int):=rfl;have k4:av (lu [32,9]) (ak (ah [32,9]) 1000)=true:=rfl;have k5:av (ak 0 1) (ak 1 (ah (c::t)))=true:=by rw[aC,aA,aA,au];simp;omega
  have k6:bU (c::t) 1 (ah (c::t))=t:=by
   unfold bU;rw[au];have:((((c::t).length:Nat):Int).toNat-(1:Int).toNat)=t.length:=by simp
   rw[this];exact List.take_of_length_le (Nat.le_refl _)
  have e34:ieq ((c.toNat:Nat):Int) 34=(c==34):=u8q _ 34 34 rfl;have e35:ieq ((c.toNat:Nat):Int) 35=(c==35):=u8q _ 35 35 rfl;have kq:av (ak 0 (y8 .i32 ((c.toNat:Nat):Int))) true=true:=by rw[Ve];rfl
  have ka:dR (aZ f) [V.int .u8 ((c.toNat:Nat):Int)]=true:=by rw[nA];unfold aZ;simp;omega
  (rw[zI];(conv=>zeta))
  simp only[k1,k2,k3,k4,k5,k6,e34,e35,kq,ka,Py,aaf,lc_map,tfN];unfold zh
  cases Rj:c==35 with
  |true=>
   have hs:JN c=true:=by unfold JN;rw[Rj];simp
   rw[hs];rfl
  |false=>
   cases hb:(c==9||c==32) with
   |true=>
    have hs:JN c=true:=by unfold JN;rw[hb,Rj];rfl
    rw[hs];rfl
   |false=>
    have hs:JN c=false:=by unfold JN;rw[hb,Rj];rfl
    rw[hs]
    cases hq:c==34 with
    |false=>
     show kX F [] n false (aZ (f++[c])) t some=_;rw[FK F n t (f++[c]) h (by simp;omega)];rfl
    |true=>
     have hi:Bg t 34=if t.contains 34=true then((upTo t).length:Int) else -1:=MW t
     cases hm:t.contains 34 with
     |false=>
      rw[hm,if_neg (by decide)] at hi;rw[hi];rfl
     |true=>
      rw[hm,if_pos rfl] at hi;obtain⟨b1,b2⟩:=qY t hm;have j1:aK ((upTo t).length:Int) 0=false:=bu (by omega);have j2:av (ak 0 ((upTo t).length:Int)) (ak ((upTo t).length:Int) (ah t))=true:=by rw[aC,aA,aA,au];omega
      have j3:bP .i64 ((upTo t).length:Int) 1=(((upTo t).length+1:Nat):Int):=by rw[dh (by omega)];omega
      have j4:av (ak 0 (((upTo t).length+1:Nat):Int)) (ak (((upTo t).length+1:Nat):Int) (ah t))=true:=by rw[aC,aA,aA,au];omega
      have j5:bU t 0 ((upTo t).length:Int)=upTo t:=by
       unfold bU;simp only[Int.toNat_natCast,Int.toNat_zero,List.drop_zero,Nat.sub_zero];exact Ld t
      have j6:bU t (((upTo t).length+1:Nat):Int) (ah t)=behind t:=by
       unfold bU behind;rw[au,Int.toNat_natCast,Int.toNat_natCast];exact List.take_of_length_le (by simp)
      have j7:dR (aZ f) (aZ (upTo t))=true:=by rw[nA];unfold aZ;simp;omega
      have j8:aX (aZ f) (aZ (upTo t))=aZ (f++upTo t):=by unfold aX aZ;simp
      simp only[hi,j1,j2,j3,j4,j5,j6,j7,j8];show kX F [] n false (aZ (f++upTo t)) (behind t) some=_;rw[FK F n (behind t) (f++upTo t) (by omega) (by simp;omega)];rfl
theorem abW (F n:Nat) (s:List UInt8) (h:s.length<n+1) (hl:s.length≤9000000):BX F [] (n+1) false s some=some (Bh (zh (n+1) s [])):=by
 cases s with
 |nil=>(rw[zH];(conv=>zeta));rfl
 |cons c t=>
  have h:t.length<n:=by simpa using h
  have hl2:t.length+1≤9000000:=by simpa using hl
  have k1:aB (seq (c::t) [])=true:=rfl;have k2:av (ak 0 0) (aK 0 (ah (c::t)))=true:=by rw[aC,aA,aU,au];simp
  have k3:sat (c::t) 0=((c.toNat:Nat):Int):=rfl;have k4:av (lu [32,9]) (ak (ah [32,9]) 1000)=true:=rfl;have k5:av (ak 0 1) (ak 1 (ah (c::t)))=true:=by rw[aC,aA,aA,au];simp;omega
  have k6:bU (c::t) 1 (ah (c::t))=t:=by
   unfold bU;rw[au];have:((((c::t).length:Nat):Int).toNat-(1:Int).toNat)=t.length:=by simp
   rw[this];exact List.take_of_length_le (Nat.le_refl _)
  have e34:ieq ((c.toNat:Nat):Int) 34=(c==34):=u8q _ 34 34 rfl;have e35:ieq ((c.toNat:Nat):Int) 35=(c==35):=u8q _ 35 35 rfl;have kq:av (ak 0 (y8 .i32 ((c.toNat:Nat):Int))) true=true:=by rw[Ve];rfl
  (rw[zH];(conv=>zeta))
  simp only[k1,k2,k3,k4,k5,k6,e34,e35,kq,Py,tfN];unfold zh
  cases Rj:c==35 with
  |true=>
   have hs:JN c=true:=by unfold JN;rw[Rj];simp
   rw[hs];rfl
  |false=>
   cases hb:(c==9||c==32) with
   |true=>
    have hs:JN c=true:=by unfold JN;rw[hb,Rj];rfl
    rw[hs];rfl
   |false=>
    have hs:JN c=false:=by unfold JN;rw[hb,Rj];rfl
    rw[hs]
    cases hq:c==34 with
    |false=>
     show kX F [] n false (aZ [c]) t some=_;rw[FK F n t [c] h (by simp;omega)];rfl
    |true=>
     have hi:Bg t 34=if t.contains 34=true then((upTo t).length:Int) else -1:=MW t
     cases hm:t.contains 34 with
     |false=>
      rw[hm,if_neg (by decide)] at hi;rw[hi];rfl
     |true=>
      rw[hm,if_pos rfl] at hi;obtain⟨b1,b2⟩:=qY t hm;have j1:aK ((upTo t).length:Int) 0=false:=bu (by omega);have j2:av (ak 0 ((upTo t).length:Int)) (ak ((upTo t).length:Int) (ah t))=true:=by rw[aC,aA,aA,au];omega
      have j3:bP .i64 ((upTo t).length:Int) 1=(((upTo t).length+1:Nat):Int):=by rw[dh (by omega)];omega
      have j4:av (ak 0 (((upTo t).length+1:Nat):Int)) (ak (((upTo t).length+1:Nat):Int) (ah t))=true:=by rw[aC,aA,aA,au];omega
      have j5:bU t 0 ((upTo t).length:Int)=upTo t:=by
       unfold bU;simp only[Int.toNat_natCast,Int.toNat_zero,List.drop_zero,Nat.sub_zero];exact Ld t
      have j6:bU t (((upTo t).length+1:Nat):Int) (ah t)=behind t:=by
       unfold bU behind;rw[au,Int.toNat_natCast,Int.toNat_natCast];exact List.take_of_length_le (by simp)
      have j7:Gb (aZ (upTo t))=true:=by unfold Gb aZ;rw[yC];simp;omega
      simp only[hi,j1,j2,j3,j4,j5,j6,j7];show kX F [] n false (aZ (upTo t)) (behind t) some=_;rw[FK F n (behind t) (upTo t) (by omega) (by omega)];rfl
theorem hNxS_ok (s:List UInt8) (hc:ak (ah s) 4000000=true):uP hE 48 [.bxa 0 [.str s]] (.mK (Lp s) (.out true (.iface 95 (.agg [.int .i64 8])) [[.str (y7 s)]]) (.out false (.tup [.str (Lr s),.bool (CF s)]) [[.str (y7 s)]])):=by
 have hl:=Uz hc;have hT:=MV s;have hx:bD hE (bB hE hS3 ((CB s).length+1) 3) ((CB s).length+1) 48 [V.bxa 0 [V.str s]] some=some (sel (CF s) (Bh (nd s)) (V.out false (V.tup [V.str [],V.bool false]) [[V.str (CB s)]])):=by
  (rw[XM];(conv=>zeta))
  have k0:av (ak (ah [32,9]) 1000) (lu [32,9])=true:=rfl;have kt:tlT s [32,9]=CB s:=rfl;rw[k0,kt];unfold CF nd
  cases h:CB s with
  |nil=>rfl
  |cons c t=>
   rw[h] at hT;have k2:av (ak 0 0) (aK 0 (ah (c::t)))=true:=by rw[aC,aA,aU,au];simp
   have k3:ieq (sat (c::t) 0) 35=(c==35):=u8q _ 35 35 rfl;have kf:BX ((c::t).length+1) [] ((c::t).length+1) false (c::t) some=some (Bh (zh ((c::t).length+1) (c::t) [])):=abW _ _ (c::t) (by omega) (by omega);rw[k2,k3,kf];show sel (c==35) _ (some (Bh (zh ((c::t).length+1) (c::t) [])))=some (sel (!(c==35)) (Bh (zh ((c::t).length+1) (c::t) [])) _);generalize Bh (zh ((c::t).length+1) (c::t) [])=z
   cases c==35<;>rfl
 refine uP.mK (fun hb=>uP.out (nI Uy Se ((CB s).length+1) 3 ?_)) (fun hb=>uP.out (nI Uy Se ((CB s).length+1) 3 ?_))
 ·rw[hx]
  unfold Lp at hb;rw[Bool.and_eq_true] at hb;unfold y7 Bh;rw[hb.1,hb.2];rfl
 ·rw[hx]
  unfold Lp at hb;unfold y7 Lr Bh
  cases hm:CF s with
  |false=>rfl
  |true=>
   rw[hm] at hb;have hb:(nd s).1=false:=hb;rw[hb];rfl
def strV (x:V):List UInt8:=aT (aD x 0)
noncomputable def hNxS:aL:=fun a=>match a with|[.bxa 0 [.str s]]=>some (ak (ah s) 4000000,.mK (Lp s) (.out true (.iface 95 (.agg [.int .i64 8])) [[.str (y7 s)]]) (.out false (.tup [.str (Lr s),.bool (CF s)]) [[.str (y7 s)]]))|_=>none
noncomputable def hS4:List (Nat×aL):=(GX+48,hNxS)::hS3
noncomputable def Sf (F:Nat) (ns:List Nat) (n:Nat) (x0 x5:List UInt8) (x6:Bool) (lW:List UInt8) (fB:Int) (K:V→Option V):Option V:=
 UC hE hS4 F 3 29 47 [V.box 1000005000 0,V.box 1000005001 0] [] [1,1,1,0,1,0] ns K n (iY 29 [(0,V.str x0),(2,V.box 1000005000 0),(3,V.box 1000005001 0),(4,V.box 4 0),(5,V.str x5),(6,V.bool x6)] [(4,[V.str lW]),(1000005001,[V.int .i64 fB]),(1000005000,[V.nilsl])])
noncomputable def Aj (F:Nat) (ns:List Nat) (n:Nat) (x0 x5:List UInt8) (x6:Bool) (lW:List UInt8) (fB:Int) (gZ:List V) (K:V→Option V):Option V:=
 UC hE hS4 F 3 29 47 [V.box 1000005000 0,V.box 1000005001 0] [] [1,1,1,0,1,0] ns K n (iY 29 [(0,V.str x0),(2,V.box 1000005000 0),(3,V.box 1000005001 0),(4,V.box 4 0),(5,V.str x5),(6,V.bool x6)] [(4,[V.str lW]),(1000005001,[V.int .i64 fB]),(1000005000,[V.sl 9 [Kd.str] (some 50010000) gZ])])
theorem fOf_top (F:Nat) (s:List UInt8) (K:V→Option V):
 bD hE (bB hE hS4 F 3) F 29 [V.str s] K=
 sel (ak (ah s) 4000000) (sel (Lp s) (K (V.tup [V.nilsl,V.int .i64 8])) (Sf F [] F s (Lr s) (CF s) (y7 s) 0 K)) none:=by kernel_rfl
theorem QN (F n:Nat) (x0 x5:List UInt8) (x6:Bool) (lW:List UInt8) (fB:Int) (K:V→Option V):
 Sf F [] (n+1) x0 x5 x6 lW fB K=
 sel x6 (sel (ak (ah lW) 4000000) (sel (Lp lW) (K (V.tup [V.nilsl,V.int .i64 8])) (Aj F [] n x0 (Lr lW) (CF lW) (y7 lW) fB [V.str x5] K)) none) (K (V.tup [V.nilsl,V.int .i64 0])):=by kernel_rfl
theorem QO (F n:Nat) (x0 x5:List UInt8) (x6:Bool) (lW:List UInt8) (fB:Int) (gZ:List V) (K:V→Option V):
 Aj F [] (n+1) x0 x5 x6 lW fB gZ K=
 sel x6 (sel (dR gZ [V.str x5]) (sel (ak (ah lW) 4000000) (sel (Lp lW) (K (V.tup [V.nilsl,V.int .i64 8])) (Aj F [] n x0 (Lr lW) (CF lW) (y7 lW) fB (aX gZ [V.str x5]) K)) none) none) (sel (aK 16 (ax gZ)) (K (V.tup [V.nilsl,V.int .i64 6])) (K (V.tup [V.sl 9 [Kd.str] none gZ,V.int .i64 0]))):=by kernel_rfl
theorem hS4_ok:bF hE hS4:=by
 unfold hS4;refine bF.rX (fun args r h=>?_) Se;all_goals (revert h;intro h;first|unfold hNxS at h)
 all_goals (split at h;rotate_left; · cases h)
 all_goals (simp only[Option.some.injEq,Prod.mk.injEq] at h;obtain⟨hc,rfl⟩:=h)
 ·exact hNxS_ok _ hc
def nilV (l:List V):V:=match l with|[]=> .nilsl|l=> .sl 9 [.str] none l
def VK (p:List (List UInt8)×Int):V:=.tup [nilV (bQ p.1),.int .i64 p.2]
theorem fof_fin (out:List (List UInt8)) (h:out≠[]):sel (aK 16 (ax (bQ out))) (some (V.tup [V.nilsl,V.int .i64 6])) (some (V.tup [V.sl 9 [Kd.str] none (bQ out),V.int .i64 0]))=some (VK (A9 out)):=by
 have e:ax (bQ out)=(out.length:Int):=by unfold bQ;rw[aI,List.length_map]
 unfold A9;rw[e];by_cases h16:16<out.length
 ·rw[bq (by omega),if_pos h16];rfl
 ·rw[bu (by omega),if_neg h16]
  cases out with
  |nil=>exact absurd rfl h
  |cons a l=>rfl
theorem Vf (F:Nat) (s0:List UInt8) (w:Int): ∀(n:Nat) (s f:List UInt8) (m:Bool) (out:List (List UInt8)),s.length≤4000000→out≠[]→(m=true→s.length+1<n)→0<n→(m=true→out.length+s.length≤9000000)→
  Aj F [] n s0 f m s w (bQ out) some=some (VK (sel m (tV s (out++[f]) [] false false) (A9 out)))
 |0,s,f,m,out,_,_,_,h,_=>by omega
 |n+1,s,f,m,out,hl,ho,hn,_,hb=>by
  rw[QO]
  cases m with
  |false=>exact fof_fin out ho
  |true=>
   have hn:=hn rfl;have hb:=hb rfl;have k1:dR (bQ out) [V.str f]=true:=by rw[nA];unfold bQ;simp;omega
   have k2:ak (ah s) 4000000=true:=bA (by rw[au];omega);obtain⟨l1,l2,l3⟩:=Sd s;rw[k1,k2,Dz];show sel (Lp s) (some (V.tup [V.nilsl,V.int .i64 8])) (Aj F [] n s0 (Lr s) (CF s) (y7 s) w (bQ (out++[f])) some)=some (VK (tV s (out++[f]) [] false false));rw[of_next]
   cases hB:Lp s with
   |true=>
    have hM:CF s=true:=by unfold Lp at hB;rw[Bool.and_eq_true] at hB;exact hB.1
    rw[hM];rfl
   |false=>
    have ih:=Vf F s0 w n (y7 s) (Lr s) (CF s) (out++[f]) (by omega) (by simp) (fun hM=>by have:=l3 hM hB;omega) (by omega) (fun hM=>by have:=l3 hM hB;simp only[List.length_append,List.length_cons,List.length_nil];omega);show Aj F [] n s0 (Lr s) (CF s) (y7 s) w (bQ (out++[f])) some=_;rw[ih];rfl
theorem fOf_ev (s:List UInt8) (hl:s.length≤4000000):af hE 29 [.str s] (VK (ofP s)):=by
 refine ai Uy hS4_ok (s.length+5) 3 ?_;rw[fOf_top];have k2:ak (ah s) 4000000=true:=bA (by rw[au];omega);obtain⟨l1,l2,l3⟩:=Sd s;obtain⟨m1,m2,m3⟩:=Sd (y7 s);have k3:ak (ah (y7 s)) 4000000=true:=bA (by rw[au];omega);rw[k2];unfold ofP;rw[of_next];show sel (Lp s) (some (V.tup [V.nilsl,V.int .i64 8])) (Sf (s.length+5) [] (s.length+4+1) s (Lr s) (CF s) (y7 s) 0 some)=_
 cases hB:Lp s with
 |true=>
  have hM:CF s=true:=by unfold Lp at hB;rw[Bool.and_eq_true] at hB;exact hB.1
  rw[hM];rfl
 |false=>
  rw[QN,k3]
  cases hM:CF s with
  |false=>rfl
  |true=>
   have l3:=l3 hM hB;show sel (Lp (y7 s)) (some (V.tup [V.nilsl,V.int .i64 8])) (Aj (s.length+5) [] (s.length+4) s (Lr (y7 s)) (CF (y7 s)) (y7 (y7 s)) 0 (bQ [Lr s]) some)=some (VK (tV (y7 s) [Lr s] [] false false));rw[of_next]
   cases hB2:Lp (y7 s) with
   |true=>
    have hM2:CF (y7 s)=true:=by unfold Lp at hB2;rw[Bool.and_eq_true] at hB2;exact hB2.1
    rw[hM2];rfl
   |false=>
    rw[Vf (s.length+5) s 0 (s.length+4) (y7 (y7 s)) (Lr (y7 s)) (CF (y7 s)) [Lr s] (by omega) (by simp) (fun h=>by have:=m3 h hB2;omega) (by omega) (fun _=>by
     show 1+_≤_;omega)]
    rfl
def bX (s:List UInt8):List V:=bQ (ofP s).1
def Ls (s:List UInt8):Int:=(ofP s).2
noncomputable def hOfS:aL:=fun a=>match a with|[.str s]=>some (ak (ah s) 4000000,.tup [.sl 9 [.str] none (bX s),.int .i64 (Ls s)])|_=>none
noncomputable def Q9:List (Nat×aL):=(29,hOfS)::(20,hOfS)::hS0
noncomputable def hL:List (Nat×aL):=Q9
theorem hOfS_ok (s:List UInt8) (hc:ak (ah s) 4000000=true):af hE 29 [.str s] (.tup [.sl 9 [.str] none (bX s),.int .i64 (Ls s)]):=by
 have h:=fOf_ev s (Uz hc);unfold VK at h;unfold bX Ls
 cases e:bQ (ofP s).1 with
 |nil=>rw[e] at h;exact Np h
 |cons x l=>rw[e] at h;exact h
theorem tJ (s:List UInt8) (hc:ak (ah s) 4000000=true):af hE 20 [.str s] (.tup [.sl 9 [.str] none (bX s),.int .i64 (Ls s)]):=
 Jt (o:=some 0) (abV s (Uz hc))
end Nt.Ev.YtpbgegnlkdfjgaaGreatDoor
