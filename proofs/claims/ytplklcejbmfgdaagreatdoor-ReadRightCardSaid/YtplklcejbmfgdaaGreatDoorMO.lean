/-
  Fields of a line: the plain law. Fields of a line, one at a time: the plain law. Fields: equations of functions, as the evaluator prints them. Fields: a field's text on both sides, the document's fields. Fields2: equations of functions, as the evaluator prints them. Fields: functions of the library that the cutter calls. Fields3: equations of functions, as the evaluator prints them. Fields: the cutter's next field. Join: equations of functions, as the evaluator prints them. strings.Join. Fields4: equations of functions, as the evaluator prints them. Fields: lines that are cut, fields that are joined, on both sides; whether rows of strings are the same. FieldsLaw: equations of functions, as the evaluator prints them. Fields: the three statements.
-/
import Derived.Test.YtplklcejbmfgdaaGreatDoorMBB
import Derived.Test.YtplklcejbmfgdaaGreatDoorMC
import Derived.Test.YtplklcejbmfgdaaGreatDoorMD
import Derived.Test.YtplklcejbmfgdaaGreatDoorMS
import Derived.Shelf.Strings.SlTrimAscii
import Derived.Test.YtplklcejbmfgdaaGreatDoorMP
set_option linter.unusedVariables false
set_option linter.unusedSimpArgs false
set_option linter.unusedSectionVars false
namespace Nt.Fld
open Go Nt.Ev
def Gg (out:List (List UInt8)):List (List UInt8)×Int:=if 16<out.length then([],6) else(out,0)
def BN (op:Bool) (out:List (List UInt8)) (f:List UInt8):List (List UInt8):=sel op (out++[f]) out
def qN:List UInt8→List (List UInt8)→List UInt8→Bool→Bool→List (List UInt8)×Int
 |[],out,f,op,qu=>sel qu ([],8) (Gg (BN op out f))
 |c::t,out,f,op,qu=>sel qu
  (sel (c==34) (qN t out f op false) (qN t out (f++[c]) op true))
  (sel (c==35) (Gg (BN op out f)) (sel (c==9) (qN t (BN op out f) [] false false) (sel (c==32) (qN t (BN op out f) [] false false)
   (sel (c==34) (qN t out f true true) (qN t out (f++[c]) true false)))))
def Wh (s:List UInt8):List (List UInt8)×Int:=qN s [] [] false false
def F8 (c:UInt8):Bool:=c==9||c==32||c==35
def txP (s:List UInt8):List UInt8×Int:=if s.contains 34=true then([],8) else if s=[]∨s.any F8=true then([34]++s++[34],0) else(s,0)
def G8:List (List UInt8)→List UInt8×Int
 |[]=>([],0)
 |x::l=>if(txP x).2=0 then(if(G8 l).2=0 then([32]++(txP x).1++(G8 l).1,0) else([],(G8 l).2)) else([],(txP x).2)
def joinP (l:List (List UInt8)):List UInt8×Int:=if 16<l.length then([],6) else if(G8 l).2=0 then((G8 l).1.drop 1,0) else([],(G8 l).2)
theorem IV (rest:List UInt8) (out:List (List UInt8)) (op:Bool): ∀(x f:List UInt8),x.contains 34=false→qN (x++rest) out f op true=qN rest out (f++x) op true
 |[],f,_=>by simp
 |c::x,f,h=>by
  rw[List.contains_cons,Bool.or_eq_false_iff] at h;have hc:(c==34)=false:=by
   rw[beq_eq_false_iff_ne] at h⊢;exact fun e=>h.1 e.symm
  show sel true (sel (c==34) _ (qN (x++rest) out (f++[c]) op true)) _=_;rw[hc];show qN (x++rest) out (f++[c]) op true=_;rw[IV rest out op x (f++[c]) h.2];simp
def upTo (t:List UInt8):List UInt8:=t.takeWhile fun c=>c != 34
def behind (t:List UInt8):List UInt8:=t.drop ((upTo t).length+1)
def vP:Nat→List UInt8→List UInt8→Bool×List UInt8×List UInt8
 |0,s,f=>(false,f,s)
 |n+1,[],f=>(false,f,[])
 |n+1,c::t,f=>sel (F8 c) (false,f,c::t) (sel (c==34) (sel (t.contains 34) (vP n (behind t) (f++upTo t)) (true,f,t)) (vP n t (f++[c])))
def zY (s:List UInt8):List UInt8:=s.dropWhile fun b=>([32,9]:List UInt8).contains b
def nd (s:List UInt8):Bool×List UInt8×List UInt8:=vP ((zY s).length+1) (zY s) []
def zZ (s:List UInt8):Bool:=match zY s with|[]=>false|c::_=>!(c==35)
def Jb (s:List UInt8):Bool:=zZ s&&(nd s).1
def Jc (s:List UInt8):List UInt8:=sel (zZ s) (nd s).2.1 []
def vF (s:List UInt8):List UInt8:=sel (zZ s) (nd s).2.2 (zY s)
theorem xW: ∀t:List UInt8,t.contains 34=true→t=upTo t++34::behind t∧(upTo t).contains 34=false
 |[],h=>by cases h
 |c::t,h=>by
  by_cases hc:c=34
  ·subst hc
   exact⟨rfl,rfl⟩
  ·have h2:t.contains 34=true:=by
    rw[List.contains_cons,Bool.or_eq_true] at h;rcases h with h|h
    ·rw[beq_iff_eq] at h;exact absurd h.symm hc
    ·exact h
   obtain⟨e1,e2⟩:=xW t h2;have hb:(c != 34)=true:=by rw[bne_iff_ne];exact hc
   have hu:upTo (c::t)=c::upTo t:=by unfold upTo;rw[List.takeWhile_cons,if_pos hb]
   have hb2:behind (c::t)=behind t:=by unfold behind;rw[hu];rfl
   refine⟨by rw[hu,hb2];simp only[List.cons_append];rw[←e1],?_⟩;rw[hu,List.contains_cons,e2,Bool.or_false,beq_eq_false_iff_ne];exact fun e=>hc e.symm
theorem o7 (t:List UInt8) (h:t.contains 34=true):(behind t).length<t.length∧(upTo t).length+(behind t).length+1=t.length:=by
 have:=congrArg List.length (xW t h).1;simp at this;omega
theorem SB: ∀(t:List UInt8) (out:List (List UInt8)) (f:List UInt8) (op:Bool),t.contains 34=false→qN t out f op true=([],8)
 |[],_,_,_,_=>rfl
 |c::t,out,f,op,h=>by
  rw[List.contains_cons,Bool.or_eq_false_iff] at h;have hc:(c==34)=false:=by
   rw[beq_eq_false_iff_ne] at h⊢;exact fun e=>h.1 e.symm
  show sel true (sel (c==34) _ (qN t out (f++[c]) op true)) _=_;rw[hc];exact SB t out (f++[c]) op h.2
theorem Xi: ∀(n:Nat) (s f:List UInt8) (out:List (List UInt8)),s.length<n→qN s out f true false=sel (vP n s f).1 ([],8) (qN (vP n s f).2.2 (out++[(vP n s f).2.1]) [] false false)
 |0,s,f,out,h=>by omega
 |n+1,[],f,out,h=>rfl
 |n+1,c::t,f,out,h=>by
  have h:t.length<n:=by simpa using h
  unfold vP
  cases hs:F8 c with
  |true=>
   show _=qN (c::t) (out++[f]) [] false false;unfold F8 at hs;have hc:(c=9∨c=32)∨c=35:=by simpa using hs
   rcases hc with(rfl|rfl)|rfl<;>rfl
  |false=>
   show _=sel (sel (c==34) (sel (t.contains 34) (vP n (behind t) (f++upTo t)) (true,f,t)) (vP n t (f++[c]))).1 ([],8) _;unfold F8 at hs;rw[Bool.or_eq_false_iff,Bool.or_eq_false_iff] at hs;obtain⟨⟨h9,h32⟩,OY⟩:=hs;have e0:qN (c::t) out f true false=sel (c==34) (qN t out f true true) (qN t out (f++[c]) true false):=by
    show sel false _ (sel (c==35) _ (sel (c==9) _ (sel (c==32) _ _)))=_;rw[h9,h32,OY];rfl
   rw[e0]
   cases hq:c==34 with
   |false=>exact Xi n t (f++[c]) out h
   |true=>
    cases hm:t.contains 34 with
    |false=>exact SB t out f true hm
    |true=>
     obtain⟨e1,e2⟩:=xW t hm;have e3:qN t out f true true=qN (behind t) out (f++upTo t) true false:=by
      have:=IV (34::behind t) out true (upTo t) f e2;rw[←e1] at this;rw[this];rfl
     show qN t out f true true=sel (vP n (behind t) (f++upTo t)).1 ([],8) _;rw[e3];exact Xi n (behind t) (f++upTo t) out (by have:=(o7 t hm).1;omega)
theorem Er: ∀(n:Nat) (s f:List UInt8),s.length<n→(vP n s f).2.2.length≤s.length∧(vP n s f).2.1.length≤f.length+s.length
 |0,s,f,h=>by omega
 |n+1,[],f,h=>⟨Nat.le_refl _,Nat.le_refl _⟩
 |n+1,c::t,f,h=>by
  have h:t.length<n:=by simpa using h
  unfold vP
  cases hs:F8 c with
  |true=>exact⟨Nat.le_refl _,by simp[sel]⟩
  |false=>
   cases hq:c==34 with
   |false=>
    have:=Er n t (f++[c]) h;show(vP n t (f++[c])).2.2.length≤_∧(vP n t (f++[c])).2.1.length≤_;simp only[List.length_append,List.length_cons,List.length_nil] at this⊢;omega
   |true=>
    cases hm:t.contains 34 with
    |false=>
     show t.length≤(c::t).length∧f.length≤f.length+(c::t).length;simp
    |true=>
     obtain⟨k1,k2⟩:=o7 t hm;have:=Er n (behind t) (f++upTo t) (by omega);show(vP n (behind t) (f++upTo t)).2.2.length≤_∧(vP n (behind t) (f++upTo t)).2.1.length≤_;simp only[List.length_append,List.length_cons] at this⊢;omega
theorem Kl: ∀s:List UInt8,(zY s).length≤s.length:=fun s=>(List.dropWhile_sublist _).length_le
theorem SC: ∀(s:List UInt8) (out:List (List UInt8)),qN s out [] false false=qN (zY s) out [] false false
 |[],out=>rfl
 |c::t,out=>by
  unfold zY;rw[List.dropWhile_cons]
  cases hb:([32,9]:List UInt8).contains c with
  |false=>rw[if_neg (by decide)]
  |true=>
   rw[if_pos rfl];have hc:c=32∨c=9:=by simpa using hb
   have:qN (c::t) out [] false false=qN t out [] false false:=by rcases hc with rfl|rfl<;>rfl
   rw[this];exact SC t out
theorem MY {s t:List UInt8} {c:UInt8} (h:zY s=c::t):(c==32)=false∧(c==9)=false:=by
 have h2: ∀(l:List UInt8),zY l=c::t→([32,9]:List UInt8).contains c=false:=by
  intro l;induction l with
  |nil=>intro h;cases h
  |cons a l ih=>
   intro h;unfold zY at h;rw[List.dropWhile_cons] at h
   cases hb:([32,9]:List UInt8).contains a with
   |true=>rw[hb,if_pos rfl] at h;exact ih h
   |false=>
    rw[hb,if_neg (by decide)] at h;simp only[List.cons.injEq] at h;rw[←h.1];exact hb
 have:=h2 s h;simpa using this
theorem of_next (s:List UInt8) (out:List (List UInt8)):qN s out [] false false=sel (zZ s) (sel (Jb s) ([],8) (qN (vF s) (out++[Jc s]) [] false false)) (Gg out):=by
 rw[SC];have hT:=Kl s;unfold Jb vF Jc nd zZ
 cases h:zY s with
 |nil=>rfl
 |cons c t=>
  rw[h] at hT;simp only[h]
  cases OY:c==35 with
  |true=>
   rw[beq_iff_eq] at OY;subst OY;rfl
  |false=>
   obtain⟨h32,h9⟩:=MY h;have e0:qN (c::t) out [] false false=qN (c::t) out [] true false:=by
    show sel false _ (sel (c==35) _ (sel (c==9) _ (sel (c==32) _ (sel (c==34) _ _))))=sel false _ (sel (c==35) _ (sel (c==9) _ (sel (c==32) _ (sel (c==34) _ _))));rw[h9,h32,OY];rfl
   rw[e0];exact Xi ((c::t).length+1) (c::t) [] out (by omega)
theorem PK (s:List UInt8):(vF s).length≤s.length∧(Jc s).length≤s.length∧(zZ s=true→Jb s=false→(vF s).length<s.length):=by
 have hT:=Kl s;have h1:=Er ((zY s).length+1) (zY s) [] (by omega);refine⟨?_,?_,?_⟩
 ·unfold vF nd
  cases zZ s
  ·exact hT
  ·show(vP ((zY s).length+1) (zY s) []).2.2.length≤_;omega
 ·unfold Jc nd
  cases zZ s
  ·exact Nat.zero_le _
  ·show(vP ((zY s).length+1) (zY s) []).2.1.length≤_
   have:=h1.2;simp only[List.length_nil,Nat.zero_add] at this;omega
 ·intro hm hb
  unfold vF nd;rw[hm];show(vP ((zY s).length+1) (zY s) []).2.2.length<_;unfold zZ at hm
  cases h:zY s with
  |nil=>rw[h] at hm;cases hm
  |cons c t=>
   rw[h] at hm hT;have OY:(c==35)=false:=by simpa using hm
   obtain⟨h32,h9⟩:=MY h;have hT:t.length<s.length:=by simp at hT;omega
   have hs:F8 c=false:=by unfold F8;rw[h9,h32,OY];rfl
   show(sel (F8 c) (false,[],c::t) (sel (c==34) (sel (t.contains 34) (vP (t.length+1) (behind t) ([]++upTo t)) (true,[],t)) (vP (t.length+1) t ([]++[c])))).2.2.length<_;rw[hs]
   cases hq:c==34 with
   |false=>show(vP (t.length+1) t ([]++[c])).2.2.length<_;have:=(Er (t.length+1) t ([]++[c]) (by omega)).1;omega
   |true=>
    cases hm2:t.contains 34 with
    |false=>show t.length<_;exact hT
    |true=>
     show(vP (t.length+1) (behind t) ([]++upTo t)).2.2.length<_;have k:=(o7 t hm2).1;have:=(Er (t.length+1) (behind t) ([]++upTo t) (by omega)).1;omega
end Nt.Fld
namespace Nt.Ev.YtplklcejbmfgdaaGreatDoor
open Go Nt.Num Go.Proofs.YtplklcejbmfgdaaGreatDoor
def ixF (s c:List UInt8):Int:=Go.Lib.indexAny s c
def lF (l:List UInt8):Bool:=l.all fun c=>decide (c.toNat<128)
noncomputable def hE:Env:=⟨Go.Proofs.Tryz.prog,fun _=>none⟩
def BO (s:List UInt8) (c:Int):Int:=Go.Lib.indexByte s c.toNat.toUInt8
noncomputable def hAnyS:aF:=fun a=>match a with|[.str s,.str c]=>some (ak (ai (aj s) 4000000) (ak (ak (ai 2 (aj c)) (ai (aj c) 1000)) (lF c)),.int .i64 (ixF s c))|_=>none
noncomputable def hRuneS:aF:=fun a=>match a with|[.str s,.int .i32 r]=>some (ak (ai 0 r) (aT r 128),.int .i64 (BO s r))|_=>none
noncomputable def hS0:List (Nat×aF):=(116,hAnyS)::(115,hRuneS)::[]
def ftT (s:List UInt8):List UInt8:=(Nt.Fld.txP s).1
def ftW (s:List UInt8):Int:=(Nt.Fld.txP s).2
noncomputable def hTextS:aF:=fun a=>match a with|[.str s]=>some (ai (aj s) 4000000,.tup [.str (ftT s),.int .i64 (ftW s)])|_=>none
set_option maxRecDepth 100000
open Go.RowKit Nt Nt.Fld
theorem Xj:sO hE:=⟨by kernel_rfl,by kernel_rfl⟩
theorem len_h {s:List UInt8} (h:ai (aj s) 4000000=true):s.length≤4000000:=by rw[aA,aB] at h;omega
theorem ba_sz (l:List UInt8):(⟨l.toArray⟩:ByteArray).size=l.length:=by simp[ByteArray.size]
theorem ib_cons (b c:UInt8) (l:List UInt8):Lib.indexByte (b::l) c=if b==c then 0 else if Lib.indexByte l c== -1 then -1 else Lib.indexByte l c+1:=rfl
theorem u8q (c:UInt8) (n:Nat) (d:UInt8) (h:d.toNat=n):ieq ((c.toNat:Nat):Int) (n:Int)=(c==d):=by
 rw[Bool.eq_iff_iff,aK,beq_iff_eq,←UInt8.toNat_inj,h];omega
def bL (l:List (List UInt8)):List V:=l.map V.str
theorem Vy (l:List (List UInt8)) (x:List UInt8):aZ (bL l) [V.str x]=bL (l++[x]):=by unfold aZ bL;simp
def tlT (s c:List UInt8):List UInt8:=s.dropWhile fun b=>c.contains b
def irI (s:List UInt8) (r:Int):Int:=if r<128 then BO s r else -1
noncomputable def hByS:aF:=fun a=>match a with|[.str s,.int .u8 c]=>some (true,.int .i64 (BO s c))|_=>none
noncomputable def hTlS:aF:=fun a=>match a with|[.str s,.str c]=>some (ak (ai (aj c) 1000) (lF c),.str (tlT s c))|_=>none
noncomputable def hRnS:aF:=fun a=>match a with|[.str s,.int .i32 r]=>some (ak (ai 0 r) (ak (lF s) (ai (aj s) 1000)),.int .i64 (irI s r))|_=>none
noncomputable def hS2:List (Nat×aF):=(43,hByS)::(119,hTlS)::(115,hRnS)::[]
theorem hByS_ok (s:List UInt8) (c:Int) (hc:true=true):af hE 43 [.str s,.int .u8 c] (.int .i64 (BO s c)):=by
 refine bU fun G w vs hG hg hp=>?_
 obtain⟨x,y,rfl,hx,hy⟩:=kJ hp;unfold aN at hx hy;subst hx;subst hy;refine(Go.Proofs.Tryz.strings_IndexByte ⟨s.toArray⟩ c w).mono ?_;rintro e w' ⟨rfl,rfl⟩;exact⟨_,rfl,Below.refl _ _,uY _ _⟩
theorem hTlS_ok (s c:List UInt8) (hc:ak (ai (aj c) 1000) (lF c)=true):af hE 119 [.str s,.str c] (.str (tlT s c)):=by
 obtain⟨h1,h2⟩:=aY hc;rw[aA,aB] at h1;refine bU fun G w vs hG hg hp=>?_
 obtain⟨x,y,rfl,hx,hy⟩:=kJ hp;unfold aN at hx hy;subst hx;subst hy;refine(Go.Proofs.Any.strings_TrimLeft_laid Go.Proofs.Tryz.lays161 (by kernel_rfl) ⟨s.toArray⟩ ⟨c.toArray⟩ w (by rw[ba_sz];omega) (fun j b hb=>?_)).mono ?_
 ·have h3:(c.all fun c=>decide (c.toNat<128))=true:=h2
  exact of_decide_eq_true (List.all_eq_true.1 h3 b (List.mem_of_getElem? hb))
 ·rintro e w' ⟨rfl,hb⟩
  exact⟨_,rfl,hb,J4 _⟩
theorem hRnS_ok (s:List UInt8) (r:Int) (hc:ak (ai 0 r) (ak (lF s) (ai (aj s) 1000))=true):af hE 115 [.str s,.int .i32 r] (.int .i64 (irI s r)):=by
 obtain⟨h1,h2⟩:=aY hc;obtain⟨h2,h4⟩:=aY h2;rw[aA] at h1 h4;rw[aB] at h4;refine bU fun G w vs hG hg hp=>?_
 obtain⟨x,y,rfl,hx,hy⟩:=kJ hp;unfold aN at hx hy;subst hx;subst hy;unfold irI;by_cases hr:r<128
 ·rw[if_pos hr]
  refine(Go.Proofs.Tryz.strings_IndexRune_ascii ⟨s.toArray⟩ r w h1 hr).mono ?_;rintro e w' ⟨rfl,rfl⟩;exact⟨_,rfl,Below.refl _ _,uY _ _⟩
 ·rw[if_neg hr]
  refine(Nt.AnyS.rT Go.Proofs.Tryz.Sd ⟨s.toArray⟩ r w (by omega) (fun b hb=>?_) (by rw[ba_sz];omega)).mono ?_
  ·have h3:(s.all fun c=>decide (c.toNat<128))=true:=h2
   exact of_decide_eq_true (List.all_eq_true.1 h3 b hb)
  ·rintro e w' ⟨rfl,hb⟩
   exact⟨_,rfl,hb,uY _ _⟩
theorem hS2_ok:bq hE hS2:=by
 unfold hS2;refine bq.cons (fun args r h=>?_) (bq.cons (fun args r h=>?_) (bq.cons (fun args r h=>?_) bq.nil));all_goals (revert h;intro h;first|unfold hByS at h|unfold hTlS at h|unfold hRnS at h)
 all_goals (split at h;rotate_left; · cases h)
 all_goals (simp only[Option.some.injEq,Prod.mk.injEq] at h;obtain⟨hc,rfl⟩:=h)
 ·exact hByS_ok _ _ rfl
 ·exact hTlS_ok _ _ hc
 ·exact hRnS_ok _ _ hc
noncomputable def TP:V→Bool| .nilp=>true| .box k off=>k==HL&&off==0|_=>false
noncomputable def Xk:V→Bool| .nilsl=>true| .sl e sh (some L) xs=>e==5&&Kd.qO [.int .u8] sh&&L==1000001002|_=>false
noncomputable def bufS:V→List UInt8| .sl _ _ _ xs=>gM xs|_=>[]
noncomputable def bufN:V→V| .sl e sh _ xs=> .sl e sh none xs|v=>v
noncomputable def hCpS:aF:=fun a=>match a with|[.bxa 0 [x,b]]=>some (TP x,.out false (.tup []) [[.box HL 0,b]])|_=>none
noncomputable def hStS:aF:=fun a=>match a with|[.bxa 0 [x,b]]=>some (ak (TP x) (Xk b),.out false (.str (bufS b)) [[x,bufN b]])|_=>none
noncomputable def hS3:List (Nat×aF):=(GX+68,hCpS)::(GX+34,hStS)::hS2
noncomputable def zh (F:Nat) (ns:List Nat) (n:Nat) (x3:Bool) (aX:List UInt8) (K:V→Option V):Option V:=
 Di hE hS3 F 3 105 [V.bxa 0 []] [1,1,1,1,0,0] ns K n (mH 71 [(0,V.box 1000000000 0),(2,V.str []),(3,V.bool x3),(4,V.box 4 0)] [(4,[V.nilp,V.nilsl]),(1000000000,[V.str aX])])
noncomputable def kD (F:Nat) (ns:List Nat) (n:Nat) (x3:Bool) (jq:List V) (aX:List UInt8) (K:V→Option V):Option V:=
 Di hE hS3 F 3 105 [V.bxa 0 []] [1,1,1,1,0,0] ns K n (mH 71 [(0,V.box 1000000000 0),(2,V.str []),(3,V.bool x3),(4,V.box 4 0)] [(4,[V.box 4 0,V.sl 5 [Kd.int .u8] (some 50001) jq]),(1000000000,[V.str aX])])
theorem Vz (F:Nat) (s:List UInt8) (K:V→Option V):
 cr hE (bV hE hS3 F 3) F 105 [V.bxa 0 [V.str s]] K=
 let B:=tlT s [32,9];let A:=K (V.out false (V.tup [V.str [],V.bool false]) [[V.str B]]);sel (ak (ai (aj [32,9]) 1000) (lF [32,9])) (sel (seq B []) A (sel (ak (ai 0 0) (aT 0 (aj B))) (sel (ieq (sat B 0) 35) A (zh F [] F false B K)) none)) none:=by kernel_rfl
theorem wF (F n:Nat) (x3:Bool) (aX:List UInt8) (K:V→Option V):
 zh F [] (n+1) x3 aX K=
 let B:=K (V.out false (V.tup [V.str [],V.bool true]) [[V.str aX]]);let D:=sat aX 0;let G:=aj aX;let A:=dF aX 1 G;let C:=ak (ai 0 0) (aT 0 G);let E:=BO A 34;let H:=fB .i64 E 1;let I:=aJ (dF A 0 E);sel (aG (seq aX [])) (sel C (sel (aG (ieq D 35)) (sel C (sel (ak (ai 0 (pq .i32 D)) (ak (lF [32,9]) (ai (aj [32,9]) 1000))) (sel (aG (ai 0 (irI [32,9] (pq .i32 D)))) (sel C (sel (ak (ai 0 1) (ai 1 G)) (sel (ieq D 34) (sel (aT E 0) (K (V.out true (V.iface 159 (V.agg [V.int .i64 8])) [[V.str A]])) (sel (ak (ai 0 E) (ai E (aj A))) (sel (ak (ai 0 H) (ai H (aj A))) (sel (vQ I) (kD F [] n x3 I (dF A H (aj A)) K) none) none) none)) (kD F [] n x3 [V.int .u8 D] A K)) none) none) B) none) none) B) none) B:=by kernel_rfl
theorem wG (F n:Nat) (x3:Bool) (jq:List V) (aX:List UInt8) (K:V→Option V):
 kD F [] (n+1) x3 jq aX K=
 let B:=K (V.out false (V.tup [V.str (gM jq),V.bool true]) [[V.str aX]]);let C:=sat aX 0;let G:=aj aX;let A:=dF aX 1 G;let D:=ak (ai 0 0) (aT 0 G);let E:=BO A 34;let H:=fB .i64 E 1;let I:=aJ (dF A 0 E);sel (aG (seq aX [])) (sel D (sel (aG (ieq C 35)) (sel D (sel (ak (ai 0 (pq .i32 C)) (ak (lF [32,9]) (ai (aj [32,9]) 1000))) (sel (aG (ai 0 (irI [32,9] (pq .i32 C)))) (sel D (sel (ak (ai 0 1) (ai 1 G)) (sel (ieq C 34) (sel (aT E 0) (K (V.out true (V.iface 159 (V.agg [V.int .i64 8])) [[V.str A]])) (sel (ak (ai 0 E) (ai E (aj A))) (sel (ak (ai 0 H) (ai H (aj A))) (sel (fI jq I) (kD F [] n x3 (aZ jq I) (dF A H (aj A)) K) none) none) none)) (sel (fI jq [V.int .u8 C]) (kD F [] n x3 (aZ jq [V.int .u8 C]) A K) none)) none) none) B) none) none) B) none) B:=by kernel_rfl
theorem MZ {x:V} (h:TP x=true):x=.nilp∨x=.box HL 0:=by
 unfold TP at h;split at h
 ·exact .inl rfl
 ·rename_i k off
  rw[Bool.and_eq_true,beq_iff_eq,beq_iff_eq] at h;rw[h.1,h.2];exact .inr rfl
 ·cases h
theorem hCpS_ok (x b:V) (hc:TP x=true):rP hE 68 [.bxa 0 [x,b]] (.out false (.tup []) [[.box HL 0,b]]):=
 rP.out (SE rfl x b [] (MZ hc))
theorem hStS_ok (x b:V) (hc:ak (TP x) (Xk b)=true):rP hE 34 [.bxa 0 [x,b]] (.out false (.str (bufS b)) [[x,bufN b]]):=by
 obtain⟨h1,h2⟩:=aY hc;refine rP.out ?_;unfold Xk at h2;split at h2
 ·exact wH rfl x []
 ·rename_i e sh L xs
  rw[Bool.and_eq_true,Bool.and_eq_true,beq_iff_eq,beq_iff_eq] at h2;obtain⟨⟨rfl,h3⟩,rfl⟩:=h2;have h3:=Kd.bK _ _ h3;subst h3;exact IW rfl x [] (by rcases MZ h1 with rfl|rfl<;>rfl) rfl xs
 ·cases h2
theorem PL:bq hE hS3:=by
 unfold hS3;refine bq.tF (fun args r h=>?_) (bq.tF (fun args r h=>?_) hS2_ok);all_goals (revert h;intro h;first|unfold hCpS at h|unfold hStS at h)
 all_goals (split at h;rotate_left; · cases h)
 all_goals (simp only[Option.some.injEq,Prod.mk.injEq] at h;obtain⟨hc,rfl⟩:=h)
 ·exact hCpS_ok _ _ hc
 ·exact hStS_ok _ _ hc
theorem lc_map (l:List UInt8) (c:UInt8):aZ (aJ l) [V.int .u8 (c.toNat:Int)]=aJ (l++[c]):=by unfold aZ aJ;simp
theorem Yi (l:List UInt8):gM (aJ l)=l:=by
 unfold gM aJ;rw[List.map_map];exact(List.map_congr_left fun c _=>by show UInt8.ofNat ((c.toNat:Int)).toNat=c;simp).trans (List.map_id l)
theorem Km: ∀(t:List UInt8),Lib.indexByte t 34=if t.contains 34=true then((upTo t).length:Int) else -1
 |[]=>rfl
 |b::l=>by
  rw[ib_cons,Km l]
  cases hb:b==34 with
  |true=>
   rw[beq_iff_eq] at hb;subst hb;rfl
  |false=>
   have hc:(b::l).contains 34=l.contains 34:=by
    rw[List.contains_cons];have:((34:UInt8)==b)=false:=by rw[beq_eq_false_iff_ne] at hb⊢;exact fun e=>hb e.symm
    rw[this,Bool.false_or]
   have hu:upTo (b::l)=b::upTo l:=by unfold upTo;rw[List.takeWhile_cons,if_pos (by simpa using hb)]
   rw[hc,hu,if_neg (by decide)]
   cases hq:l.contains 34 with
   |true=>
    rw[if_pos rfl,if_pos rfl];have: ¬((((upTo l).length:Int)== -1)=true):=by rw[beq_iff_eq];omega
    rw[if_neg this];simp
   |false=>rfl
theorem IX (t:List UInt8):t.take (upTo t).length=upTo t:=by
 unfold upTo;have: ∀l:List UInt8,l.take (l.takeWhile fun c=>c != 34).length=l.takeWhile fun c=>c != 34:=by
  intro l;induction l with
  |nil=>rfl
  |cons a l ih=>
   rw[List.takeWhile_cons];split
   ·rw[List.length_cons,List.take_succ_cons,ih]
   ·rfl
 exact this t
theorem M0 (c:UInt8):ai 0 (irI [32,9] (pq .i32 ((c.toNat:Nat):Int)))=(c==9||c==32):=by
 obtain⟨⟨m⟩⟩:=c;revert m;decide+kernel
theorem SF (c:UInt8):ai 0 (pq .i32 ((c.toNat:Nat):Int))=true:=by
 obtain⟨⟨m⟩⟩:=c;revert m;decide+kernel
def yF (p:Bool×List UInt8×List UInt8):V:=sel p.1 (V.out true (V.iface 159 (V.agg [V.int .i64 8])) [[V.str p.2.2]]) (V.out false (V.tup [V.str p.2.1,V.bool true]) [[V.str p.2.2]])
theorem tfN {α:Type} (x y:α):sel true x y=x∧sel false x y=y:=⟨rfl,rfl⟩
theorem Dt (F:Nat): ∀(n:Nat) (s f:List UInt8),s.length<n→s.length+f.length≤9000000→kD F [] n false (aJ f) s some=some (yF (vP n s f))
 |0,s,f,h,_=>by omega
 |n+1,[],f,h,hl=>by
  (rw[wG];(conv=>zeta);rw[Yi]);rfl
 |n+1,c::t,f,h,hl=>by
  have h:t.length<n:=by simpa using h
  have hl2:t.length+f.length+1≤9000000:=by simp at hl;omega
  have k1:aG (seq (c::t) [])=true:=rfl;have k2:ak (ai 0 0) (aT 0 (aj (c::t)))=true:=by rw[aH,aA,bf,aB];simp
  have k3:sat (c::t) 0=((c.toNat:Nat):Int):=rfl;have k4:ak (lF [32,9]) (ai (aj [32,9]) 1000)=true:=rfl;have k5:ak (ai 0 1) (ai 1 (aj (c::t)))=true:=by rw[aH,aA,aA,aB];simp;omega
  have k6:dF (c::t) 1 (aj (c::t))=t:=by
   unfold dF;rw[aB];have:((((c::t).length:Nat):Int).toNat-(1:Int).toNat)=t.length:=by simp
   rw[this];exact List.take_of_length_le (Nat.le_refl _)
  have e34:ieq ((c.toNat:Nat):Int) 34=(c==34):=u8q _ 34 34 rfl;have e35:ieq ((c.toNat:Nat):Int) 35=(c==35):=u8q _ 35 35 rfl;have kq:ak (ai 0 (pq .i32 ((c.toNat:Nat):Int))) true=true:=by rw[SF];rfl
  have ka:fI (aJ f) [V.int .u8 ((c.toNat:Nat):Int)]=true:=by rw[kU];unfold aJ;simp;omega
  (rw[wG];(conv=>zeta))
  simp only[k1,k2,k3,k4,k5,k6,e34,e35,kq,ka,M0,Yi,lc_map,tfN];unfold vP
  cases OY:c==35 with
  |true=>
   have hs:F8 c=true:=by unfold F8;rw[OY];simp
   rw[hs];rfl
  |false=>
   cases hb:(c==9||c==32) with
   |true=>
    have hs:F8 c=true:=by unfold F8;rw[hb,OY];rfl
    rw[hs];rfl
   |false=>
    have hs:F8 c=false:=by unfold F8;rw[hb,OY];rfl
    rw[hs]
    cases hq:c==34 with
    |false=>
     show kD F [] n false (aJ (f++[c])) t some=_;rw[Dt F n t (f++[c]) h (by simp;omega)];rfl
    |true=>
     have hi:BO t 34=if t.contains 34=true then((upTo t).length:Int) else -1:=Km t
     cases hm:t.contains 34 with
     |false=>
      rw[hm,if_neg (by decide)] at hi;rw[hi];rfl
     |true=>
      rw[hm,if_pos rfl] at hi;obtain⟨b1,b2⟩:=o7 t hm;have j1:aT ((upTo t).length:Int) 0=false:=bB (by omega);have j2:ak (ai 0 ((upTo t).length:Int)) (ai ((upTo t).length:Int) (aj t))=true:=by rw[aH,aA,aA,aB];omega
      have j3:fB .i64 ((upTo t).length:Int) 1=(((upTo t).length+1:Nat):Int):=by rw[iO (by omega)];omega
      have j4:ak (ai 0 (((upTo t).length+1:Nat):Int)) (ai (((upTo t).length+1:Nat):Int) (aj t))=true:=by rw[aH,aA,aA,aB];omega
      have j5:dF t 0 ((upTo t).length:Int)=upTo t:=by
       unfold dF;simp only[Int.toNat_natCast,Int.toNat_zero,List.drop_zero,Nat.sub_zero];exact IX t
      have j6:dF t (((upTo t).length+1:Nat):Int) (aj t)=behind t:=by
       unfold dF behind;rw[aB,Int.toNat_natCast,Int.toNat_natCast];exact List.take_of_length_le (by simp)
      have j7:fI (aJ f) (aJ (upTo t))=true:=by rw[kU];unfold aJ;simp;omega
      have j8:aZ (aJ f) (aJ (upTo t))=aJ (f++upTo t):=by unfold aZ aJ;simp
      simp only[hi,j1,j2,j3,j4,j5,j6,j7,j8];show kD F [] n false (aJ (f++upTo t)) (behind t) some=_;rw[Dt F n (behind t) (f++upTo t) (by omega) (by simp;omega)];rfl
theorem ZQ (F n:Nat) (s:List UInt8) (h:s.length<n+1) (hl:s.length≤9000000):zh F [] (n+1) false s some=some (yF (vP (n+1) s [])):=by
 cases s with
 |nil=>(rw[wF];(conv=>zeta));rfl
 |cons c t=>
  have h:t.length<n:=by simpa using h
  have hl2:t.length+1≤9000000:=by simpa using hl
  have k1:aG (seq (c::t) [])=true:=rfl;have k2:ak (ai 0 0) (aT 0 (aj (c::t)))=true:=by rw[aH,aA,bf,aB];simp
  have k3:sat (c::t) 0=((c.toNat:Nat):Int):=rfl;have k4:ak (lF [32,9]) (ai (aj [32,9]) 1000)=true:=rfl;have k5:ak (ai 0 1) (ai 1 (aj (c::t)))=true:=by rw[aH,aA,aA,aB];simp;omega
  have k6:dF (c::t) 1 (aj (c::t))=t:=by
   unfold dF;rw[aB];have:((((c::t).length:Nat):Int).toNat-(1:Int).toNat)=t.length:=by simp
   rw[this];exact List.take_of_length_le (Nat.le_refl _)
  have e34:ieq ((c.toNat:Nat):Int) 34=(c==34):=u8q _ 34 34 rfl;have e35:ieq ((c.toNat:Nat):Int) 35=(c==35):=u8q _ 35 35 rfl;have kq:ak (ai 0 (pq .i32 ((c.toNat:Nat):Int))) true=true:=by rw[SF];rfl
  (rw[wF];(conv=>zeta))
  simp only[k1,k2,k3,k4,k5,k6,e34,e35,kq,M0,tfN];unfold vP
  cases OY:c==35 with
  |true=>
   have hs:F8 c=true:=by unfold F8;rw[OY];simp
   rw[hs];rfl
  |false=>
   cases hb:(c==9||c==32) with
   |true=>
    have hs:F8 c=true:=by unfold F8;rw[hb,OY];rfl
    rw[hs];rfl
   |false=>
    have hs:F8 c=false:=by unfold F8;rw[hb,OY];rfl
    rw[hs]
    cases hq:c==34 with
    |false=>
     show kD F [] n false (aJ [c]) t some=_;rw[Dt F n t [c] h (by simp;omega)];rfl
    |true=>
     have hi:BO t 34=if t.contains 34=true then((upTo t).length:Int) else -1:=Km t
     cases hm:t.contains 34 with
     |false=>
      rw[hm,if_neg (by decide)] at hi;rw[hi];rfl
     |true=>
      rw[hm,if_pos rfl] at hi;obtain⟨b1,b2⟩:=o7 t hm;have j1:aT ((upTo t).length:Int) 0=false:=bB (by omega);have j2:ak (ai 0 ((upTo t).length:Int)) (ai ((upTo t).length:Int) (aj t))=true:=by rw[aH,aA,aA,aB];omega
      have j3:fB .i64 ((upTo t).length:Int) 1=(((upTo t).length+1:Nat):Int):=by rw[iO (by omega)];omega
      have j4:ak (ai 0 (((upTo t).length+1:Nat):Int)) (ai (((upTo t).length+1:Nat):Int) (aj t))=true:=by rw[aH,aA,aA,aB];omega
      have j5:dF t 0 ((upTo t).length:Int)=upTo t:=by
       unfold dF;simp only[Int.toNat_natCast,Int.toNat_zero,List.drop_zero,Nat.sub_zero];exact IX t
      have j6:dF t (((upTo t).length+1:Nat):Int) (aj t)=behind t:=by
       unfold dF behind;rw[aB,Int.toNat_natCast,Int.toNat_natCast];exact List.take_of_length_le (by simp)
      have j7:vQ (aJ (upTo t))=true:=by unfold vQ aJ;rw[Dn];simp;omega
      simp only[hi,j1,j2,j3,j4,j5,j6,j7];show kD F [] n false (aJ (upTo t)) (behind t) some=_;rw[Dt F n (behind t) (upTo t) (by omega) (by omega)];rfl
theorem hNxS_ok (s:List UInt8) (hc:ai (aj s) 4000000=true):rP hE 105 [.bxa 0 [.str s]] (.o9 (Jb s) (.out true (.iface 159 (.agg [.int .i64 8])) [[.str (vF s)]]) (.out false (.tup [.str (Jc s),.bool (zZ s)]) [[.str (vF s)]])):=by
 have hl:=len_h hc;have hT:=Kl s;have hx:cr hE (bV hE hS3 ((zY s).length+1) 3) ((zY s).length+1) 105 [V.bxa 0 [V.str s]] some=some (sel (zZ s) (yF (nd s)) (V.out false (V.tup [V.str [],V.bool false]) [[V.str (zY s)]])):=by
  (rw[Vz];(conv=>zeta))
  have k0:ak (ai (aj [32,9]) 1000) (lF [32,9])=true:=rfl;have kt:tlT s [32,9]=zY s:=rfl;rw[k0,kt];unfold zZ nd
  cases h:zY s with
  |nil=>rfl
  |cons c t=>
   rw[h] at hT;have k2:ak (ai 0 0) (aT 0 (aj (c::t)))=true:=by rw[aH,aA,bf,aB];simp
   have k3:ieq (sat (c::t) 0) 35=(c==35):=u8q _ 35 35 rfl;have kf:zh ((c::t).length+1) [] ((c::t).length+1) false (c::t) some=some (yF (vP ((c::t).length+1) (c::t) [])):=ZQ _ _ (c::t) (by omega) (by omega);rw[k2,k3,kf];show sel (c==35) _ (some (yF (vP ((c::t).length+1) (c::t) [])))=some (sel (!(c==35)) (yF (vP ((c::t).length+1) (c::t) [])) _);generalize yF (vP ((c::t).length+1) (c::t) [])=z
   cases c==35<;>rfl
 refine rP.o9 (fun hb=>rP.out (mq Xj PL ((zY s).length+1) 3 ?_)) (fun hb=>rP.out (mq Xj PL ((zY s).length+1) 3 ?_))
 ·rw[hx]
  unfold Jb at hb;rw[Bool.and_eq_true] at hb;unfold vF yF;rw[hb.1,hb.2];rfl
 ·rw[hx]
  unfold Jb at hb;unfold vF Jc yF
  cases hm:zZ s with
  |false=>rfl
  |true=>
   rw[hm] at hb;have hb:(nd s).1=false:=hb;rw[hb];rfl
def strV (x:V):List UInt8:=aR (ax x 0)
noncomputable def hNxS:aF:=fun a=>match a with|[.bxa 0 [.str s]]=>some (ai (aj s) 4000000,.o9 (Jb s) (.out true (.iface 159 (.agg [.int .i64 8])) [[.str (vF s)]]) (.out false (.tup [.str (Jc s),.bool (zZ s)]) [[.str (vF s)]]))|_=>none
noncomputable def hS4:List (Nat×aF):=(GX+105,hNxS)::hS3
noncomputable def PN (F:Nat) (ns:List Nat) (n:Nat) (x0 x5:List UInt8) (x6:Bool) (gF:List UInt8) (d9:Int) (K:V→Option V):Option V:=
 RJ hE hS4 F 3 87 104 [V.box 1000005000 0,V.box 1000005001 0] [] [1,1,1,0,1,0] ns K n (mH 29 [(0,V.str x0),(2,V.box 1000005000 0),(3,V.box 1000005001 0),(4,V.box 4 0),(5,V.str x5),(6,V.bool x6)] [(4,[V.str gF]),(1000005001,[V.int .i64 d9]),(1000005000,[V.nilsl])])
noncomputable def xw (F:Nat) (ns:List Nat) (n:Nat) (x0 x5:List UInt8) (x6:Bool) (gF:List UInt8) (d9:Int) (gQ:List V) (K:V→Option V):Option V:=
 RJ hE hS4 F 3 87 104 [V.box 1000005000 0,V.box 1000005001 0] [] [1,1,1,0,1,0] ns K n (mH 29 [(0,V.str x0),(2,V.box 1000005000 0),(3,V.box 1000005001 0),(4,V.box 4 0),(5,V.str x5),(6,V.bool x6)] [(4,[V.str gF]),(1000005001,[V.int .i64 d9]),(1000005000,[V.sl 9 [Kd.str] (some 50010000) gQ])])
theorem fOf_top (F:Nat) (s:List UInt8) (K:V→Option V):
 cr hE (bV hE hS4 F 3) F 87 [V.str s] K=
 sel (ai (aj s) 4000000) (sel (Jb s) (K (V.tup [V.nilsl,V.int .i64 8])) (PN F [] F s (Jc s) (zZ s) (vF s) 0 K)) none:=by kernel_rfl
theorem Oh (F n:Nat) (x0 x5:List UInt8) (x6:Bool) (gF:List UInt8) (d9:Int) (K:V→Option V):
 PN F [] (n+1) x0 x5 x6 gF d9 K=
 sel x6 (sel (ai (aj gF) 4000000) (sel (Jb gF) (K (V.tup [V.nilsl,V.int .i64 8])) (xw F [] n x0 (Jc gF) (zZ gF) (vF gF) d9 [V.str x5] K)) none) (K (V.tup [V.nilsl,V.int .i64 0])):=by kernel_rfl
theorem Oi (F n:Nat) (x0 x5:List UInt8) (x6:Bool) (gF:List UInt8) (d9:Int) (gQ:List V) (K:V→Option V):
 xw F [] (n+1) x0 x5 x6 gF d9 gQ K=
 sel x6 (sel (fI gQ [V.str x5]) (sel (ai (aj gF) 4000000) (sel (Jb gF) (K (V.tup [V.nilsl,V.int .i64 8])) (xw F [] n x0 (Jc gF) (zZ gF) (vF gF) d9 (aZ gQ [V.str x5]) K)) none) none) (sel (aT 16 (av gQ)) (K (V.tup [V.nilsl,V.int .i64 6])) (K (V.tup [V.sl 9 [Kd.str] none gQ,V.int .i64 0]))):=by kernel_rfl
theorem hS4_ok:bq hE hS4:=by
 unfold hS4;refine bq.tF (fun args r h=>?_) PL;all_goals (revert h;intro h;first|unfold hNxS at h)
 all_goals (split at h;rotate_left; · cases h)
 all_goals (simp only[Option.some.injEq,Prod.mk.injEq] at h;obtain⟨hc,rfl⟩:=h)
 ·exact hNxS_ok _ hc
def nilV (l:List V):V:=match l with|[]=> .nilsl|l=> .sl 9 [.str] none l
def TQ (p:List (List UInt8)×Int):V:=.tup [nilV (bL p.1),.int .i64 p.2]
theorem fof_fin (out:List (List UInt8)) (h:out≠[]):sel (aT 16 (av (bL out))) (some (V.tup [V.nilsl,V.int .i64 6])) (some (V.tup [V.sl 9 [Kd.str] none (bL out),V.int .i64 0]))=some (TQ (Gg out)):=by
 have e:av (bL out)=(out.length:Int):=by unfold bL;rw[aD,List.length_map]
 unfold Gg;rw[e];by_cases h16:16<out.length
 ·rw[bD (by omega),if_pos h16];rfl
 ·rw[bB (by omega),if_neg h16]
  cases out with
  |nil=>exact absurd rfl h
  |cons a l=>rfl
theorem SG (F:Nat) (s0:List UInt8) (w:Int): ∀(n:Nat) (s f:List UInt8) (m:Bool) (out:List (List UInt8)),s.length≤4000000→out≠[]→(m=true→s.length+1<n)→0<n→(m=true→out.length+s.length≤9000000)→
  xw F [] n s0 f m s w (bL out) some=some (TQ (sel m (qN s (out++[f]) [] false false) (Gg out)))
 |0,s,f,m,out,_,_,_,h,_=>by omega
 |n+1,s,f,m,out,hl,ho,hn,_,hb=>by
  rw[Oi]
  cases m with
  |false=>exact fof_fin out ho
  |true=>
   have hn:=hn rfl;have hb:=hb rfl;have k1:fI (bL out) [V.str f]=true:=by rw[kU];unfold bL;simp;omega
   have k2:ai (aj s) 4000000=true:=bF (by rw[aB];omega);obtain⟨l1,l2,l3⟩:=PK s;rw[k1,k2,Vy];show sel (Jb s) (some (V.tup [V.nilsl,V.int .i64 8])) (xw F [] n s0 (Jc s) (zZ s) (vF s) w (bL (out++[f])) some)=some (TQ (qN s (out++[f]) [] false false));rw[of_next]
   cases hB:Jb s with
   |true=>
    have hM:zZ s=true:=by unfold Jb at hB;rw[Bool.and_eq_true] at hB;exact hB.1
    rw[hM];rfl
   |false=>
    have ih:=SG F s0 w n (vF s) (Jc s) (zZ s) (out++[f]) (by omega) (by simp) (fun hM=>by have:=l3 hM hB;omega) (by omega) (fun hM=>by have:=l3 hM hB;simp only[List.length_append,List.length_cons,List.length_nil];omega);show xw F [] n s0 (Jc s) (zZ s) (vF s) w (bL (out++[f])) some=_;rw[ih];rfl
theorem fOf_ev (s:List UInt8) (hl:s.length≤4000000):af hE 87 [.str s] (TQ (Wh s)):=by
 refine ah Xj hS4_ok (s.length+5) 3 ?_;rw[fOf_top];have k2:ai (aj s) 4000000=true:=bF (by rw[aB];omega);obtain⟨l1,l2,l3⟩:=PK s;obtain⟨m1,m2,m3⟩:=PK (vF s);have k3:ai (aj (vF s)) 4000000=true:=bF (by rw[aB];omega);rw[k2];unfold Wh;rw[of_next];show sel (Jb s) (some (V.tup [V.nilsl,V.int .i64 8])) (PN (s.length+5) [] (s.length+4+1) s (Jc s) (zZ s) (vF s) 0 some)=_
 cases hB:Jb s with
 |true=>
  have hM:zZ s=true:=by unfold Jb at hB;rw[Bool.and_eq_true] at hB;exact hB.1
  rw[hM];rfl
 |false=>
  rw[Oh,k3]
  cases hM:zZ s with
  |false=>rfl
  |true=>
   have l3:=l3 hM hB;show sel (Jb (vF s)) (some (V.tup [V.nilsl,V.int .i64 8])) (xw (s.length+5) [] (s.length+4) s (Jc (vF s)) (zZ (vF s)) (vF (vF s)) 0 (bL [Jc s]) some)=some (TQ (qN (vF s) [Jc s] [] false false));rw[of_next]
   cases hB2:Jb (vF s) with
   |true=>
    have hM2:zZ (vF s)=true:=by unfold Jb at hB2;rw[Bool.and_eq_true] at hB2;exact hB2.1
    rw[hM2];rfl
   |false=>
    rw[SG (s.length+5) s 0 (s.length+4) (vF (vF s)) (Jc (vF s)) (zZ (vF s)) [Jc s] (by omega) (by simp) (fun h=>by have:=m3 h hB2;omega) (by omega) (fun _=>by
     show 1+_≤_;omega)]
    rfl
def ssV (xs:List V):List (List UInt8):=xs.map strV
def totL (l:List (List UInt8)):Nat:=(l.map List.length).sum
def jnC (xs:List V):Bool:=decide (totL (ssV xs)≤3000000)
def jnT (xs:List V):List UInt8:=(joinP (ssV xs)).1
def jnW (xs:List V):Int:=(joinP (ssV xs)).2
def bX (s:List UInt8):List V:=bL (Wh s).1
def Le (s:List UInt8):Int:=(Wh s).2
noncomputable def hOfS:aF:=fun a=>match a with|[.str s]=>some (ai (aj s) 4000000,.tup [.sl 9 [.str] none (bX s),.int .i64 (Le s)])|_=>none
noncomputable def hJnS:aF:=fun a=>match a with|[.sl 9 [.str] none xs]=>some (jnC xs,.tup [.str (jnT xs),.int .i64 (jnW xs)])|_=>none
noncomputable def Oz:List (Nat×aF):=(87,hOfS)::(62,hJnS)::(82,hTextS)::hS0
noncomputable def hL:List (Nat×aF):=Oz
theorem hOfS_ok (s:List UInt8) (hc:ai (aj s) 4000000=true):af hE 87 [.str s] (.tup [.sl 9 [.str] none (bX s),.int .i64 (Le s)]):=by
 have h:=fOf_ev s (len_h hc);unfold TQ at h;unfold bX Le
 cases e:bL (Wh s).1 with
 |nil=>rw[e] at h;exact KR h
 |cons x l=>rw[e] at h;exact h
end Nt.Ev.YtplklcejbmfgdaaGreatDoor
