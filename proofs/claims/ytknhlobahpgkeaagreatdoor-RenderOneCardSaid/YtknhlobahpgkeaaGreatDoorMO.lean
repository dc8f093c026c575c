/-
  Fields of a line: the plain law. Fields of a line, one at a time: the plain law.
-/
import Derived.Test.YtknhlobahpgkeaaGreatDoorMD
import Derived.Test.YtknhlobahpgkeaaGreatDoorMS
import Derived.Test.YtknhlobahpgkeaaGreatDoorMP
set_option linter.all false
set_option maxRecDepth 100000
namespace Nt.Fld
open Go Nt.Ev
def uQ (out:List (af)):List (af)×Int:=if 16<out.length then([],6) else(out,0)
def kQ (op:Bool) (out:List (af)) (f:af):List (af):=sel op (out++[f]) out
def nk:af→List (af)→af→Bool→Bool→List (af)×Int
 |[],out,f,op,a=>sel a ([],8) (uQ (kQ op out f))
 |c::t,out,f,op,a=>sel a
  (sel (c==34) (nk t out f op false) (nk t out (f++[c]) op true))
  (sel (c==35) (uQ (kQ op out f)) (sel (c==9) (nk t (kQ op out f) [] false false) (sel (c==32) (nk t (kQ op out f) [] false false)
   (sel (c==34) (nk t out f true true) (nk t out (f++[c]) true false)))))
def vo (s:af):List (af)×Int:=nk s [] [] false false
def wO (c:UInt8):Bool:=c==9||c==32||c==35
def oq (s:af):af×Int:=if s.contains 34=true then([],8) else if s=[]∨s.any wO=true then([34]++s++[34],0) else(s,0)
def bU:List (af)→af×Int
 |[]=>([],0)
 |x::l=>if(oq x).2=0 then(if(bU l).2=0 then([32]++(oq x).1++(bU l).1,0) else([],(bU l).2)) else([],(oq x).2)
def dZ (l:List (af)):af×Int:=if 16<l.length then([],6) else if(bU l).2=0 then((bU l).1.drop 1,0) else([],(bU l).2)
theorem tx_err (x:af):(oq x).2=0∨(oq x).2=8:=by
 unfold oq
 (repeat' split)<;>simp
theorem tx_ok {x:af} (h:(oq x).2=0):x.contains 34=false:=by
 unfold oq at h
 cases e:x.contains 34 with
 |false=>rfl
 |true=>rw[e,if_pos rfl] at h;cases h
theorem DK (a:af) (out:List (af)) (op:Bool): ∀(x f:af),x.contains 34=false→nk (x++a) out f op true=nk a out (f++x) op true
 |[],f,_=>by simp
 |c::x,f,h=>by
  rw[Yw,EY] at h;have b:(c==34)=false:=by rw[uE] at h⊢;exact fun e=>h.1 e.symm
  show sel true (sel (c==34) _ (nk (x++a) out (f++[c]) op true)) _=_;rw[b];show nk (x++a) out (f++[c]) op true=_;rw[DK a out op x (f++[c]) h.2];simp
theorem Iu (a:af) (out:List (af)): ∀(x f:af) (op:Bool),x.contains 34=false→x.any wO=false→nk (x++a) out f op false=nk a out (f++x) (op|| !x.isEmpty) false
 |[],f,op,_,_=>by simp
 |c::x,f,op,h,d=>by
  rw[Yw,EY] at h;have g:(c==34)=false:=by rw[uE] at h⊢;exact fun e=>h.1 e.symm
  rw[abM,EY] at d;have b:=d.1;unfold wO at b;rw[EY,EY] at b;show sel false _ (sel (c==35) _ (sel (c==9) _ (sel (c==32) _ (sel (c==34) _ (nk (x++a) out (f++[c]) true false)))))=_;rw[b.2,b.1.1,b.1.2,g];show nk (x++a) out (f++[c]) true false=_;rw[Iu a out x (f++[c]) true h.2 d.2];simp
theorem Xz (x a:af) (out:List (af)) (h:(oq x).2=0):nk ((oq x).1++a) out [] false false=nk a out x true false:=by
 have d:=tx_ok h;unfold oq;rw[d,if_neg (by decide)];by_cases b:x=[]∨x.any wO=true
 ·rw[if_pos b]
  show nk ([34]++x++[34]++a) out [] false false=_;have e:[34]++x++[34]++a=34::(x++(34::a)):=by simp
  rw[e];show nk (x++(34::a)) out [] true true=_;rw[DK (34::a) out true x [] d];rfl
 rw[if_neg b];have f:x≠[]:=fun e=>b (.inl e)
 have g:x.any wO=false:=by
  cases e:x.any wO with
  |false=>rfl
  |true=>exact absurd (.inr e) b
 show nk (x++a) out [] false false=_;rw[Iu a out x [] false d g]
 cases x with
 |nil=>exact absurd rfl f
 |cons c t=>rfl
def blankB (c:UInt8):Bool:=c==9||c==32
theorem of_blank (c:UInt8) (a:af) (out:List (af)) (f:af) (op:Bool) (h:blankB c=true):nk (c::a) out f op false=nk a (kQ op out f) [] false false:=by
 unfold blankB at h;have b:c=9∨c=32:=by simpa using h
 rcases b with rfl|rfl<;>rfl
theorem Iv (a:af): ∀(l:List (af)) (out:List (af)) (f:af),(bU l).2=0→nk ((bU l).1++a) out f true false=nk a (out++((f::l).dropLast)) ((f::l).getLast (by simp)) true false
 |[],out,f,_=>by simp[bU]
 |x::l,out,f,h=>by
  unfold bU at h⊢;by_cases c:(oq x).2=0
  ·rw[if_pos c] at h⊢
   by_cases b:(bU l).2=0
   ·rw[if_pos b]
    show nk ([32]++(oq x).1++(bU l).1++a) out f true false=_;have e:[32]++(oq x).1++(bU l).1++a=32::((oq x).1++((bU l).1++a)):=by simp
    rw[e,of_blank 32 _ out f true rfl,Xz x _ _ c];rw[Iv a l (kQ true out f) x b];have d:kQ true out f=out++[f]:=rfl;rw[d];congr 1;simp[List.dropLast_cons_of_ne_nil]
   rw[if_neg b] at h;exact absurd h b
  rw[if_neg c] at h;exact absurd h c
theorem join_ok {l:List (af)} (h:(dZ l).2=0):l.length≤16∧(bU l).2=0∧(dZ l).1=(bU l).1.drop 1:=by
 unfold dZ at h⊢;by_cases b:16<l.length
 ·rw[if_pos b] at h;cases h
 rw[if_neg b] at h⊢;by_cases a:(bU l).2=0
 ·rw[if_pos a];exact⟨by omega,a,rfl⟩
 rw[if_neg a] at h;exact absurd h a
theorem XA (l:List (af)) (h:(dZ l).2=0):vo (dZ l).1=(l,0):=by
 obtain⟨g,a,f⟩:=join_ok h;rw[f]
 cases l with
 |nil=>rfl
 |cons x l=>
  unfold bU at a⊢;by_cases b:(oq x).2=0
  ·rw[if_pos b] at a⊢
   by_cases c:(bU l).2=0
   ·rw[if_pos c]
    have e:([32]++(oq x).1++(bU l).1).drop 1=(oq x).1++(bU l).1:=by simp
    show nk (([32]++(oq x).1++(bU l).1).drop 1) [] [] false false=_;rw[e,Xz x _ _ b];have:=Iv [] l [] x c;rw[JQ] at this;rw[this];show uQ (kQ true ([]++(x::l).dropLast) ((x::l).getLast _))=_;have d:kQ true ([]++(x::l).dropLast) ((x::l).getLast (by simp))=x::l:=by show([]++(x::l).dropLast)++[(x::l).getLast _]=_;rw[Fx,acK]
    rw[d];unfold uQ;rw[if_neg (by omega)]
   rw[if_neg c] at a;exact absurd a c
  rw[if_neg b] at a;exact absurd a b
theorem Oh {x:af} (h:x.contains 34=false):(oq x).2=0:=by unfold oq;rw[h,if_neg (by decide)];split<;>rfl
theorem sw: ∀(l:List (af)),(∀x∈l,x.contains 34=false)→(bU l).2=0
 |[],_=>rfl
 |x::l,h=>by unfold bU;rw[if_pos (Oh (h x uY)),if_pos (sw l fun y a=>h y (wN _ a))]
def upTo (t:af):af:=t.takeWhile fun c=>c != 34
def behind (t:af):af:=t.drop ((upTo t).length+1)
def vv:Nat→af→af→Bool×af×af
 |0,s,f=>(false,f,s)
 |n+1,[],f=>(false,f,[])
 |n+1,c::t,f=>sel (wO c) (false,f,c::t) (sel (c==34) (sel (t.contains 34) (vv n (behind t) (f++upTo t)) (true,f,t)) (vv n t (f++[c])))
def Cv (s:af):af:=s.dropWhile fun b=>([32,9]:af).contains b
def nd (s:af):Bool×af×af:=vv ((Cv s).length+1) (Cv s) []
def Cw (s:af):Bool:=match Cv s with|[]=>false|c::_=>!(c==35)
def MC (s:af):Bool:=Cw s&&(nd s).1
def ME (s:af):af:=sel (Cw s) (nd s).2.1 []
def xN (s:af):af:=sel (Cw s) (nd s).2.2 (Cv s)
theorem zY: ∀t:af,t.contains 34=true→t=upTo t++34::behind t∧(upTo t).contains 34=false
 |[],h=>by cases h
 |c::t,h=>by
  by_cases a:c=34
  ·subst a
   exact⟨rfl,rfl⟩
  have g:t.contains 34=true:=by
   rw[Yw,JR] at h;rcases h with h|h
   ·rw[iM] at h;exact absurd h.symm a
   exact h
  obtain⟨f,j⟩:=zY t g;have i:(c != 34)=true:=by rw[acM];exact a
  have d:upTo (c::t)=c::upTo t:=by unfold upTo;rw[abg,if_pos i]
  have b:behind (c::t)=behind t:=by unfold behind;rw[d];rfl
  refine⟨by rw[d,b];simp only[Py];rw[←f],?_⟩;rw[d,Yw,j,ac6,uE];exact fun e=>a e.symm
theorem qc (t:af) (h:t.contains 34=true):(behind t).length<t.length∧(upTo t).length+(behind t).length+1=t.length:=by have:=congrArg List.length (zY t h).1;simp at this;omega
theorem XB: ∀(t:af) (out:List (af)) (f:af) (op:Bool),t.contains 34=false→nk t out f op true=([],8)
 |[],_,_,_,_=>rfl
 |c::t,out,f,op,h=>by
  rw[Yw,EY] at h;have a:(c==34)=false:=by rw[uE] at h⊢;exact fun e=>h.1 e.symm
  show sel true (sel (c==34) _ (nk t out (f++[c]) op true)) _=_;rw[a];exact XB t out (f++[c]) op h.2
theorem of_nd: ∀(n:Nat) (s f:af) (out:List (af)),s.length<n→nk s out f true false=sel (vv n s f).1 ([],8) (nk (vv n s f).2.2 (out++[(vv n s f).2.1]) [] false false)
 |0,s,f,out,h=>by omega
 |n+1,[],f,out,h=>rfl
 |n+1,c::t,f,out,h=>by
  have h:t.length<n:=by simpa using h
  unfold vv
  cases a:wO c with
  |true=>
   show _=nk (c::t) (out++[f]) [] false false;unfold wO at a;have l:(c=9∨c=32)∨c=35:=by simpa using a
   rcases l with(rfl|rfl)|rfl<;>rfl
  |false=>
   show _=sel (sel (c==34) (sel (t.contains 34) (vv n (behind t) (f++upTo t)) (true,f,t)) (vv n t (f++[c]))).1 ([],8) _;unfold wO at a;rw[EY,EY] at a;obtain⟨⟨i,e⟩,b⟩:=a;have g:nk (c::t) out f true false=sel (c==34) (nk t out f true true) (nk t out (f++[c]) true false):=by show sel false _ (sel (c==35) _ (sel (c==9) _ (sel (c==32) _ _)))=_;rw[i,e,b];rfl
   rw[g]
   cases o:c==34 with
   |false=>exact of_nd n t (f++[c]) out h
   |true=>
    cases d:t.contains 34 with
    |false=>exact XB t out f true d
    |true=>
     obtain⟨k,m⟩:=zY t d;have j:nk t out f true true=nk (behind t) out (f++upTo t) true false:=by have:=DK (34::behind t) out true (upTo t) f m;rw[←k] at this;rw[this];rfl
     show nk t out f true true=sel (vv n (behind t) (f++upTo t)).1 ([],8) _;rw[j];exact of_nd n (behind t) (f++upTo t) out (by have:=(qc t d).1;omega)
theorem G9: ∀(n:Nat) (s f:af),s.length<n→(vv n s f).2.2.length≤s.length∧(vv n s f).2.1.length≤f.length+s.length
 |0,s,f,h=>by omega
 |n+1,[],f,h=>⟨lg _,lg _⟩
 |n+1,c::t,f,h=>by
  have h:t.length<n:=by simpa using h
  unfold vv
  cases g:wO c with
  |true=>exact⟨lg _,by simp[sel]⟩
  |false=>
   cases e:c==34 with
   |false=>have:=G9 n t (f++[c]) h;show(vv n t (f++[c])).2.2.length≤_∧(vv n t (f++[c])).2.1.length≤_;simp only[iH,fI,qz] at this⊢;omega
   |true=>
    cases a:t.contains 34 with
    |false=>show t.length≤(c::t).length∧f.length≤f.length+(c::t).length;simp
    |true=>obtain⟨b,d⟩:=qc t a;have:=G9 n (behind t) (f++upTo t) (by omega);show(vv n (behind t) (f++upTo t)).2.2.length≤_∧(vv n (behind t) (f++upTo t)).2.1.length≤_;simp only[iH,fI] at this⊢;omega
theorem Oi: ∀s:af,(Cv s).length≤s.length:=fun s=>(List.dropWhile_sublist _).length_le
theorem XD: ∀(s:af) (out:List (af)),nk s out [] false false=nk (Cv s) out [] false false
 |[],out=>rfl
 |c::t,out=>by
  unfold Cv;rw[abm]
  cases a:([32,9]:af).contains c with
  |false=>rw[if_neg (by decide)]
  |true=>
   rw[if_pos rfl];have b:c=32∨c=9:=by simpa using a
   have:nk (c::t) out [] false false=nk t out [] false false:=by rcases b with rfl|rfl<;>rfl
   rw[this];exact XD t out
theorem Q0 {s t:af} {c:UInt8} (h:Cv s=c::t):(c==32)=false∧(c==9)=false:=by
 have e: ∀(l:af),Cv l=c::t→([32,9]:af).contains c=false:=by
  intro l;induction l with
  |nil=>intro h;cases h
  |cons a l d=>
   intro h;unfold Cv at h;rw[abm] at h
   cases b:([32,9]:af).contains a with
   |true=>rw[b,if_pos rfl] at h;exact d h
   |false=>rw[b,if_neg (by decide)] at h;simp only[Pf] at h;rw[←h.1];exact b
 have:=e s h;simpa using this
theorem of_next (s:af) (out:List (af)):nk s out [] false false=sel (Cw s) (sel (MC s) ([],8) (nk (xN s) (out++[ME s]) [] false false)) (uQ out):=by
 rw[XD];have f:=Oi s;unfold MC xN ME nd Cw
 cases h:Cv s with
 |nil=>rfl
 |cons c t=>
  rw[h] at f;simp only[h]
  cases a:c==35 with
  |true=>rw[iM] at a;subst a;rfl
  |false=>
   obtain⟨b,e⟩:=Q0 h;have d:nk (c::t) out [] false false=nk (c::t) out [] true false:=by show sel false _ (sel (c==35) _ (sel (c==9) _ (sel (c==32) _ (sel (c==34) _ _))))=sel false _ (sel (c==35) _ (sel (c==9) _ (sel (c==32) _ (sel (c==34) _ _))));rw[e,b,a];rfl
   rw[d];exact of_nd ((c::t).length+1) (c::t) [] out (by omega)
theorem Um (s:af):(xN s).length≤s.length∧(ME s).length≤s.length∧(Cw s=true→MC s=false→(xN s).length<s.length):=by
 have b:=Oi s;have i:=G9 ((Cv s).length+1) (Cv s) [] (by omega);refine⟨?_,?_,?_⟩
 ·unfold xN nd
  cases Cw s
  ·exact b
  show(vv ((Cv s).length+1) (Cv s) []).2.2.length≤_;omega
 ·unfold ME nd
  cases Cw s
  ·exact JS _
  show(vv ((Cv s).length+1) (Cv s) []).2.1.length≤_;have:=i.2;simp only[qz,S8] at this;omega
 intro a m;unfold xN nd;rw[a];show(vv ((Cv s).length+1) (Cv s) []).2.2.length<_;unfold Cw at a
 cases h:Cv s with
 |nil=>rw[h] at a;cases a
 |cons c t=>
  rw[h] at a b;have d:(c==35)=false:=by simpa using a
  obtain⟨e,g⟩:=Q0 h;have b:t.length<s.length:=by simp at b;omega
  have j:wO c=false:=by unfold wO;rw[g,e,d];rfl
  show(sel (wO c) (false,[],c::t) (sel (c==34) (sel (t.contains 34) (vv (t.length+1) (behind t) ([]++upTo t)) (true,[],t)) (vv (t.length+1) t ([]++[c])))).2.2.length<_;rw[j]
  cases l:c==34 with
  |false=>show(vv (t.length+1) t ([]++[c])).2.2.length<_;have:=(G9 (t.length+1) t ([]++[c]) (by omega)).1;omega
  |true=>
   cases f:t.contains 34 with
   |false=>show t.length<_;exact b
   |true=>show(vv (t.length+1) (behind t) ([]++upTo t)).2.2.length<_;have k:=(qc t f).1;have:=(G9 (t.length+1) (behind t) ([]++upTo t) (by omega)).1;omega
end Nt.Fld
namespace Nt.Ev.YtknhlobahpgkeaaGreatDoor
open Go Nt.Num Go.Proofs.YtknhlobahpgkeaaGreatDoor
def ixF (s c:af):Int:=Go.Lib.indexAny s c
def jI (l:af):Bool:=l.all fun c=>decide (c.toNat<128)
noncomputable def hE:Env:=⟨Go.Proofs.Tryz.prog,fun _=>none⟩
def vF (s:af) (c:Int):Int:=Go.Lib.indexByte s c.toNat.toUInt8
noncomputable def hAnyS:aC:=fun a=>match a with|[.str s,.str c]=>some (ak (av (aA s) 4000000) (ak (ak (av 2 (aA c)) (av (aA c) 1000)) (jI c)),.int .i64 (ixF s c))|_=>none
noncomputable def hRuneS:aC:=fun a=>match a with|[.str s,.int .i32 r]=>some (ak (av 0 r) (aW r 128),.int .i64 (vF s r))|_=>none
noncomputable def hS0:List (Nat×aC):=(104,hAnyS)::(103,hRuneS)::[]
def ftT (s:af):af:=(Nt.Fld.oq s).1
def ftW (s:af):Int:=(Nt.Fld.oq s).2
noncomputable def Uo:aC:=fun a=>match a with|[.str s]=>some (av (aA s) 4000000,.tup [.str (ftT s),.int .i64 (ftW s)])|_=>none
theorem adS (F s) (K:V→Option V):
 bA hE (bu hE hS0 F 4) F 60 [V.str s] K=
 let A:=sel (fu [34] s) (sel (fu (dU [34] s) [34]) (K (V.tup [V.str (dU (dU [34] s) [34]),V.int .i64 0])) none) (none);let B:=aA [32,9,35];sel (av 0 (vF s 34)) (K (V.tup [V.str [],V.int .i64 8])) (sel (seq s []) A (sel (ak (av (aA s) 4000000) (ak (ak (av 2 B) (av B 1000)) (jI [32,9,35]))) (sel (av 0 (ixF s [32,9,35])) A (K (V.tup [V.str s,V.int .i64 0]))) none)):=by kernel_rfl
open Go.RowKit Nt Nt.Fld
theorem KO:uL hE:=⟨by kernel_rfl,by kernel_rfl⟩
theorem WA {s:af} (h:av (aA s) 4000000=true):s.length≤4000000:=by rw[aB,aI] at h;omega
theorem Qd (l:af):(⟨l.toArray⟩:ByteArray).size=l.length:=by simp[ByteArray.size]
theorem hAnyS_ok (s c:af) (l:ak (av (aA s) 4000000) (ak (ak (av 2 (aA c)) (av (aA c) 1000)) (jI c))=true):aj hE 104 [.str s,.str c] (.int .i64 (ixF s c)):=by
 obtain⟨i,a⟩:=aO l;obtain⟨a,d⟩:=aO a;obtain⟨a,k⟩:=aO a;have i:=WA i;rw[aB,aI] at a k;refine bX fun G w vs n m j=>?_
 obtain⟨x,y,rfl,h,g⟩:=iQ j;unfold aV at h g;subst h;subst g;refine(Nt.AnyS.LQ Go.Proofs.Tryz.NQ (by kernel_rfl) ⟨s.toArray⟩ ⟨c.toArray⟩ w (by rw[Qd];omega) (by rw[Qd];omega) (by rw[Qd];omega) (fun b f=>?_)).mono ?_
 ·have d:(c.all fun c=>decide (c.toNat<128))=true:=d
  exact Fw (List.all_eq_true.1 d b f)
 rintro e w' ⟨rfl,f⟩;exact⟨_,rfl,f,qL _ _⟩
theorem adT (s:af) (r:Int) (a:ak (av 0 r) (aW r 128)=true):aj hE 103 [.str s,.int .i32 r] (.int .i64 (vF s r)):=by
 rw[aM,aB,bq] at a;refine bX fun G w vs g f d=>?_
 obtain⟨x,y,rfl,c,b⟩:=iQ d;unfold aV at c b;subst c;subst b;refine(Go.Proofs.Tryz.strings_IndexRune_ascii ⟨s.toArray⟩ r w a.1 a.2).mono ?_;rintro e w' ⟨rfl,rfl⟩;exact⟨_,rfl,Below.refl _ _,qL _ _⟩
theorem hS0_ok:bf hE hS0:=by
 unfold hS0;refine bf.cons (fun args r h=>?_) (bf.cons (fun args r h=>?_) bf.nil);all_goals (revert h;intro h;first|unfold hAnyS at h|unfold hRuneS at h)
 all_goals (split at h;rotate_left; · cases h)
 all_goals (simp only[aR,bM] at h;obtain⟨a,rfl⟩:=h)
 ·exact hAnyS_ok _ _ a
 exact adT _ _ a
theorem XE (b c:UInt8) (l:af):Lib.indexByte (b::l) c=if b==c then 0 else if Lib.indexByte l c== -1 then -1 else Lib.indexByte l c+1:=rfl
theorem ib_has: ∀(l:af) (c:UInt8),-1≤Lib.indexByte l c∧((0≤Lib.indexByte l c)↔l.contains c=true)
 |[],c=>⟨show(-1:Int)≤ -1 by decide,by simp[Lib.indexByte]⟩
 |b::l,c=>by
  obtain⟨f,d⟩:=ib_has l c;rw[XE,Yw]
  cases a:b==c with
  |true=>
   have:(c==b)=true:=by rw[iM] at a⊢;exact a.symm
   rw[this];simp
  |false=>
   have:(c==b)=false:=by rw[uE] at a⊢;exact fun e=>a e.symm
   rw[this,abS,if_neg (by decide)];by_cases h:Lib.indexByte l c= -1
   ·rw[if_pos (by rw[h];rfl)]
    refine⟨by decide,?_⟩;rw[←d];omega
   rw[if_neg (by simpa using h)];refine⟨by omega,?_⟩;rw[←d];omega
theorem ia_cons (b:UInt8) (l c:af):Lib.indexAny (b::l) c=if c.contains b then 0 else if Lib.indexAny l c== -1 then -1 else Lib.indexAny l c+1:=rfl
theorem ia_has (c:af): ∀(l:af),-1≤Lib.indexAny l c∧((0≤Lib.indexAny l c)↔l.any (fun b=>c.contains b)=true)
 |[]=>⟨show(-1:Int)≤ -1 by decide,by simp[Lib.indexAny]⟩
 |b::l=>by
  obtain⟨d,a⟩:=ia_has c l;rw[ia_cons,abM]
  cases e:c.contains b with
  |true=>simp
  |false=>
   rw[abS,if_neg (by decide)];by_cases h:Lib.indexAny l c= -1
   ·rw[if_pos (by rw[h];rfl)]
    refine⟨by decide,?_⟩;rw[←a];omega
   rw[if_neg (by simpa using h)];refine⟨by omega,?_⟩;rw[←a];omega
theorem sp_any (s:af):s.any (fun b=>([32,9,35]:af).contains b)=s.any wO:=by
 congr 1
 funext b
 obtain⟨⟨m⟩⟩:=b;revert m;decide+kernel
theorem adU (s:af) (b:av (aA s) 4000000=true):aj hE 60 [.str s] (.tup [.str (ftT s),.int .i64 (ftW s)]):=by
 have j:=WA b;refine au KO hS0_ok 5 4 ?_;have d:av 0 (vF s 34)=s.contains 34:=by rw[uF,aB];exact(ib_has s 34).2
 have f:av 0 (ixF s [32,9,35])=s.any wO:=by rw[←sp_any,uF,aB];exact(ia_has [32,9,35] s).2
 have i:fu [34] s=true:=by rw[gX];simp;omega
 have c:fu (dU [34] s) [34]=true:=by rw[gX];unfold dU;simp;omega
 have g:ak (av (aA s) 4000000) (ak (ak (av 2 (aA [32,9,35])) (av (aA [32,9,35]) 1000)) (jI [32,9,35]))=true:=by rw[b];rfl
 (rw[adS];(conv=>zeta);rw[d,f,i,c,g])
 unfold ftT ftW oq
 cases k:s.contains 34 with
 |true=>rfl
 |false=>
  rw[if_neg (by decide)];by_cases a:s=[]
  ·rw[if_pos (Or.inl a),show seq s []=true by rw[cK];exact a];rfl
  rw[show seq s []=false by cases e:seq s [] with|false=>rfl|true=>rw[cK] at e;exact absurd e a]
  cases l:s.any wO with
  |true=>rw[if_pos (Or.inr rfl)];rfl
  |false=>rw[if_neg (fun h=>h.elim a (fun h=>by cases h))];rfl
theorem u8q (c:UInt8) (n:Nat) (d:UInt8) (h:d.toNat=n):ieq ((c.toNat:Nat):Int) (n:Int)=(c==d):=by rw[uF,aN,iM,←acy,h];omega
def bE (l:List (af)):ah:=l.map V.str
theorem adV (l:List (af)) (x:af):aX (bE l) [V.str x]=bE (l++[x]):=by unfold aX bE;simp
def tlT (s c:af):af:=s.dropWhile fun b=>c.contains b
def irI (s:af) (r:Int):Int:=if r<128 then vF s r else -1
noncomputable def hByS:aC:=fun a=>match a with|[.str s,.int .u8 c]=>some (true,.int .i64 (vF s c))|_=>none
noncomputable def hTlS:aC:=fun a=>match a with|[.str s,.str c]=>some (ak (av (aA c) 1000) (jI c),.str (tlT s c))|_=>none
noncomputable def hRnS:aC:=fun a=>match a with|[.str s,.int .i32 r]=>some (ak (av 0 r) (ak (jI s) (av (aA s) 1000)),.int .i64 (irI s r))|_=>none
noncomputable def hS2:List (Nat×aC):=(65,hByS)::(94,hTlS)::(103,hRnS)::[]
theorem hByS_ok (s:af) (c:Int) (h:true=true):aj hE 65 [.str s,.int .u8 c] (.int .i64 (vF s c)):=by
 refine bX fun G w vs g f d=>?_
 obtain⟨x,y,rfl,b,a⟩:=iQ d;unfold aV at b a;subst b;subst a;refine(Go.Proofs.Tryz.strings_IndexByte ⟨s.toArray⟩ c w).mono ?_;rintro e w' ⟨rfl,rfl⟩;exact⟨_,rfl,Below.refl _ _,qL _ _⟩
theorem hTlS_ok (s c:af) (l:ak (av (aA c) 1000) (jI c)=true):aj hE 94 [.str s,.str c] (.str (tlT s c)):=by
 obtain⟨k,h⟩:=aO l;rw[aB,aI] at k;refine bX fun G w vs n m g=>?_
 obtain⟨x,y,rfl,f,d⟩:=iQ g;unfold aV at f d;subst f;subst d;refine(Go.Proofs.Any.strings_TrimLeft_laid Go.Proofs.Tryz.lays161 (by kernel_rfl) ⟨s.toArray⟩ ⟨c.toArray⟩ w (by rw[Qd];omega) (fun j b a=>?_)).mono ?_
 ·have i:(c.all fun c=>decide (c.toNat<128))=true:=h
  exact Fw (List.all_eq_true.1 i b (F9 a))
 rintro e w' ⟨rfl,a⟩;exact⟨_,rfl,a,NM _⟩
theorem hRnS_ok (s:af) (r:Int) (m:ak (av 0 r) (ak (jI s) (av (aA s) 1000))=true):aj hE 103 [.str s,.int .i32 r] (.int .i64 (irI s r)):=by
 obtain⟨j,a⟩:=aO m;obtain⟨a,i⟩:=aO a;rw[aB] at j i;rw[aI] at i;refine bX fun G w vs o n k=>?_
 obtain⟨x,y,rfl,h,g⟩:=iQ k;unfold aV at h g;subst h;subst g;unfold irI;by_cases d:r<128
 ·rw[if_pos d]
  refine(Go.Proofs.Tryz.strings_IndexRune_ascii ⟨s.toArray⟩ r w j d).mono ?_;rintro e w' ⟨rfl,rfl⟩;exact⟨_,rfl,Below.refl _ _,qL _ _⟩
 rw[if_neg d];refine(Nt.AnyS.uK Go.Proofs.Tryz.Xc ⟨s.toArray⟩ r w (by omega) (fun b f=>?_) (by rw[Qd];omega)).mono ?_
 ·have l:(s.all fun c=>decide (c.toNat<128))=true:=a
  exact Fw (List.all_eq_true.1 l b f)
 rintro e w' ⟨rfl,f⟩;exact⟨_,rfl,f,qL _ _⟩
theorem hS2_ok:bf hE hS2:=by
 unfold hS2;refine bf.cons (fun args r h=>?_) (bf.cons (fun args r h=>?_) (bf.cons (fun args r h=>?_) bf.nil));all_goals (revert h;intro h;first|unfold hByS at h|unfold hTlS at h|unfold hRnS at h)
 all_goals (split at h;rotate_left; · cases h)
 all_goals (simp only[aR,bM] at h;obtain⟨a,rfl⟩:=h)
 ·exact hByS_ok _ _ rfl
 ·exact hTlS_ok _ _ a
 exact hRnS_ok _ _ a
noncomputable def PN:V→Bool| .nilp=>true| .box k off=>k==HL&&off==0|_=>false
noncomputable def bufOk:V→Bool| .nilsl=>true| .sl e sh (some L) xs=>e==5&&Kd.Cs [.int .u8] sh&&L==1000001002|_=>false
noncomputable def bufS:V→af| .sl _ _ _ xs=>fZ xs|_=>[]
noncomputable def bufN:V→V| .sl e sh _ xs=> .sl e sh none xs|v=>v
noncomputable def hCpS:aC:=fun a=>match a with|[.bxa 0 [x,b]]=>some (PN x,.out false (.tup []) [[.box HL 0,b]])|_=>none
noncomputable def hStS:aC:=fun a=>match a with|[.bxa 0 [x,b]]=>some (ak (PN x) (bufOk b),.out false (.str (bufS b)) [[x,bufN b]])|_=>none
noncomputable def hS3:List (Nat×aC):=(GX+62,hCpS)::(GX+17,hStS)::hS2
noncomputable def BG:=fun F b n c a K=>(qK hE hS3 F 3 72 [V.bxa 0 []] [1,1,1,1,0,0] b K n (kD 71 [(0,V.box 1000000000 0),(2,V.str []),(3,V.bool c),(4,V.box 4 0)] [(4,[V.nilp,V.nilsl]),(1000000000,[V.str a])]):Option V)
noncomputable def kU:=fun F c n d b a K=>(qK hE hS3 F 3 72 [V.bxa 0 []] [1,1,1,1,0,0] c K n (kD 71 [(0,V.box 1000000000 0),(2,V.str []),(3,V.bool d),(4,V.box 4 0)] [(4,[V.box 4 0,V.sl 5 [Kd.int .u8] (some 50001) b]),(1000000000,[V.str a])]):Option V)
theorem adW (F s) (K:V→Option V):
 bA hE (bu hE hS3 F 3) F 72 [V.bxa 0 [V.str s]] K=
 let B:=tlT s [32,9];let A:=K (V.out false (V.tup [V.str [],V.bool false]) [[V.str B]]);sel (ak (av (aA [32,9]) 1000) (jI [32,9])) (sel (seq B []) A (sel (ak (av 0 0) (aW 0 (aA B))) (sel (ieq (sat B 0) 35) A (BG F [] F false B K)) none)) none:=by kernel_rfl
theorem yH (F n b a K):
 BG F [] (n+1) b a K=
 let B:=K (V.out false (V.tup [V.str [],V.bool true]) [[V.str a]]);let D:=sat a 0;let G:=aA a;let A:=dN a 1 G;let C:=ak (av 0 0) (aW 0 G);let E:=vF A 34;let H:=bJ .i64 E 1;let I:=aF (dN A 0 E);sel (aL (seq a [])) (sel C (sel (aL (ieq D 35)) (sel C (sel (ak (av 0 (qm .i32 D)) (ak (jI [32,9]) (av (aA [32,9]) 1000))) (sel (aL (av 0 (irI [32,9] (qm .i32 D)))) (sel C (sel (ak (av 0 1) (av 1 G)) (sel (ieq D 34) (sel (aW E 0) (K (V.out true (V.iface 134 (V.agg [V.int .i64 8])) [[V.str A]])) (sel (ak (av 0 E) (av E (aA A))) (sel (ak (av 0 H) (av H (aA A))) (sel (rP I) (kU F [] n b I (dN A H (aA A)) K) none) none) none)) (kU F [] n b [V.int .u8 D] A K)) none) none) B) none) none) B) none) B:=by kernel_rfl
theorem yI (F n c b a K):
 kU F [] (n+1) c b a K=
 let B:=K (V.out false (V.tup [V.str (fZ b),V.bool true]) [[V.str a]]);let C:=sat a 0;let G:=aA a;let A:=dN a 1 G;let D:=ak (av 0 0) (aW 0 G);let E:=vF A 34;let H:=bJ .i64 E 1;let I:=aF (dN A 0 E);sel (aL (seq a [])) (sel D (sel (aL (ieq C 35)) (sel D (sel (ak (av 0 (qm .i32 C)) (ak (jI [32,9]) (av (aA [32,9]) 1000))) (sel (aL (av 0 (irI [32,9] (qm .i32 C)))) (sel D (sel (ak (av 0 1) (av 1 G)) (sel (ieq C 34) (sel (aW E 0) (K (V.out true (V.iface 134 (V.agg [V.int .i64 8])) [[V.str A]])) (sel (ak (av 0 E) (av E (aA A))) (sel (ak (av 0 H) (av H (aA A))) (sel (eD b I) (kU F [] n c (aX b I) (dN A H (aA A)) K) none) none) none)) (sel (eD b [V.int .u8 C]) (kU F [] n c (aX b [V.int .u8 C]) A K) none)) none) none) B) none) none) B) none) B:=by kernel_rfl
theorem Iw {x:V} (h:PN x=true):x=.nilp∨x=.box HL 0:=by
 unfold PN at h;split at h
 ·exact .inl rfl
 ·rename_i k off
  rw[bC,iM,iM] at h;rw[h.1,h.2];exact .inr rfl
 cases h
theorem XF (x b:V) (a:PN x=true):nR hE 62 [.bxa 0 [x,b]] (.out false (.tup []) [[.box HL 0,b]]):=
 nR.out (XG rfl x b [] (Iw a))
theorem XH (x b:V) (f:ak (PN x) (bufOk b)=true):nR hE 17 [.bxa 0 [x,b]] (.out false (.str (bufS b)) [[x,bufN b]]):=by
 obtain⟨d,a⟩:=aO f;refine nR.out ?_;unfold bufOk at a;split at a
 ·exact yJ rfl x []
 ·rename_i e sh L xs
  rw[bC,bC,iM,iM] at a;obtain⟨⟨rfl,c⟩,rfl⟩:=a;have c:=Kd.fA _ _ c;subst c;exact Mf rfl x [] (by rcases Iw d with rfl|rfl<;>rfl) rfl xs
 cases a
theorem Nj:bf hE hS3:=by
 unfold hS3;refine bf.nH (fun args r h=>?_) (bf.nH (fun args r h=>?_) hS2_ok);all_goals (revert h;intro h;first|unfold hCpS at h|unfold hStS at h)
 all_goals (split at h;rotate_left; · cases h)
 all_goals (simp only[aR,bM] at h;obtain⟨a,rfl⟩:=h)
 ·exact XF _ _ a
 exact XH _ _ a
theorem lc_map (l:af) (c:UInt8):aX (aF l) [V.int .u8 (c.toNat:Int)]=aF (l++[c]):=by unfold aX aF;simp
theorem Up (l:af):fZ (aF l)=l:=by unfold fZ aF;rw[Fy];exact(abe fun c _=>by show UInt8.ofNat ((c.toNat:Int)).toNat=c;simp).trans (adf l)
theorem Oj: ∀(t:af),Lib.indexByte t 34=if t.contains 34=true then((upTo t).length:Int) else -1
 |[]=>rfl
 |b::l=>by
  rw[XE,Oj l]
  cases a:b==34 with
  |true=>rw[iM] at a;subst a;rfl
  |false=>
   have d:(b::l).contains 34=l.contains 34:=by
    rw[Yw];have:((34:UInt8)==b)=false:=by rw[uE] at a⊢;exact fun e=>a e.symm
    rw[this,abS]
   have c:upTo (b::l)=b::upTo l:=by unfold upTo;rw[abg,if_pos (by simpa using a)]
   rw[d,c,if_neg (by decide)]
   cases f:l.contains 34 with
   |true=>
    rw[if_pos rfl,if_pos rfl];have: ¬((((upTo l).length:Int)== -1)=true):=by rw[iM];omega
    rw[if_neg this];simp
   |false=>rfl
theorem Mg (t:af):t.take (upTo t).length=upTo t:=by
 unfold upTo;have: ∀l:af,l.take (l.takeWhile fun c=>c != 34).length=l.takeWhile fun c=>c != 34:=by
  intro l;induction l with
  |nil=>rfl
  |cons a l b=>
   rw[abg];split
   ·rw[fI,acp,b]
   rfl
 exact this t
theorem Q5 (c:UInt8):av 0 (irI [32,9] (qm .i32 ((c.toNat:Nat):Int)))=(c==9||c==32):=by obtain⟨⟨m⟩⟩:=c;revert m;decide+kernel
theorem XI (c:UInt8):av 0 (qm .i32 ((c.toNat:Nat):Int))=true:=by obtain⟨⟨m⟩⟩:=c;revert m;decide+kernel
def AU (p:Bool×af×af):V:=sel p.1 (V.out true (V.iface 134 (V.agg [V.int .i64 8])) [[V.str p.2.2]]) (V.out false (V.tup [V.str p.2.1,V.bool true]) [[V.str p.2.2]])
theorem tfN {α:Type} (x y:α):sel true x y=x∧sel false x y=y:=⟨rfl,rfl⟩
theorem FQ (F:Nat): ∀(n:Nat) (s f:af),s.length<n→s.length+f.length≤9000000→kU F [] n false (aF f) s some=some (AU (vv n s f))
 |0,s,f,h,_=>by omega
 |n+1,[],f,h,k=>by (rw[yI];(conv=>zeta);rw[Up]);rfl
 |n+1,c::t,f,h,k=>by
  have h:t.length<n:=by simpa using h
  have v:t.length+f.length+1≤9000000:=by simp at k;omega
  have l:aL (seq (c::t) [])=true:=rfl;have z:ak (av 0 0) (aW 0 (aA (c::t)))=true:=by rw[aM,aB,bq,aI];simp
  have w:sat (c::t) 0=((c.toNat:Nat):Int):=rfl;have C:ak (jI [32,9]) (av (aA [32,9]) 1000)=true:=rfl;have x:ak (av 0 1) (av 1 (aA (c::t)))=true:=by rw[aM,aB,aB,aI];simp;omega
  have y:dN (c::t) 1 (aA (c::t))=t:=by
   unfold dN;rw[aI];have:((((c::t).length:Nat):Int).toNat-(1:Int).toNat)=t.length:=by simp
   rw[this];exact O9 (lg _)
  have e:ieq ((c.toNat:Nat):Int) 34=(c==34):=u8q _ 34 34 rfl;have g:ieq ((c.toNat:Nat):Int) 35=(c==35):=u8q _ 35 35 rfl;have A:ak (av 0 (qm .i32 ((c.toNat:Nat):Int))) true=true:=by rw[XI];rfl
  have m:eD (aF f) [V.int .u8 ((c.toNat:Nat):Int)]=true:=by rw[iY];unfold aF;simp;omega
  (rw[yI];(conv=>zeta))
  simp only[l,z,w,C,x,y,e,g,A,m,Q5,Up,lc_map,tfN];unfold vv
  cases a:c==35 with
  |true=>
   have b:wO c=true:=by unfold wO;rw[a];simp
   rw[b];rfl
  |false=>
   cases j:(c==9||c==32) with
   |true=>
    have b:wO c=true:=by unfold wO;rw[j,a];rfl
    rw[b];rfl
   |false=>
    have b:wO c=false:=by unfold wO;rw[j,a];rfl
    rw[b]
    cases H:c==34 with
    |false=>show kU F [] n false (aF (f++[c])) t some=_;rw[FQ F n t (f++[c]) h (by simp;omega)];rfl
    |true=>
     have d:vF t 34=if t.contains 34=true then((upTo t).length:Int) else -1:=Oj t
     cases i:t.contains 34 with
     |false=>rw[i,if_neg (by decide)] at d;rw[d];rfl
     |true=>
      rw[i,if_pos rfl] at d;obtain⟨G,I⟩:=qc t i;have p:aW ((upTo t).length:Int) 0=false:=bF (by omega);have D:ak (av 0 ((upTo t).length:Int)) (av ((upTo t).length:Int) (aA t))=true:=by rw[aM,aB,aB,aI];omega
      have q:bJ .i64 ((upTo t).length:Int) 1=(((upTo t).length+1:Nat):Int):=by rw[cZ (by omega)];omega
      have u:ak (av 0 (((upTo t).length+1:Nat):Int)) (av (((upTo t).length+1:Nat):Int) (aA t))=true:=by rw[aM,aB,aB,aI];omega
      have o:dN t 0 ((upTo t).length:Int)=upTo t:=by unfold dN;simp only[Kr,Int.toNat_zero,Yx,acB];exact Mg t
      have r:dN t (((upTo t).length+1:Nat):Int) (aA t)=behind t:=by unfold dN behind;rw[aI,Kr,Kr];exact O9 (by simp)
      have E:eD (aF f) (aF (upTo t))=true:=by rw[iY];unfold aF;simp;omega
      have B:aX (aF f) (aF (upTo t))=aF (f++upTo t):=by unfold aX aF;simp
      simp only[d,p,D,q,u,o,r,E,B];show kU F [] n false (aF (f++upTo t)) (behind t) some=_;rw[FQ F n (behind t) (f++upTo t) (by omega) (by simp;omega)];rfl
theorem fn_first (F n:Nat) (s:af) (h:s.length<n+1) (v:s.length≤9000000):BG F [] (n+1) false s some=some (AU (vv (n+1) s [])):=by
 cases s with
 |nil=>(rw[yH];(conv=>zeta));rfl
 |cons c t=>
  have h:t.length<n:=by simpa using h
  have q:t.length+1≤9000000:=by simpa using v
  have j:aL (seq (c::t) [])=true:=rfl;have x:ak (av 0 0) (aW 0 (aA (c::t)))=true:=by rw[aM,aB,bq,aI];simp
  have r:sat (c::t) 0=((c.toNat:Nat):Int):=rfl;have z:ak (jI [32,9]) (av (aA [32,9]) 1000)=true:=rfl;have u:ak (av 0 1) (av 1 (aA (c::t)))=true:=by rw[aM,aB,aB,aI];simp;omega
  have w:dN (c::t) 1 (aA (c::t))=t:=by
   unfold dN;rw[aI];have:((((c::t).length:Nat):Int).toNat-(1:Int).toNat)=t.length:=by simp
   rw[this];exact O9 (lg _)
  have e:ieq ((c.toNat:Nat):Int) 34=(c==34):=u8q _ 34 34 rfl;have f:ieq ((c.toNat:Nat):Int) 35=(c==35):=u8q _ 35 35 rfl;have y:ak (av 0 (qm .i32 ((c.toNat:Nat):Int))) true=true:=by rw[XI];rfl
  (rw[yH];(conv=>zeta))
  simp only[j,x,r,z,u,w,e,f,y,Q5,tfN];unfold vv
  cases a:c==35 with
  |true=>
   have b:wO c=true:=by unfold wO;rw[a];simp
   rw[b];rfl
  |false=>
   cases i:(c==9||c==32) with
   |true=>
    have b:wO c=true:=by unfold wO;rw[i,a];rfl
    rw[b];rfl
   |false=>
    have b:wO c=false:=by unfold wO;rw[i,a];rfl
    rw[b]
    cases D:c==34 with
    |false=>show kU F [] n false (aF [c]) t some=_;rw[FQ F n t [c] h (by simp;omega)];rfl
    |true=>
     have d:vF t 34=if t.contains 34=true then((upTo t).length:Int) else -1:=Oj t
     cases g:t.contains 34 with
     |false=>rw[g,if_neg (by decide)] at d;rw[d];rfl
     |true=>
      rw[g,if_pos rfl] at d;obtain⟨C,E⟩:=qc t g;have l:aW ((upTo t).length:Int) 0=false:=bF (by omega);have A:ak (av 0 ((upTo t).length:Int)) (av ((upTo t).length:Int) (aA t))=true:=by rw[aM,aB,aB,aI];omega
      have m:bJ .i64 ((upTo t).length:Int) 1=(((upTo t).length+1:Nat):Int):=by rw[cZ (by omega)];omega
      have p:ak (av 0 (((upTo t).length+1:Nat):Int)) (av (((upTo t).length+1:Nat):Int) (aA t))=true:=by rw[aM,aB,aB,aI];omega
      have k:dN t 0 ((upTo t).length:Int)=upTo t:=by unfold dN;simp only[Kr,Int.toNat_zero,Yx,acB];exact Mg t
      have o:dN t (((upTo t).length+1:Nat):Int) (aA t)=behind t:=by unfold dN behind;rw[aI,Kr,Kr];exact O9 (by simp)
      have B:rP (aF (upTo t))=true:=by unfold rP aF;rw[Ba];simp;omega
      simp only[d,l,A,m,p,k,o,B];show kU F [] n false (aF (upTo t)) (behind t) some=_;rw[FQ F n (behind t) (upTo t) (by omega) (by omega)];rfl
theorem hNxS_ok (s:af) (l:av (aA s) 4000000=true):nR hE 72 [.bxa 0 [.str s]] (.ni (MC s) (.out true (.iface 134 (.agg [.int .i64 8])) [[.str (xN s)]]) (.out false (.tup [.str (ME s),.bool (Cw s)]) [[.str (xN s)]])):=by
 have m:=WA l;have i:=Oi s;have b:bA hE (bu hE hS3 ((Cv s).length+1) 3) ((Cv s).length+1) 72 [V.bxa 0 [V.str s]] some=some (sel (Cw s) (AU (nd s)) (V.out false (V.tup [V.str [],V.bool false]) [[V.str (Cv s)]])):=by
  (rw[adW];(conv=>zeta))
  have j:ak (av (aA [32,9]) 1000) (jI [32,9])=true:=rfl;have f:tlT s [32,9]=Cv s:=rfl;rw[j,f];unfold Cw nd
  cases h:Cv s with
  |nil=>rfl
  |cons c t=>
   rw[h] at i;have e:ak (av 0 0) (aW 0 (aA (c::t)))=true:=by rw[aM,aB,bq,aI];simp
   have g:ieq (sat (c::t) 0) 35=(c==35):=u8q _ 35 35 rfl;have k:BG ((c::t).length+1) [] ((c::t).length+1) false (c::t) some=some (AU (vv ((c::t).length+1) (c::t) [])):=fn_first _ _ (c::t) (by omega) (by omega);rw[e,g,k];show sel (c==35) _ (some (AU (vv ((c::t).length+1) (c::t) [])))=some (sel (!(c==35)) (AU (vv ((c::t).length+1) (c::t) [])) _);generalize AU (vv ((c::t).length+1) (c::t) [])=z
   cases c==35<;>rfl
 refine nR.ni (fun a=>nR.out (fQ KO Nj ((Cv s).length+1) 3 ?_)) (fun a=>nR.out (fQ KO Nj ((Cv s).length+1) 3 ?_))
 ·rw[b]
  unfold MC at a;rw[bC] at a;unfold xN AU;rw[a.1,a.2];rfl
 rw[b];unfold MC at a;unfold xN ME AU
 cases d:Cw s with
 |false=>rfl
 |true=>rw[d] at a;have a:(nd s).1=false:=a;rw[a];rfl
noncomputable def hGrS:aC:=fun a=>match a with|[.bxa 0 [x,.nilsl],.int .i64 n]=>some (ak (PN x) (ak (av 0 n) (av n 281474976710656)),.out false (.tup []) [[x,.sl 5 [.int .u8] (some 1002) []]])|_=>none
noncomputable def hS6:List (Nat×aC):=(GX+105,hGrS)::(GX+62,hCpS)::(GX+17,hStS)::[]
noncomputable def pP:=fun F f n e g h b a c d K=>(gH hE hS6 F 4 61 [1,1,1,1,0,1,0] f K n (kD 75 [(0,V.sl 9 [Kd.str] none e),(1,V.str g),(4,V.str []),(5,V.int .i64 h),(8,V.tup []),(10,V.tup []),(12,V.int .i64 b),(39,V.sl 9 [Kd.str] none a),(40,V.int .i64 c),(41,V.int .i64 d),(63,V.tup []),(64,V.tup []),(65,V.tup [])] []):Option V)
noncomputable def pQ:=fun F j n i k l d c g h e f b a K=>(gH hE hS6 F 4 61 [1,1,1,1,1,1,1,1,0,1,0] j K n (kD 75 [(0,V.sl 9 [Kd.str] none i),(1,V.str k),(4,V.str []),(5,V.int .i64 l),(8,V.box 8 0),(12,V.int .i64 d),(39,V.sl 9 [Kd.str] none c),(40,V.int .i64 g),(41,V.int .i64 h),(63,V.sl 9 [Kd.str] none e),(64,V.int .i64 f),(65,V.int .i64 b)] [(8,[V.box 8 0,V.sl 5 [Kd.int .u8] (some 90001) a])]):Option V)
theorem adX (F xs c) (K:V→Option V):
 bA hE (bu hE hS6 F 4) F 61 [V.sl 9 [Kd.str] none xs,V.str c] K=
 let A:=dw .i64 (ay xs) 1;sel (ieq (ay xs) 0) (K (V.str [])) (sel (ieq (ay xs) 1) (sel (ak (av 0 0) (aW 0 (ay xs))) (K (V.str (aH (ai (aG xs 0) 0)))) none) (sel (aW 0 (aA c)) (sel (aL (ieq A 0)) (sel (av (gF .i64 9223372036854775807 A) (aA c)) none (pP F [] F xs c (bJ .i64 0 (mF .i64 (aA c) A)) (ay xs) xs (ay xs) 0 K)) none) (pP F [] F xs c 0 (ay xs) xs (ay xs) 0 K))):=by kernel_rfl
theorem yK (F n d g f e b c a K):
 pP F [] (n+1) d g f e b c a K=
 let A:=aF (aH (ai (aG d 0) 0));let B:=fo d 1 (ay d);let C:=aA (aH (ai (aG b a) 0));let D:=ak (av 0 0) (aW 0 (ay d));let E:=ak (av 0 1) (av 1 (ay d));sel (aW a c) (sel (ak (av 0 a) (aW a (ay b))) (sel (aW (dw .i64 9223372036854775807 f) C) none (pP F [] n d g (bJ .i64 f C) e b c (bJ .i64 a 1) K)) none) (sel (aW f 0) none (sel (aW (dw .i64 0 0) f) (sel (ak true (ak (av 0 f) (av f 281474976710656))) (sel D (sel (eD [] A) (sel E (pQ F [] F d g f e b c a B (ay B) 0 (aX [] A) K) none) none) none) none) (sel D (sel (rP A) (sel E (pQ F [] F d g f e b c a B (ay B) 0 A K) none) none) none))):=by kernel_rfl
theorem yL (F n j i k f e g h c d b a K):
 pQ F [] (n+1) j i k f e g h c d b a K=
 let A:=aF (aH (ai (aG c b) 0));let B:=aX a (aF i);sel (aW b d) (sel (ak (av 0 b) (aW b (ay c))) (sel (eD a (aF i)) (sel (eD B A) (pQ F [] n j i k f e g h c d (bJ .i64 b 1) (aX B A) K) none) none) none) (K (V.str (fZ a))):=by kernel_rfl
theorem hGrS_ok (x:V) (n:Int) (c:ak (PN x) (ak (av 0 n) (av n 281474976710656))=true):nR hE 105 [.bxa 0 [x,.nilsl],.int .i64 n] (.out false (.tup []) [[x,.sl 5 [.int .u8] (some 1002) []]]):=by obtain⟨b,a⟩:=aO c;rw[aM,aB,aB] at a;exact nR.out (grow_xc rfl x ((Iw b).imp id fun h=>⟨0,h⟩) n a.1 a.2)
theorem hS6_ok:bf hE hS6:=by
 unfold hS6;refine bf.nH (fun args r h=>?_) (bf.nH (fun args r h=>?_) (bf.nH (fun args r h=>?_) bf.nil));all_goals (revert h;intro h;first|unfold hGrS at h|unfold hCpS at h|unfold hStS at h)
 all_goals (split at h;rotate_left; · cases h)
 all_goals (simp only[aR,bM] at h;obtain⟨a,rfl⟩:=h)
 ·exact hGrS_ok _ _ a
 ·exact XF _ _ a
 exact XH _ _ a
def mh (x:V):af:=aH (ai x 0)
def o5 (c:af) (l:ah):af:=(l.map fun y=>c++mh y).flatten
def kS (xs:ah) (c:af):af:=match xs with|[]=>[]|x::l=>mh x++o5 c l
def jnB (xs:ah) (c:af):Bool:=decide ((kS xs c).length≤9000000∧xs.length≤1000∧c.length≤1000)
def PO (l:ah):Nat:=(l.map fun y=>(mh y).length).sum
theorem Q6 (c:af): ∀l:ah,(o5 c l).length=c.length*l.length+PO l
 |[]=>rfl
 |x::l=>by have:=Q6 c l;unfold o5 PO at this⊢;simp only[qA,abO,iH,List.sum_cons,fI,Nat.mul_add,acA,this];omega
theorem Iy (l:ah) (i:Nat) (h:i<l.length):aG l (i:Int)=l[i]∧l.drop i=l[i]::l.drop (i+1):=by refine⟨?_,abf h⟩;rw[eX,mg,iZ h];rfl
theorem sj1 (F:Nat) (o:ah) (c:af) (q g:Int) (e:ah) (h k:Int) (d:ah) (C:d.length≤1000): ∀(j i n:Nat) (f:af),i+j=d.length→j<n→f.length+(o5 c (d.drop i)).length≤9000000→
  pQ F [] n o c q g e h k d (ay d) (i:Int) (aF f) some=some (.str (f++o5 c (d.drop i))):=by
 intro j;induction j with
 |zero=>
  intro i n f w x l;obtain⟨n,rfl⟩: ∃m,n=m+1:=⟨n-1,by omega⟩
  (rw[yL];(conv=>zeta);rw[bF (by rw[aD];omega),Up,abh (by omega)])
  show some (V.str f)=some (V.str (f++[]));rw[JQ]
 |succ j A=>
  intro i n f w x l;obtain⟨n,rfl⟩: ∃m,n=m+1:=⟨n-1,by omega⟩
  obtain⟨g1,t⟩:=Iy d i (by omega);have z:o5 c (d.drop i)=c++mh d[i]++o5 c (d.drop (i+1)):=by rw[t];unfold o5;rw[qA,abO]
  rw[z] at l⊢;simp only[iH] at l;have r:aW (i:Int) (ay d)=true:=bH (by rw[aD];omega);have y:ak (av 0 (i:Int)) true=true:=by rw[bg (by omega)];rfl
  have u:aH (ai d[i] 0)=mh d[i]:=rfl;have B:eD (aF f) (aF c)=true:=by rw[iY];unfold aF;simp;omega
  have p: ∀a b:af,aX (aF a) (aF b)=aF (a++b):=fun a b=>by unfold aX aF;simp
  have v:eD (aF (f++c)) (aF (mh d[i]))=true:=by rw[iY];unfold aF;simp;omega
  have s:bJ .i64 (i:Int) 1=((i+1:Nat):Int):=by rw[cZ (by omega)];omega
  (rw[yL];(conv=>zeta);rw[r,y,g1,u,B,p,v,p,s])
  show pQ F [] n o c q g e h k d (ay d) ((i+1:Nat):Int) (aF (f++c++mh d[i])) some=_;rw[A (i+1) n (f++c++mh d[i]) (by omega) (by omega) (by simp only[iH];omega)];simp
theorem sj0 (F:Nat) (x:V) (l:ah) (c:af) (w:l.length<F) (a:Int) (C:(kS (x::l) c).length≤9000000) (D:l.length≤999): ∀(j i n:Nat) (m:Nat),i+j=l.length+1→j<n→m+PO ((x::l).drop i)=(kS (x::l) c).length→
  pP F [] n (x::l) c (m:Int) a (x::l) (ay (x::l)) (i:Int) some=some (.str (kS (x::l) c)):=by
 intro j;induction j with
 |zero=>
  intro i n m A o s;obtain⟨n,rfl⟩: ∃k,n=k+1:=⟨n-1,by omega⟩
  have u:fo (x::l) 1 (ay (x::l))=l:=by
   unfold fo;rw[aD];have:((((x::l).length:Nat):Int).toNat-(1:Int).toNat)=l.length:=by simp
   rw[this];exact O9 (lg _)
  have E:(kS (x::l) c).length=(mh x).length+(o5 c l).length:=by unfold kS;simp
  have d:aH (ai (aG (x::l) 0) 0)=mh x:=rfl;have p:ak (av 0 0) (aW 0 (ay (x::l)))=true:=by rw[aM,aB,bq,aD,fI];omega
  have f:ak (av 0 1) (av 1 (ay (x::l)))=true:=by rw[aM,aB,aB,aD];simp;omega
  have q:eD [] (aF (mh x))=true:=by rw[iY];unfold aF;simp;omega
  have g:rP (aF (mh x))=true:=by unfold rP aF;rw[Ba];simp;omega
  have z:aX [] (aF (mh x))=aF (mh x):=rfl;have v:m≤9000000:=by omega
  have e:aW (m:Int) 0=false:=bF (by omega);have t:ak true (ak (av 0 (m:Int)) (av (m:Int) 281474976710656))=true:=by rw[bg (by omega),bg (by omega)];rfl
  have b:=sj1 F (x::l) c (m:Int) a (x::l) (ay (x::l)) (i:Int) l (by omega) l.length 0 F (mh x) (by omega) w (by simp only[Yx];omega);have b:pQ F [] F (x::l) c (m:Int) a (x::l) (ay (x::l)) (i:Int) l (ay l) 0 (aF (mh x)) some=some (.str (kS (x::l) c)):=b
  (rw[yK];(conv=>zeta);rw[bF (by rw[aD,fI];omega),e,u,d,p,f,q,g,z,t,b])
  cases aW (dw .i64 0 0) (m:Int)<;>rfl
 |succ j B=>
  intro i n m A o s;obtain⟨n,rfl⟩: ∃k,n=k+1:=⟨n-1,by omega⟩
  have h:i<(x::l).length:=by simp;omega
  obtain⟨g1,r⟩:=Iy (x::l) i h;have b:PO ((x::l).drop i)=(mh (x::l)[i]).length+PO ((x::l).drop (i+1)):=by rw[r];unfold PO;simp
  generalize (x::l)[i]=y at g1 r b;rw[b] at s;have d:aW (i:Int) (ay (x::l))=true:=bH (by rw[aD];omega);have p:ak (av 0 (i:Int)) true=true:=by rw[bg (by omega)];rfl
  have f:aH (ai y 0)=mh y:=rfl;have q:aW (dw .i64 9223372036854775807 (m:Int)) (aA (mh y))=false:=bF (by rw[dO (by omega),aI];omega);have g:bJ .i64 (m:Int) (aA (mh y))=((m+(mh y).length:Nat):Int):=by rw[aI,cZ (by omega)];omega
  have e:bJ .i64 (i:Int) 1=((i+1:Nat):Int):=by rw[cZ (by omega)];omega
  (rw[yK];(conv=>zeta);rw[d,p,g1,f,q,g,e])
  exact B (i+1) n (m+(mh y).length) (by omega) (by omega) (by omega)
theorem sJoin_ev (xs:ah) (c:af) (f:jnB xs c=true):aj hE 61 [.sl 9 [.str] none xs,.str c] (.str (kS xs c)):=by
 have f:(kS xs c).length≤9000000∧xs.length≤1000∧c.length≤1000:=Fw f;refine au KO hS6_ok 2000 4 ?_
 (rw[adX];(conv=>zeta))
 match xs,f with
 |[],_=>rfl
 |[x],_=>show some (V.str (mh x))=some (V.str (mh x++[]));rw[JQ]
 |x::y::l,f=>
  obtain⟨o,h,s⟩:=f;have h:l.length+2≤1000:=by simpa using h
  have k:ieq (ay (x::y::l)) 0=false:=bD (by rw[aD];simp;omega);have t:ieq (ay (x::y::l)) 1=false:=bD (by rw[aD];simp;omega);have n:dw .i64 (ay (x::y::l)) 1=((l.length+1:Nat):Int):=by rw[aD,fI,fI,dO (by omega)];omega
  have v:aL (ieq ((l.length+1:Nat):Int) 0)=true:=by rw[bD (by omega)];rfl
  have j:c.length*(l.length+1)≤1000*1000:=abW s (by omega);have p:mF .i64 (aA c) ((l.length+1:Nat):Int)=((c.length*(l.length+1):Nat):Int):=by
   rw[aI];have e:(c.length:Int)*((l.length+1:Nat):Int)=((c.length*(l.length+1):Nat):Int):=by rw[Int.natCast_mul]
   rw[og (by rw[e];omega),e]
  have r:bJ .i64 0 ((c.length*(l.length+1):Nat):Int)=((c.length*(l.length+1):Nat):Int):=by rw[cZ (by omega)];omega
  have m:av (gF .i64 9223372036854775807 ((l.length+1:Nat):Int)) (aA c)=false:=by
   refine mr ?_;have z:(2000:Int)≤9223372036854775807/((l.length+1:Nat):Int):=by rw[Int.le_ediv_iff_mul_le (by omega)];omega
   have w:(9223372036854775807:Int)/((l.length+1:Nat):Int)≤9223372036854775807:=Int.ediv_le_self _ (by omega);have q:gF .i64 9223372036854775807 ((l.length+1:Nat):Int)=9223372036854775807/((l.length+1:Nat):Int):=by unfold gF;rw[Int.tdiv_eq_ediv_of_nonneg (by omega)];exact IntWalk.i64_in _ ⟨by omega,w⟩
   rw[q,aI];omega
  have u:(kS (x::y::l) c).length=c.length*(l.length+1)+PO (x::y::l):=by unfold kS;rw[iH,Q6];unfold PO;simp only[qA,List.sum_cons,fI];omega
  have d:=sj0 2000 x (y::l) c (by rw[fI];omega) (ay (x::y::l)) o (by rw[fI];omega) (l.length+2) 0 2000 (c.length*(l.length+1)) (by rw[fI];omega) (by omega) (by rw[u];rfl);have d:pP 2000 [] 2000 (x::y::l) c ((c.length*(l.length+1):Nat):Int) (ay (x::y::l)) (x::y::l) (ay (x::y::l)) 0 some=some (.str (kS (x::y::l) c)):=d;rw[k,t,n,v,p,r,m,d]
  cases i:aW 0 (aA c) with
  |true=>rfl
  |false=>
   have g:c=[]:=by
    cases c with
    |nil=>rfl
    |cons a b=>rw[bH (by rw[aI,fI];omega)] at i;cases i
   subst g;have d:pP 2000 [] 2000 (x::y::l) [] 0 (ay (x::y::l)) (x::y::l) (ay (x::y::l)) 0 some=some (.str (kS (x::y::l) [])):=by have:=d;rw[show(([]:af).length*(l.length+1):Nat)=0 by simp] at this;exact this
   exact d
noncomputable def hNxS:aC:=fun a=>match a with|[.bxa 0 [.str s]]=>some (av (aA s) 4000000,.ni (MC s) (.out true (.iface 134 (.agg [.int .i64 8])) [[.str (xN s)]]) (.out false (.tup [.str (ME s),.bool (Cw s)]) [[.str (xN s)]]))|_=>none
noncomputable def hS4:List (Nat×aC):=(GX+72,hNxS)::hS3
noncomputable def hJoS:aC:=fun a=>match a with|[.sl e sh o xs,.str c]=>some (ak (e==9&&Kd.Cs [.str] sh) (jnB xs c),.str (kS xs c))|_=>none
noncomputable def hS5:List (Nat×aC):=(61,hJoS)::(60,Uo)::hS3
noncomputable def Uq:=fun F d n c f e b a K=>(WI hE hS4 F 3 44 71 [V.box 1000005000 0,V.box 1000005001 0] [] [1,1,1,0,1,0] d K n (kD 29 [(0,V.str c),(2,V.box 1000005000 0),(3,V.box 1000005001 0),(4,V.box 4 0),(5,V.str f),(6,V.bool e)] [(4,[V.str b]),(1000005001,[V.int .i64 a]),(1000005000,[V.nilsl])]):Option V)
noncomputable def zw:=fun F e n d g f c b a K=>(WI hE hS4 F 3 44 71 [V.box 1000005000 0,V.box 1000005001 0] [] [1,1,1,0,1,0] e K n (kD 29 [(0,V.str d),(2,V.box 1000005000 0),(3,V.box 1000005001 0),(4,V.box 4 0),(5,V.str g),(6,V.bool f)] [(4,[V.str c]),(1000005001,[V.int .i64 b]),(1000005000,[V.sl 9 [Kd.str] (some 50010000) a])]):Option V)
theorem fOf_top (F s) (K:V→Option V):
 bA hE (bu hE hS4 F 3) F 44 [V.str s] K=
 sel (av (aA s) 4000000)
 (sel (MC s)
 (K (V.tup [V.nilsl,V.int .i64 8]))
 (Uq F [] F s (ME s) (Cw s) (xN s) 0 K))
 none:=
 by rw[←j6 (K (V.tup [V.nilsl,V.int .i64 8]))];kernel_rfl
theorem SL (F n c e d b a K):
 Uq F [] (n+1) c e d b a K=
 sel d
 (sel (av (aA b) 4000000)
 (sel (MC b)
 (K (V.tup [V.nilsl,V.int .i64 8]))
 (zw F [] n c (ME b) (Cw b) (xN b) a [V.str e] K))
 none)
 (K (V.tup [V.nilsl,V.int .i64 0])):=
 by rw[←j6 (K (V.tup [V.nilsl,V.int .i64 8]))];kernel_rfl
theorem SN (F n e d f c b a K):
 zw F [] (n+1) e d f c b a K=
 sel f
 (sel (eD a [V.str d])
 (sel (av (aA c) 4000000)
 (sel (MC c)
 (K (V.tup [V.nilsl,V.int .i64 8]))
 (zw F [] n e (ME c) (Cw c) (xN c) b (aX a [V.str d]) K))
 none)
 none)
 (sel (aW 16 (ay a))
 (K (V.tup [V.nilsl,V.int .i64 6]))
 (K (V.tup [V.sl 9 [Kd.str] none a,V.int .i64 0]))):=
 by rw[←j6 (K (V.tup [V.nilsl,V.int .i64 8])),←j6 (K (V.tup [V.nilsl,V.int .i64 6]))];kernel_rfl
noncomputable def wh:=fun F f n d h g e b a c K=>(gH hE hS5 F 3 34 [1,1,1,0,1,0] f K n (kD 38 [(0,V.old (V.sl 9 [Kd.str] none d)),(2,V.str h),(3,V.int .i64 g),(4,V.sl 9 [Kd.str] (some 4) e),(15,V.old (V.sl 9 [Kd.str] none b)),(16,V.int .i64 a),(17,V.int .i64 c)] []):Option V)
theorem adY (F xs) (K:V→Option V):
 bA hE (bu hE hS5 F 3) F 34 [V.old (V.sl 9 [Kd.str] none xs)] K=
 sel (aW 16 (ay xs)) (K (V.tup [V.str [],V.int .i64 6])) (sel (ak (av 0 (ay xs)) (ak (av (ay xs) (ay xs)) (av (ay xs) 16777216))) (wh F [] F xs [] 0 (Cy (ay xs) (V.str [])) xs (ay xs) 0 K) none):=by kernel_rfl
theorem yM (F n e g f d b c a K):
 wh F [] (n+1) e g f d b c a K=
 let A:=aH (ai (aG b a) 0);let B:=dN [32,9] 0 1;sel (aW a c) (sel (ak (av 0 a) (aW a (ay b))) (sel (av (aA A) 4000000) (sel (aL (ieq (ftW A) 0)) (K (V.tup [V.str [],V.int .i64 (ftW A)])) (sel (ak (av 0 a) (aW a (ay d))) (wh F [] n e g f (oz d a (V.str (ftT A))) b c (bJ .i64 a 1) K) none)) none) none) (sel (ak (av 0 1) (av 1 (aA [32,9]))) (sel (ak true (jnB d B)) (K (V.tup [V.str (kS d B),V.int .i64 0])) none) none):=by kernel_rfl
theorem hS4_ok:bf hE hS4:=by
 unfold hS4;refine bf.nH (fun args r h=>?_) Nj;all_goals (revert h;intro h;first|unfold hNxS at h)
 all_goals (split at h;rotate_left; · cases h)
 all_goals (simp only[aR,bM] at h;obtain⟨a,rfl⟩:=h)
 ·exact hNxS_ok _ a
def nilV (l:ah):V:=match l with|[]=> .nilsl|l=> .sl 9 [.str] none l
def YU (p:List (af)×Int):V:=.tup [nilV (bE p.1),.int .i64 p.2]
theorem fof_fin (out:List (af)) (h:out≠[]):sel (aW 16 (ay (bE out))) (some (V.tup [V.nilsl,V.int .i64 6])) (some (V.tup [V.sl 9 [Kd.str] none (bE out),V.int .i64 0]))=some (YU (uQ out)):=by
 have e:ay (bE out)=(out.length:Int):=by unfold bE;rw[aD,kJ]
 unfold uQ;rw[e];by_cases b:16<out.length
 ·rw[bH (by omega),if_pos b];rfl
 rw[bF (by omega),if_neg b]
 cases out with
 |nil=>exact absurd rfl h
 |cons a l=>rfl
theorem XJ (F:Nat) (b:af) (w:Int): ∀(n:Nat) (s f:af) (m:Bool) (out:List (af)),s.length≤4000000→out≠[]→(m=true→s.length+1<n)→0<n→(m=true→out.length+s.length≤9000000)→
  zw F [] n b f m s w (bE out) some=some (YU (sel m (nk s (out++[f]) [] false false) (uQ out)))
 |0,s,f,m,out,_,_,_,h,_=>by omega
 |n+1,s,f,m,out,l,i,d,_,c=>by
  rw[SN]
  cases m with
  |false=>exact fof_fin out i
  |true=>
   have d:=d rfl;have c:=c rfl;have g:eD (bE out) [V.str f]=true:=by rw[iY];unfold bE;simp;omega
   have j:av (aA s) 4000000=true:=bg (by rw[aI];omega);obtain⟨o,l2,e⟩:=Um s;rw[g,j,adV];show sel (MC s) (some (V.tup [V.nilsl,V.int .i64 8])) (zw F [] n b (ME s) (Cw s) (xN s) w (bE (out++[f])) some)=some (YU (nk s (out++[f]) [] false false));rw[of_next]
   cases hB:MC s with
   |true=>
    have a:Cw s=true:=by unfold MC at hB;rw[bC] at hB;exact hB.1
    rw[a];rfl
   |false=>have k:=XJ F b w n (xN s) (ME s) (Cw s) (out++[f]) (by omega) (by simp) (fun a=>by have:=e a hB;omega) (by omega) (fun a=>by have:=e a hB;simp only[iH,fI,qz];omega);show zw F [] n b (ME s) (Cw s) (xN s) w (bE (out++[f])) some=_;rw[k];rfl
theorem fOf_ev (s:af) (j:s.length≤4000000):aj hE 44 [.str s] (YU (vo s)):=by
 refine au KO hS4_ok (s.length+5) 3 ?_;rw[fOf_top];have f:av (aA s) 4000000=true:=bg (by rw[aI];omega);obtain⟨k,l2,d⟩:=Um s;obtain⟨m1,i,e⟩:=Um (xN s);have g:av (aA (xN s)) 4000000=true:=bg (by rw[aI];omega);rw[f];unfold vo;rw[of_next];show sel (MC s) (some (V.tup [V.nilsl,V.int .i64 8])) (Uq (s.length+5) [] (s.length+4+1) s (ME s) (Cw s) (xN s) 0 some)=_
 cases hB:MC s with
 |true=>
  have b:Cw s=true:=by unfold MC at hB;rw[bC] at hB;exact hB.1
  rw[b];rfl
 |false=>
  rw[SL,g]
  cases b:Cw s with
  |false=>rfl
  |true=>
   have d:=d b hB;show sel (MC (xN s)) (some (V.tup [V.nilsl,V.int .i64 8])) (zw (s.length+5) [] (s.length+4) s (ME (xN s)) (Cw (xN s)) (xN (xN s)) 0 (bE [ME s]) some)=some (YU (nk (xN s) [ME s] [] false false));rw[of_next]
   cases a:MC (xN s) with
   |true=>
    have c:Cw (xN s)=true:=by unfold MC at a;rw[bC] at a;exact a.1
    rw[c];rfl
   |false=>
    rw[XJ (s.length+5) s 0 (s.length+4) (xN (xN s)) (ME (xN s)) (Cw (xN s)) [ME s] (by omega) (by simp) (fun h=>by have:=e h a;omega) (by omega) (fun _=>by show 1+_≤_;omega)];rfl
def uM (xs:ah):List (af):=xs.map mh
theorem Q7 (l:List (af)):uM (bE l)=l:=by unfold uM bE;rw[Fy];exact(abe fun _ _=>rfl).trans (adf l)
def Cx (x:af):af:=(oq x).1
theorem Mh: ∀(l:List (af)),(bU l).2=0→(bU l).1=o5 [32] (bE (l.map Cx))
 |[],_=>rfl
 |x::l,h=>by
  unfold bU at h⊢;by_cases b:(oq x).2=0
  ·rw[if_pos b] at h⊢
   by_cases a:(bU l).2=0
   ·rw[if_pos a]
    have:=Mh l a;show[32]++(oq x).1++(bU l).1=([32]++Cx x)++o5 [32] (bE (l.map Cx));rw[this];rfl
   rw[if_neg a] at h;exact absurd h a
  rw[if_neg b] at h;exact absurd h b
theorem adZ (l:List (af)) (h:(bU l).2=0):(bU l).1.drop 1=kS (bE (l.map Cx)) [32]:=by
 rw[Mh l h]
 cases l with
 |nil=>rfl
 |cons x l=>rfl
theorem VC (x:af) (l:List (af)):(bU (x::l)).2=if(oq x).2=0 then(bU l).2 else(oq x).2:=by
 show(if(oq x).2=0 then(if(bU l).2=0 then(([32]++(oq x).1++(bU l).1,0):af×Int) else([],(bU l).2)) else([],(oq x).2)).2=_;by_cases a:(oq x).2=0
 ·rw[if_pos a,if_pos a]
  by_cases b:(bU l).2=0
  ·rw[if_pos b,b]
  rw[if_neg b]
 rw[if_neg a,if_neg a]
theorem XK (x:af):(Cx x).length≤x.length+2:=by
 unfold Cx oq
 (repeat' split)<;>simp
theorem ft_eq (x:af):ftT x=Cx x∧ftW x=(oq x).2:=⟨rfl,rfl⟩
def jnV (e:Int) (t:af):V:=sel (ieq e 0) (.tup [.str t,.int .i64 0]) (.tup [.str [],.int .i64 e])
def nW (l:List (af)):Nat:=(l.map List.length).sum
theorem ad1 (l:List (af)):(kS (bE (l.map Cx)) [32]).length≤nW l+3*l.length:=by
 have a: ∀l:List (af),(o5 [32] (bE (l.map Cx))).length≤nW l+3*l.length:=by
  intro l;induction l with
  |nil=>exact lg _
  |cons x l c=>have e:o5 [32] (bE ((x::l).map Cx))=[32]++Cx x++o5 [32] (bE (l.map Cx)):=rfl;have b:nW (x::l)=x.length+nW l:=rfl;have:=XK x;rw[e,b];simp only[iH,fI,qz];omega
 cases l with
 |nil=>exact lg _
 |cons x l=>have e:kS (bE ((x::l).map Cx)) [32]=Cx x++o5 [32] (bE (l.map Cx)):=rfl;have b:nW (x::l)=x.length+nW l:=rfl;have:=XK x;have:=a l;rw[e,b];simp only[iH,fI];omega
theorem Q8 {x:af}: ∀{l:List (af)},x∈l→x.length≤nW l
 |y::l,h=>by
  have a:nW (y::l)=y.length+nW l:=rfl;rcases List.mem_cons.1 h with rfl|h
  ·omega
  have:=Q8 h;omega
theorem jn_spec (J:bf hE hS5) (F:Nat) (xs:ah) (w:xs.length≤16) (H:nW (uM xs)≤3000000): ∀(j i n:Nat) (a:List (af)),i+j=xs.length→j<n→a=((uM xs).take i).map Cx→
  wh F [] n xs [] 0 (bE a++List.replicate j (V.str [])) xs (ay xs) (i:Int) some=some (jnV (bU ((uM xs).drop i)).2 (kS (bE ((uM xs).map Cx)) [32])):=by
 intro j;induction j with
 |zero=>
  intro i n a z A c;obtain⟨n,rfl⟩: ∃k,n=k+1:=⟨n-1,by omega⟩
  have e:(uM xs).length=xs.length:=by unfold uM;simp
  have C:(uM xs).drop i=[]:=abh (by omega);have v:a=(uM xs).map Cx:=by rw[c,O9 (by omega)]
  have D:bE a++List.replicate 0 (V.str [])=bE ((uM xs).map Cx):=by rw[v];simp
  have E:dN [32,9] 0 1=[32]:=rfl;have I:=ad1 (uM xs);have r:ak true (jnB (bE ((uM xs).map Cx)) [32])=true:=by show jnB _ _=true;unfold jnB;rw[decide_eq_true_iff];refine⟨by omega,?_,by decide⟩;unfold bE uM;simp;omega
  (rw[yM];(conv=>zeta);rw[bF (by rw[aD];omega),C,D,E,r])
  rfl
 |succ j m=>
  intro i n a z A c;obtain⟨n,rfl⟩: ∃k,n=k+1:=⟨n-1,by omega⟩
  have e:(uM xs).length=xs.length:=by unfold uM;simp
  have f:i<xs.length:=by omega
  obtain⟨g1,_⟩:=Iy xs i f;have o:aH (ai (aG xs (i:Int)) 0)=(uM xs)[i]'(by omega):=by rw[g1];unfold uM;rw[acn];rfl
  have d:(uM xs).drop i=(uM xs)[i]'(by omega)::(uM xs).drop (i+1):=abf (by omega);have b:(uM xs)[i]'(by omega)∈uM xs:=Ga _;generalize (uM xs)[i]'(by omega)=x at o d b;have q:=Q8 b;have p:aW (i:Int) (ay xs)=true:=bH (by rw[aD];omega);have B:ak (av 0 (i:Int)) true=true:=by rw[bg (by omega)];rfl
  have t:av (aA x) 4000000=true:=bg (by rw[aI];omega);have g:a.length=i:=by rw[c,kJ,JG];omega
  have G:ak (av 0 (i:Int)) (aW (i:Int) (ay (bE a++List.replicate (j+1) (V.str []))))=true:=by rw[aM,aB,bq,aD];unfold bE;simp only[iH,kJ,List.length_replicate];omega
  have u:bJ .i64 (i:Int) 1=((i+1:Nat):Int):=by rw[cZ (by omega)];omega
  have y:oz (bE a++List.replicate (j+1) (V.str [])) (i:Int) (V.str (Cx x))=bE (a++[Cx x])++List.replicate j (V.str []):=by
   unfold oz;rw[Kr];have:(bE a).length=i:=by unfold bE;rw[kJ];exact g
   rw[ace _ _ (by omega),this,Yz,List.replicate_succ,List.set_cons_zero];unfold bE;simp
  (rw[yM];(conv=>zeta);rw[p,B,o,t,G,u,(ft_eq x).1,(ft_eq x).2,y,d])
  have m:=m (i+1) n (a++[Cx x]) (by omega) (by omega) (by
   rw[c];have:(uM xs).take (i+1)=(uM xs).take i++[x]:=by
    rw[acz];congr 1;have s:(uM xs)[i]? =some x:=by have:=congrArg (fun l=>l[0]?) d;simpa using this
    rw[s];rfl
   rw[this,aci];rfl)
  show sel (aL (ieq (oq x).2 0)) (some (V.tup [V.str [],V.int .i64 (oq x).2])) (wh F [] n xs [] 0 (bE (a++[Cx x])++List.replicate j (V.str [])) xs (ay xs) ((i+1:Nat):Int) some)=_;rw[m,VC];rcases tx_err x with h|h
  ·rw[h];rfl
  rw[h];rfl
def jnC (xs:ah):Bool:=decide (nW (uM xs)≤3000000)
def tF (xs:ah):af:=(dZ (uM xs)).1
def rC (xs:ah):Int:=(dZ (uM xs)).2
theorem jnV_eq (xs:ah) (b:xs.length≤16):jnV (bU (uM xs)).2 (kS (bE ((uM xs).map Cx)) [32])=.tup [.str (tF xs),.int .i64 (rC xs)]:=by
 have a:(uM xs).length=xs.length:=by unfold uM;simp
 unfold jnV tF rC dZ;rw[if_neg (by omega)];by_cases h:(bU (uM xs)).2=0
 ·rw[if_pos h,bn h,adZ _ h];rfl
 rw[if_neg h,bD h];rfl
theorem hJoS_ok (e:Nat) (sh:List Kd) (o:Option Nat) (xs:ah) (c:af) (g:ak (e==9&&Kd.Cs [.str] sh) (jnB xs c)=true):aj hE 61 [.sl e sh o xs,.str c] (.str (kS xs c)):=by
 obtain⟨a,d⟩:=aO g;rw[bC] at a;have b:e=9:=by simpa using a.1
 have f:[Kd.str]=sh:=Kd.fA _ _ a.2;subst b f;exact Cc (args:=[.sl _ _ o xs,.str c]) (sJoin_ev xs c d)
theorem hS5_ok:bf hE hS5:=by
 unfold hS5;refine bf.cons (fun args r h=>?_) (bf.cons (fun args r h=>?_) Nj);all_goals (revert h;intro h;first|unfold hJoS at h|unfold Uo at h)
 all_goals (split at h;rotate_left; · cases h)
 all_goals (simp only[aR,bM] at h;obtain⟨a,rfl⟩:=h)
 ·exact hJoS_ok _ _ _ _ _ a
 exact adU _ a
theorem hJnS_ok (xs:ah) (a:jnC xs=true):aj hE 34 [.sl 9 [.str] none xs] (.tup [.str (tF xs),.int .i64 (rC xs)]):=by
 unfold jnC at a;rw[decide_eq_true_iff] at a;have b:(uM xs).length=xs.length:=by unfold uM;simp
 refine Fh KO hS5_ok (args:=[.old (.sl 9 [.str] none xs)]) 18 3 ?_;rw[adY];by_cases c:16<xs.length
 ·rw[bH (by rw[aD];omega)]
  unfold tF rC dZ;rw[if_pos (by omega)];rfl
 have k:ak (av 0 (ay xs)) (ak (av (ay xs) (ay xs)) (av (ay xs) 16777216))=true:=by rw[aM,aM,aB,aB,aB,aD];omega
 rw[bF (by rw[aD];omega),k];have e:Cy (ay xs) (V.str [])=bE []++List.replicate xs.length (V.str []):=by unfold Cy;rw[aD,Kr];rfl
 rw[e];have:=jn_spec hS5_ok 18 xs (by omega) a xs.length 0 18 [] (by omega) (by omega) (by simp);rw[show(((0:Nat):Int))=0 from rfl,Yx] at this;rw[←jnV_eq xs (by omega),←this];rfl
def bY (s:af):ah:=bE (vo s).1
def MF (s:af):Int:=(vo s).2
noncomputable def hOfS:aC:=fun a=>match a with|[.str s]=>some (av (aA s) 4000000,.tup [.sl 9 [.str] none (bY s),.int .i64 (MF s)])|_=>none
noncomputable def hJnS:aC:=fun a=>match a with|[.sl 9 [.str] none xs]=>some (jnC xs,.tup [.str (tF xs),.int .i64 (rC xs)])|_=>none
noncomputable def Tt:List (Nat×aC):=(44,hOfS)::(34,hJnS)::(60,Uo)::hS0
noncomputable def hL:List (Nat×aC):=Tt
theorem hOfS_ok (s:af) (a:av (aA s) 4000000=true):aj hE 44 [.str s] (.tup [.sl 9 [.str] none (bY s),.int .i64 (MF s)]):=by
 have h:=fOf_ev s (WA a);unfold YU at h;unfold bY MF
 cases e:bE (vo s).1 with
 |nil=>rw[e] at h;exact OY h
 |cons x l=>rw[e] at h;exact h
end Nt.Ev.YtknhlobahpgkeaaGreatDoor
