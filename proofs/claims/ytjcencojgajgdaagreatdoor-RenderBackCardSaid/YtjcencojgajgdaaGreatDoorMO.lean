/-
  Fields of a line: the plain law. Fields of a line, one at a time: the plain law.
-/
import Derived.Test.YtjcencojgajgdaaGreatDoorMD
import Derived.Test.YtjcencojgajgdaaGreatDoorMS
import Derived.Test.YtjcencojgajgdaaGreatDoorMP
set_option linter.all false
set_option maxRecDepth 100000
namespace Nt.Fld
open Go Nt.Ev
def AB (out:List (af)):List (af)×Int:=if 16<out.length then([],6) else(out,0)
def o6 (op:Bool) (out:List (af)) (f:af):List (af):=sel op (out++[f]) out
def oh:af→List (af)→af→Bool→Bool→List (af)×Int
 |[],out,f,op,a=>sel a ([],8) (AB (o6 op out f))
 |c::t,out,f,op,a=>sel a
  (sel (c==34) (oh t out f op false) (oh t out (f++[c]) op true))
  (sel (c==35) (AB (o6 op out f)) (sel (c==9) (oh t (o6 op out f) [] false false) (sel (c==32) (oh t (o6 op out f) [] false false)
   (sel (c==34) (oh t out f true true) (oh t out (f++[c]) true false)))))
def wN (s:af):List (af)×Int:=oh s [] [] false false
def wO (c:UInt8):Bool:=c==9||c==32||c==35
def ou (s:af):af×Int:=if s.contains 34=true then([],8) else if s=[]∨s.any wO=true then([34]++s++[34],0) else(s,0)
def bX:List (af)→af×Int
 |[]=>([],0)
 |x::l=>if(ou x).2=0 then(if(bX l).2=0 then([32]++(ou x).1++(bX l).1,0) else([],(bX l).2)) else([],(ou x).2)
def eF (l:List (af)):af×Int:=if 16<l.length then([],6) else if(bX l).2=0 then((bX l).1.drop 1,0) else([],(bX l).2)
theorem tx_err (x:af):(ou x).2=0∨(ou x).2=8:=by
 unfold ou
 (repeat' split)<;>simp
theorem tx_ok {x:af} (h:(ou x).2=0):x.contains 34=false:=by
 unfold ou at h
 cases e:x.contains 34 with
 |false=>rfl
 |true=>rw[e,if_pos rfl] at h;cases h
theorem D5 (a:af) (out:List (af)) (op:Bool): ∀(x f:af),x.contains 34=false→oh (x++a) out f op true=oh a out (f++x) op true
 |[],f,_=>by simp
 |c::x,f,h=>by
  rw[Zy,Fz] at h;have b:(c==34)=false:=by rw[uD] at h⊢;exact fun e=>h.1 e.symm
  show sel true (sel (c==34) _ (oh (x++a) out (f++[c]) op true)) _=_;rw[b];show oh (x++a) out (f++[c]) op true=_;rw[D5 a out op x (f++[c]) h.2];simp
theorem Jc (a:af) (out:List (af)): ∀(x f:af) (op:Bool),x.contains 34=false→x.any wO=false→oh (x++a) out f op false=oh a out (f++x) (op|| !x.isEmpty) false
 |[],f,op,_,_=>by simp
 |c::x,f,op,h,d=>by
  rw[Zy,Fz] at h;have g:(c==34)=false:=by rw[uD] at h⊢;exact fun e=>h.1 e.symm
  rw[abM,Fz] at d;have b:=d.1;unfold wO at b;rw[Fz,Fz] at b;show sel false _ (sel (c==35) _ (sel (c==9) _ (sel (c==32) _ (sel (c==34) _ (oh (x++a) out (f++[c]) true false)))))=_;rw[b.2,b.1.1,b.1.2,g];show oh (x++a) out (f++[c]) true false=_;rw[Jc a out x (f++[c]) true h.2 d.2];simp
theorem YA (x a:af) (out:List (af)) (h:(ou x).2=0):oh ((ou x).1++a) out [] false false=oh a out x true false:=by
 have d:=tx_ok h;unfold ou;rw[d,if_neg (by decide)];by_cases b:x=[]∨x.any wO=true
 ·rw[if_pos b]
  show oh ([34]++x++[34]++a) out [] false false=_;have e:[34]++x++[34]++a=34::(x++(34::a)):=by simp
  rw[e];show oh (x++(34::a)) out [] true true=_;rw[D5 (34::a) out true x [] d];rfl
 rw[if_neg b];have f:x≠[]:=fun e=>b (.inl e)
 have g:x.any wO=false:=by
  cases e:x.any wO with
  |false=>rfl
  |true=>exact absurd (.inr e) b
 show oh (x++a) out [] false false=_;rw[Jc a out x [] false d g]
 cases x with
 |nil=>exact absurd rfl f
 |cons c t=>rfl
def blankB (c:UInt8):Bool:=c==9||c==32
theorem of_blank (c:UInt8) (a:af) (out:List (af)) (f:af) (op:Bool) (h:blankB c=true):oh (c::a) out f op false=oh a (o6 op out f) [] false false:=by
 unfold blankB at h;have b:c=9∨c=32:=by simpa using h
 rcases b with rfl|rfl<;>rfl
theorem Jd (a:af): ∀(l:List (af)) (out:List (af)) (f:af),(bX l).2=0→oh ((bX l).1++a) out f true false=oh a (out++((f::l).dropLast)) ((f::l).getLast (by simp)) true false
 |[],out,f,_=>by simp[bX]
 |x::l,out,f,h=>by
  unfold bX at h⊢;by_cases c:(ou x).2=0
  ·rw[if_pos c] at h⊢
   by_cases b:(bX l).2=0
   ·rw[if_pos b]
    show oh ([32]++(ou x).1++(bX l).1++a) out f true false=_;have e:[32]++(ou x).1++(bX l).1++a=32::((ou x).1++((bX l).1++a)):=by simp
    rw[e,of_blank 32 _ out f true rfl,YA x _ _ c];rw[Jd a l (o6 true out f) x b];have d:o6 true out f=out++[f]:=rfl;rw[d];congr 1;simp[List.dropLast_cons_of_ne_nil]
   rw[if_neg b] at h;exact absurd h b
  rw[if_neg c] at h;exact absurd h c
theorem join_ok {l:List (af)} (h:(eF l).2=0):l.length≤16∧(bX l).2=0∧(eF l).1=(bX l).1.drop 1:=by
 unfold eF at h⊢;by_cases b:16<l.length
 ·rw[if_pos b] at h;cases h
 rw[if_neg b] at h⊢;by_cases a:(bX l).2=0
 ·rw[if_pos a];exact⟨by omega,a,rfl⟩
 rw[if_neg a] at h;exact absurd h a
theorem YB (l:List (af)) (h:(eF l).2=0):wN (eF l).1=(l,0):=by
 obtain⟨g,a,f⟩:=join_ok h;rw[f]
 cases l with
 |nil=>rfl
 |cons x l=>
  unfold bX at a⊢;by_cases b:(ou x).2=0
  ·rw[if_pos b] at a⊢
   by_cases c:(bX l).2=0
   ·rw[if_pos c]
    have e:([32]++(ou x).1++(bX l).1).drop 1=(ou x).1++(bX l).1:=by simp
    show oh (([32]++(ou x).1++(bX l).1).drop 1) [] [] false false=_;rw[e,YA x _ _ b];have:=Jd [] l [] x c;rw[FC] at this;rw[this];show AB (o6 true ([]++(x::l).dropLast) ((x::l).getLast _))=_;have d:o6 true ([]++(x::l).dropLast) ((x::l).getLast (by simp))=x::l:=by show([]++(x::l).dropLast)++[(x::l).getLast _]=_;rw[FD,acM]
    rw[d];unfold AB;rw[if_neg (by omega)]
   rw[if_neg c] at a;exact absurd a c
  rw[if_neg b] at a;exact absurd a b
theorem Pf {x:af} (h:x.contains 34=false):(ou x).2=0:=by unfold ou;rw[h,if_neg (by decide)];split<;>rfl
theorem r9: ∀(l:List (af)),(∀x∈l,x.contains 34=false)→(bX l).2=0
 |[],_=>rfl
 |x::l,h=>by unfold bX;rw[if_pos (Pf (h x rf)),if_pos (r9 l fun y a=>h y (uO _ a))]
def upTo (t:af):af:=t.takeWhile fun c=>c != 34
def behind (t:af):af:=t.drop ((upTo t).length+1)
def vo:Nat→af→af→Bool×af×af
 |0,s,f=>(false,f,s)
 |n+1,[],f=>(false,f,[])
 |n+1,c::t,f=>sel (wO c) (false,f,c::t) (sel (c==34) (sel (t.contains 34) (vo n (behind t) (f++upTo t)) (true,f,t)) (vo n t (f++[c])))
def CP (s:af):af:=s.dropWhile fun b=>([32,9]:af).contains b
def nd (s:af):Bool×af×af:=vo ((CP s).length+1) (CP s) []
def CQ (s:af):Bool:=match CP s with|[]=>false|c::_=>!(c==35)
def Nq (s:af):Bool:=CQ s&&(nd s).1
def Nr (s:af):af:=sel (CQ s) (nd s).2.1 []
def xQ (s:af):af:=sel (CQ s) (nd s).2.2 (CP s)
theorem Af: ∀t:af,t.contains 34=true→t=upTo t++34::behind t∧(upTo t).contains 34=false
 |[],h=>by cases h
 |c::t,h=>by
  by_cases a:c=34
  ·subst a
   exact⟨rfl,rfl⟩
  have g:t.contains 34=true:=by
   rw[Zy,Kn] at h;rcases h with h|h
   ·rw[iJ] at h;exact absurd h.symm a
   exact h
  obtain⟨f,j⟩:=Af t g;have i:(c != 34)=true:=by rw[acO];exact a
  have d:upTo (c::t)=c::upTo t:=by unfold upTo;rw[abh,if_pos i]
  have b:behind (c::t)=behind t:=by unfold behind;rw[d];rfl
  refine⟨by rw[d,b];simp only[Nj];rw[←f],?_⟩;rw[d,Zy,j,adi,uD];exact fun e=>a e.symm
theorem qc (t:af) (h:t.contains 34=true):(behind t).length<t.length∧(upTo t).length+(behind t).length+1=t.length:=by have:=congrArg List.length (Af t h).1;simp at this;omega
theorem YC: ∀(t:af) (out:List (af)) (f:af) (op:Bool),t.contains 34=false→oh t out f op true=([],8)
 |[],_,_,_,_=>rfl
 |c::t,out,f,op,h=>by
  rw[Zy,Fz] at h;have a:(c==34)=false:=by rw[uD] at h⊢;exact fun e=>h.1 e.symm
  show sel true (sel (c==34) _ (oh t out (f++[c]) op true)) _=_;rw[a];exact YC t out (f++[c]) op h.2
theorem of_nd: ∀(n:Nat) (s f:af) (out:List (af)),s.length<n→oh s out f true false=sel (vo n s f).1 ([],8) (oh (vo n s f).2.2 (out++[(vo n s f).2.1]) [] false false)
 |0,s,f,out,h=>by omega
 |n+1,[],f,out,h=>rfl
 |n+1,c::t,f,out,h=>by
  have h:t.length<n:=by simpa using h
  unfold vo
  cases a:wO c with
  |true=>
   show _=oh (c::t) (out++[f]) [] false false;unfold wO at a;have l:(c=9∨c=32)∨c=35:=by simpa using a
   rcases l with(rfl|rfl)|rfl<;>rfl
  |false=>
   show _=sel (sel (c==34) (sel (t.contains 34) (vo n (behind t) (f++upTo t)) (true,f,t)) (vo n t (f++[c]))).1 ([],8) _;unfold wO at a;rw[Fz,Fz] at a;obtain⟨⟨i,e⟩,b⟩:=a;have g:oh (c::t) out f true false=sel (c==34) (oh t out f true true) (oh t out (f++[c]) true false):=by show sel false _ (sel (c==35) _ (sel (c==9) _ (sel (c==32) _ _)))=_;rw[i,e,b];rfl
   rw[g]
   cases o:c==34 with
   |false=>exact of_nd n t (f++[c]) out h
   |true=>
    cases d:t.contains 34 with
    |false=>exact YC t out f true d
    |true=>
     obtain⟨k,m⟩:=Af t d;have j:oh t out f true true=oh (behind t) out (f++upTo t) true false:=by have:=D5 (34::behind t) out true (upTo t) f m;rw[←k] at this;rw[this];rfl
     show oh t out f true true=sel (vo n (behind t) (f++upTo t)).1 ([],8) _;rw[j];exact of_nd n (behind t) (f++upTo t) out (by have:=(qc t d).1;omega)
theorem Ir: ∀(n:Nat) (s f:af),s.length<n→(vo n s f).2.2.length≤s.length∧(vo n s f).2.1.length≤f.length+s.length
 |0,s,f,h=>by omega
 |n+1,[],f,h=>⟨kG _,kG _⟩
 |n+1,c::t,f,h=>by
  have h:t.length<n:=by simpa using h
  unfold vo
  cases g:wO c with
  |true=>exact⟨kG _,by simp[sel]⟩
  |false=>
   cases e:c==34 with
   |false=>have:=Ir n t (f++[c]) h;show(vo n t (f++[c])).2.2.length≤_∧(vo n t (f++[c])).2.1.length≤_;simp only[iW,dN,mr] at this⊢;omega
   |true=>
    cases a:t.contains 34 with
    |false=>show t.length≤(c::t).length∧f.length≤f.length+(c::t).length;simp
    |true=>obtain⟨b,d⟩:=qc t a;have:=Ir n (behind t) (f++upTo t) (by omega);show(vo n (behind t) (f++upTo t)).2.2.length≤_∧(vo n (behind t) (f++upTo t)).2.1.length≤_;simp only[iW,dN] at this⊢;omega
theorem Pg: ∀s:af,(CP s).length≤s.length:=fun s=>(List.dropWhile_sublist _).length_le
theorem YD: ∀(s:af) (out:List (af)),oh s out [] false false=oh (CP s) out [] false false
 |[],out=>rfl
 |c::t,out=>by
  unfold CP;rw[abm]
  cases a:([32,9]:af).contains c with
  |false=>rw[if_neg (by decide)]
  |true=>
   rw[if_pos rfl];have b:c=32∨c=9:=by simpa using a
   have:oh (c::t) out [] false false=oh t out [] false false:=by rcases b with rfl|rfl<;>rfl
   rw[this];exact YD t out
theorem R7 {s t:af} {c:UInt8} (h:CP s=c::t):(c==32)=false∧(c==9)=false:=by
 have e: ∀(l:af),CP l=c::t→([32,9]:af).contains c=false:=by
  intro l;induction l with
  |nil=>intro h;cases h
  |cons a l d=>
   intro h;unfold CP at h;rw[abm] at h
   cases b:([32,9]:af).contains a with
   |true=>rw[b,if_pos rfl] at h;exact d h
   |false=>rw[b,if_neg (by decide)] at h;simp only[Qg] at h;rw[←h.1];exact b
 have:=e s h;simpa using this
theorem of_next (s:af) (out:List (af)):oh s out [] false false=sel (CQ s) (sel (Nq s) ([],8) (oh (xQ s) (out++[Nr s]) [] false false)) (AB out):=by
 rw[YD];have f:=Pg s;unfold Nq xQ Nr nd CQ
 cases h:CP s with
 |nil=>rfl
 |cons c t=>
  rw[h] at f;simp only[h]
  cases a:c==35 with
  |true=>rw[iJ] at a;subst a;rfl
  |false=>
   obtain⟨b,e⟩:=R7 h;have d:oh (c::t) out [] false false=oh (c::t) out [] true false:=by show sel false _ (sel (c==35) _ (sel (c==9) _ (sel (c==32) _ (sel (c==34) _ _))))=sel false _ (sel (c==35) _ (sel (c==9) _ (sel (c==32) _ (sel (c==34) _ _))));rw[e,b,a];rfl
   rw[d];exact of_nd ((c::t).length+1) (c::t) [] out (by omega)
theorem Vf (s:af):(xQ s).length≤s.length∧(Nr s).length≤s.length∧(CQ s=true→Nq s=false→(xQ s).length<s.length):=by
 have b:=Pg s;have i:=Ir ((CP s).length+1) (CP s) [] (by omega);refine⟨?_,?_,?_⟩
 ·unfold xQ nd
  cases CQ s
  ·exact b
  show(vo ((CP s).length+1) (CP s) []).2.2.length≤_;omega
 ·unfold Nr nd
  cases CQ s
  ·exact Ko _
  show(vo ((CP s).length+1) (CP s) []).2.1.length≤_;have:=i.2;simp only[mr,T4] at this;omega
 intro a m;unfold xQ nd;rw[a];show(vo ((CP s).length+1) (CP s) []).2.2.length<_;unfold CQ at a
 cases h:CP s with
 |nil=>rw[h] at a;cases a
 |cons c t=>
  rw[h] at a b;have d:(c==35)=false:=by simpa using a
  obtain⟨e,g⟩:=R7 h;have b:t.length<s.length:=by simp at b;omega
  have j:wO c=false:=by unfold wO;rw[g,e,d];rfl
  show(sel (wO c) (false,[],c::t) (sel (c==34) (sel (t.contains 34) (vo (t.length+1) (behind t) ([]++upTo t)) (true,[],t)) (vo (t.length+1) t ([]++[c])))).2.2.length<_;rw[j]
  cases l:c==34 with
  |false=>show(vo (t.length+1) t ([]++[c])).2.2.length<_;have:=(Ir (t.length+1) t ([]++[c]) (by omega)).1;omega
  |true=>
   cases f:t.contains 34 with
   |false=>show t.length<_;exact b
   |true=>show(vo (t.length+1) (behind t) ([]++upTo t)).2.2.length<_;have k:=(qc t f).1;have:=(Ir (t.length+1) (behind t) ([]++upTo t) (by omega)).1;omega
end Nt.Fld
namespace Nt.Ev.YtjcencojgajgdaaGreatDoor
open Go Nt.Num Go.Proofs.YtjcencojgajgdaaGreatDoor
def ixF (s c:af):Int:=Go.Lib.indexAny s c
def jJ (l:af):Bool:=l.all fun c=>decide (c.toNat<128)
noncomputable def hE:Env:=⟨Go.Proofs.Tryz.prog,fun _=>none⟩
def vC (s:af) (c:Int):Int:=Go.Lib.indexByte s c.toNat.toUInt8
noncomputable def hAnyS:aD:=fun a=>match a with|[.str s,.str c]=>some (ak (ax (aB s) 4000000) (ak (ak (ax 2 (aB c)) (ax (aB c) 1000)) (jJ c)),.int .i64 (ixF s c))|_=>none
noncomputable def hRuneS:aD:=fun a=>match a with|[.str s,.int .i32 r]=>some (ak (ax 0 r) (aR r 128),.int .i64 (vC s r))|_=>none
noncomputable def hS0:List (Nat×aD):=(102,hAnyS)::(101,hRuneS)::[]
def ftT (s:af):af:=(Nt.Fld.ou s).1
def ftW (s:af):Int:=(Nt.Fld.ou s).2
noncomputable def Vg:aD:=fun a=>match a with|[.str s]=>some (ax (aB s) 4000000,.tup [.str (ftT s),.int .i64 (ftW s)])|_=>none
theorem aeV (F s) (K:V→Option V):
 bE hE (bC hE hS0 F 4) F 58 [V.str s] K=
 let A:=sel (fC [34] s) (sel (fC (dZ [34] s) [34]) (K (V.tup [V.str (dZ (dZ [34] s) [34]),V.int .i64 0])) none) (none);let B:=aB [32,9,35];sel (ax 0 (vC s 34)) (K (V.tup [V.str [],V.int .i64 8])) (sel (seq s []) A (sel (ak (ax (aB s) 4000000) (ak (ak (ax 2 B) (ax B 1000)) (jJ [32,9,35]))) (sel (ax 0 (ixF s [32,9,35])) A (K (V.tup [V.str s,V.int .i64 0]))) none)):=by kernel_rfl
open Go.RowKit Nt Nt.Fld
theorem Lv:uQ hE:=⟨by kernel_rfl,by kernel_rfl⟩
theorem XJ {s:af} (h:ax (aB s) 4000000=true):s.length≤4000000:=by rw[aA,aJ] at h;omega
theorem Q7 (l:af):(⟨l.toArray⟩:ByteArray).size=l.length:=by simp[ByteArray.size]
theorem hAnyS_ok (s c:af) (l:ak (ax (aB s) 4000000) (ak (ak (ax 2 (aB c)) (ax (aB c) 1000)) (jJ c))=true):aj hE 102 [.str s,.str c] (.int .i64 (ixF s c)):=by
 obtain⟨i,a⟩:=aN l;obtain⟨a,d⟩:=aN a;obtain⟨a,k⟩:=aN a;have i:=XJ i;rw[aA,aJ] at a k;refine bZ fun G w vs n m j=>?_
 obtain⟨x,y,rfl,h,g⟩:=iO j;unfold aV at h g;subst h;subst g;refine(Nt.AnyS.My Go.Proofs.Tryz.OM (by kernel_rfl) ⟨s.toArray⟩ ⟨c.toArray⟩ w (by rw[Q7];omega) (by rw[Q7];omega) (by rw[Q7];omega) (fun b f=>?_)).mono ?_
 ·have d:(c.all fun c=>decide (c.toNat<128))=true:=d
  exact FY (List.all_eq_true.1 d b f)
 rintro e w' ⟨rfl,f⟩;exact⟨_,rfl,f,qJ _ _⟩
theorem aeW (s:af) (r:Int) (a:ak (ax 0 r) (aR r 128)=true):aj hE 101 [.str s,.int .i32 r] (.int .i64 (vC s r)):=by
 rw[aM,aA,bq] at a;refine bZ fun G w vs g f d=>?_
 obtain⟨x,y,rfl,c,b⟩:=iO d;unfold aV at c b;subst c;subst b;refine(Go.Proofs.Tryz.strings_IndexRune_ascii ⟨s.toArray⟩ r w a.1 a.2).mono ?_;rintro e w' ⟨rfl,rfl⟩;exact⟨_,rfl,Below.refl _ _,qJ _ _⟩
theorem hS0_ok:aZ hE hS0:=by
 unfold hS0;refine aZ.cons (fun args r h=>?_) (aZ.cons (fun args r h=>?_) aZ.nil);all_goals (revert h;intro h;first|unfold hAnyS at h|unfold hRuneS at h)
 all_goals (split at h;rotate_left; · cases h)
 all_goals (simp only[aT,bP] at h;obtain⟨a,rfl⟩:=h)
 ·exact hAnyS_ok _ _ a
 exact aeW _ _ a
theorem YE (b c:UInt8) (l:af):Lib.indexByte (b::l) c=if b==c then 0 else if Lib.indexByte l c== -1 then -1 else Lib.indexByte l c+1:=rfl
theorem ib_has: ∀(l:af) (c:UInt8),-1≤Lib.indexByte l c∧((0≤Lib.indexByte l c)↔l.contains c=true)
 |[],c=>⟨show(-1:Int)≤ -1 by decide,by simp[Lib.indexByte]⟩
 |b::l,c=>by
  obtain⟨f,d⟩:=ib_has l c;rw[YE,Zy]
  cases a:b==c with
  |true=>
   have:(c==b)=true:=by rw[iJ] at a⊢;exact a.symm
   rw[this];simp
  |false=>
   have:(c==b)=false:=by rw[uD] at a⊢;exact fun e=>a e.symm
   rw[this,abT,if_neg (by decide)];by_cases h:Lib.indexByte l c= -1
   ·rw[if_pos (by rw[h];rfl)]
    refine⟨by decide,?_⟩;rw[←d];omega
   rw[if_neg (by simpa using h)];refine⟨by omega,?_⟩;rw[←d];omega
theorem ia_cons (b:UInt8) (l c:af):Lib.indexAny (b::l) c=if c.contains b then 0 else if Lib.indexAny l c== -1 then -1 else Lib.indexAny l c+1:=rfl
theorem ia_has (c:af): ∀(l:af),-1≤Lib.indexAny l c∧((0≤Lib.indexAny l c)↔l.any (fun b=>c.contains b)=true)
 |[]=>⟨show(-1:Int)≤ -1 by decide,by simp[Lib.indexAny]⟩
 |b::l=>by
  obtain⟨d,a⟩:=ia_has c l;rw[ia_cons,abM]
  cases e:c.contains b with
  |true=>simp
  |false=>
   rw[abT,if_neg (by decide)];by_cases h:Lib.indexAny l c= -1
   ·rw[if_pos (by rw[h];rfl)]
    refine⟨by decide,?_⟩;rw[←a];omega
   rw[if_neg (by simpa using h)];refine⟨by omega,?_⟩;rw[←a];omega
theorem sp_any (s:af):s.any (fun b=>([32,9,35]:af).contains b)=s.any wO:=by
 congr 1
 funext b
 obtain⟨⟨m⟩⟩:=b;revert m;decide+kernel
theorem aeX (s:af) (b:ax (aB s) 4000000=true):aj hE 58 [.str s] (.tup [.str (ftT s),.int .i64 (ftW s)]):=by
 have j:=XJ b;refine au Lv hS0_ok 5 4 ?_;have d:ax 0 (vC s 34)=s.contains 34:=by rw[uF,aA];exact(ib_has s 34).2
 have f:ax 0 (ixF s [32,9,35])=s.any wO:=by rw[←sp_any,uF,aA];exact(ia_has [32,9,35] s).2
 have i:fC [34] s=true:=by rw[gV];simp;omega
 have c:fC (dZ [34] s) [34]=true:=by rw[gV];unfold dZ;simp;omega
 have g:ak (ax (aB s) 4000000) (ak (ak (ax 2 (aB [32,9,35])) (ax (aB [32,9,35]) 1000)) (jJ [32,9,35]))=true:=by rw[b];rfl
 (rw[aeV];(conv=>zeta);rw[d,f,i,c,g])
 unfold ftT ftW ou
 cases k:s.contains 34 with
 |true=>rfl
 |false=>
  rw[if_neg (by decide)];by_cases a:s=[]
  ·rw[if_pos (Or.inl a),show seq s []=true by rw[dx];exact a];rfl
  rw[show seq s []=false by cases e:seq s [] with|false=>rfl|true=>rw[dx] at e;exact absurd e a]
  cases l:s.any wO with
  |true=>rw[if_pos (Or.inr rfl)];rfl
  |false=>rw[if_neg (fun h=>h.elim a (fun h=>by cases h))];rfl
theorem u8q (c:UInt8) (n:Nat) (d:UInt8) (h:d.toNat=n):ieq ((c.toNat:Nat):Int) (n:Int)=(c==d):=by rw[uF,aO,iJ,←acA,h];omega
def bI (l:List (af)):ah:=l.map V.str
theorem aeY (l:List (af)) (x:af):aX (bI l) [V.str x]=bI (l++[x]):=by unfold aX bI;simp
def tlT (s c:af):af:=s.dropWhile fun b=>c.contains b
def irI (s:af) (r:Int):Int:=if r<128 then vC s r else -1
noncomputable def hByS:aD:=fun a=>match a with|[.str s,.int .u8 c]=>some (true,.int .i64 (vC s c))|_=>none
noncomputable def hTlS:aD:=fun a=>match a with|[.str s,.str c]=>some (ak (ax (aB c) 1000) (jJ c),.str (tlT s c))|_=>none
noncomputable def hRnS:aD:=fun a=>match a with|[.str s,.int .i32 r]=>some (ak (ax 0 r) (ak (jJ s) (ax (aB s) 1000)),.int .i64 (irI s r))|_=>none
noncomputable def hS2:List (Nat×aD):=(63,hByS)::(114,hTlS)::(101,hRnS)::[]
theorem hByS_ok (s:af) (c:Int) (h:true=true):aj hE 63 [.str s,.int .u8 c] (.int .i64 (vC s c)):=by
 refine bZ fun G w vs g f d=>?_
 obtain⟨x,y,rfl,b,a⟩:=iO d;unfold aV at b a;subst b;subst a;refine(Go.Proofs.Tryz.strings_IndexByte ⟨s.toArray⟩ c w).mono ?_;rintro e w' ⟨rfl,rfl⟩;exact⟨_,rfl,Below.refl _ _,qJ _ _⟩
theorem hTlS_ok (s c:af) (l:ak (ax (aB c) 1000) (jJ c)=true):aj hE 114 [.str s,.str c] (.str (tlT s c)):=by
 obtain⟨k,h⟩:=aN l;rw[aA,aJ] at k;refine bZ fun G w vs n m g=>?_
 obtain⟨x,y,rfl,f,d⟩:=iO g;unfold aV at f d;subst f;subst d;refine(Go.Proofs.Any.strings_TrimLeft_laid Go.Proofs.Tryz.lays161 (by kernel_rfl) ⟨s.toArray⟩ ⟨c.toArray⟩ w (by rw[Q7];omega) (fun j b a=>?_)).mono ?_
 ·have i:(c.all fun c=>decide (c.toNat<128))=true:=h
  exact FY (List.all_eq_true.1 i b (GR a))
 rintro e w' ⟨rfl,a⟩;exact⟨_,rfl,a,OI _⟩
theorem hRnS_ok (s:af) (r:Int) (m:ak (ax 0 r) (ak (jJ s) (ax (aB s) 1000))=true):aj hE 101 [.str s,.int .i32 r] (.int .i64 (irI s r)):=by
 obtain⟨j,a⟩:=aN m;obtain⟨a,i⟩:=aN a;rw[aA] at j i;rw[aJ] at i;refine bZ fun G w vs o n k=>?_
 obtain⟨x,y,rfl,h,g⟩:=iO k;unfold aV at h g;subst h;subst g;unfold irI;by_cases d:r<128
 ·rw[if_pos d]
  refine(Go.Proofs.Tryz.strings_IndexRune_ascii ⟨s.toArray⟩ r w j d).mono ?_;rintro e w' ⟨rfl,rfl⟩;exact⟨_,rfl,Below.refl _ _,qJ _ _⟩
 rw[if_neg d];refine(Nt.AnyS.uM Go.Proofs.Tryz.Yc ⟨s.toArray⟩ r w (by omega) (fun b f=>?_) (by rw[Q7];omega)).mono ?_
 ·have l:(s.all fun c=>decide (c.toNat<128))=true:=a
  exact FY (List.all_eq_true.1 l b f)
 rintro e w' ⟨rfl,f⟩;exact⟨_,rfl,f,qJ _ _⟩
theorem hS2_ok:aZ hE hS2:=by
 unfold hS2;refine aZ.cons (fun args r h=>?_) (aZ.cons (fun args r h=>?_) (aZ.cons (fun args r h=>?_) aZ.nil));all_goals (revert h;intro h;first|unfold hByS at h|unfold hTlS at h|unfold hRnS at h)
 all_goals (split at h;rotate_left; · cases h)
 all_goals (simp only[aT,bP] at h;obtain⟨a,rfl⟩:=h)
 ·exact hByS_ok _ _ rfl
 ·exact hTlS_ok _ _ a
 exact hRnS_ok _ _ a
noncomputable def QF:V→Bool| .nilp=>true| .box k off=>k==HL&&off==0|_=>false
noncomputable def bufOk:V→Bool| .nilsl=>true| .sl e sh (some L) xs=>e==5&&Kd.tq [.int .u8] sh&&L==1000001002|_=>false
noncomputable def bufS:V→af| .sl _ _ _ xs=>gq xs|_=>[]
noncomputable def bufN:V→V| .sl e sh _ xs=> .sl e sh none xs|v=>v
noncomputable def hCpS:aD:=fun a=>match a with|[.bxa 0 [x,b]]=>some (QF x,.out false (.tup []) [[.box HL 0,b]])|_=>none
noncomputable def hStS:aD:=fun a=>match a with|[.bxa 0 [x,b]]=>some (ak (QF x) (bufOk b),.out false (.str (bufS b)) [[x,bufN b]])|_=>none
noncomputable def hS3:List (Nat×aD):=(GX+60,hCpS)::(GX+21,hStS)::hS2
noncomputable def BI:=fun F b n c a K=>(qI hE hS3 F 3 93 [V.bxa 0 []] [1,1,1,1,0,0] b K n (fB 71 [(0,V.box 1000000000 0),(2,V.str []),(3,V.bool c),(4,V.box 4 0)] [(4,[V.nilp,V.nilsl]),(1000000000,[V.str a])]):Option V)
noncomputable def kQ:=fun F c n d b a K=>(qI hE hS3 F 3 93 [V.bxa 0 []] [1,1,1,1,0,0] c K n (fB 71 [(0,V.box 1000000000 0),(2,V.str []),(3,V.bool d),(4,V.box 4 0)] [(4,[V.box 4 0,V.sl 5 [Kd.int .u8] (some 50001) b]),(1000000000,[V.str a])]):Option V)
theorem aeZ (F s) (K:V→Option V):
 bE hE (bC hE hS3 F 3) F 93 [V.bxa 0 [V.str s]] K=
 let B:=tlT s [32,9];let A:=K (V.out false (V.tup [V.str [],V.bool false]) [[V.str B]]);sel (ak (ax (aB [32,9]) 1000) (jJ [32,9])) (sel (seq B []) A (sel (ak (ax 0 0) (aR 0 (aB B))) (sel (ieq (sat B 0) 35) A (BI F [] F false B K)) none)) none:=by kernel_rfl
theorem yI (F n b a K):
 BI F [] (n+1) b a K=
 let B:=K (V.out false (V.tup [V.str [],V.bool true]) [[V.str a]]);let D:=sat a 0;let G:=aB a;let A:=dQ a 1 G;let C:=ak (ax 0 0) (aR 0 G);let E:=vC A 34;let H:=bg .i64 E 1;let I:=aH (dQ A 0 E);sel (aL (seq a [])) (sel C (sel (aL (ieq D 35)) (sel C (sel (ak (ax 0 (qo .i32 D)) (ak (jJ [32,9]) (ax (aB [32,9]) 1000))) (sel (aL (ax 0 (irI [32,9] (qo .i32 D)))) (sel C (sel (ak (ax 0 1) (ax 1 G)) (sel (ieq D 34) (sel (aR E 0) (K (V.out true (V.iface 153 (V.agg [V.int .i64 8])) [[V.str A]])) (sel (ak (ax 0 E) (ax E (aB A))) (sel (ak (ax 0 H) (ax H (aB A))) (sel (rJ I) (kQ F [] n b I (dQ A H (aB A)) K) none) none) none)) (kQ F [] n b [V.int .u8 D] A K)) none) none) B) none) none) B) none) B:=by kernel_rfl
theorem yJ (F n c b a K):
 kQ F [] (n+1) c b a K=
 let B:=K (V.out false (V.tup [V.str (gq b),V.bool true]) [[V.str a]]);let C:=sat a 0;let G:=aB a;let A:=dQ a 1 G;let D:=ak (ax 0 0) (aR 0 G);let E:=vC A 34;let H:=bg .i64 E 1;let I:=aH (dQ A 0 E);sel (aL (seq a [])) (sel D (sel (aL (ieq C 35)) (sel D (sel (ak (ax 0 (qo .i32 C)) (ak (jJ [32,9]) (ax (aB [32,9]) 1000))) (sel (aL (ax 0 (irI [32,9] (qo .i32 C)))) (sel D (sel (ak (ax 0 1) (ax 1 G)) (sel (ieq C 34) (sel (aR E 0) (K (V.out true (V.iface 153 (V.agg [V.int .i64 8])) [[V.str A]])) (sel (ak (ax 0 E) (ax E (aB A))) (sel (ak (ax 0 H) (ax H (aB A))) (sel (dh b I) (kQ F [] n c (aX b I) (dQ A H (aB A)) K) none) none) none)) (sel (dh b [V.int .u8 C]) (kQ F [] n c (aX b [V.int .u8 C]) A K) none)) none) none) B) none) none) B) none) B:=by kernel_rfl
theorem Je {x:V} (h:QF x=true):x=.nilp∨x=.box HL 0:=by
 unfold QF at h;split at h
 ·exact .inl rfl
 ·rename_i k off
  rw[bF,iJ,iJ] at h;rw[h.1,h.2];exact .inr rfl
 cases h
theorem YF (x b:V) (a:QF x=true):nQ hE 60 [.bxa 0 [x,b]] (.out false (.tup []) [[.box HL 0,b]]):=
 nQ.out (YG rfl x b [] (Je a))
theorem YH (x b:V) (f:ak (QF x) (bufOk b)=true):nQ hE 21 [.bxa 0 [x,b]] (.out false (.str (bufS b)) [[x,bufN b]]):=by
 obtain⟨d,a⟩:=aN f;refine nQ.out ?_;unfold bufOk at a;split at a
 ·exact yK rfl x []
 ·rename_i e sh L xs
  rw[bF,bF,iJ,iJ] at a;obtain⟨⟨rfl,c⟩,rfl⟩:=a;have c:=Kd.cu _ _ c;subst c;exact MV rfl x [] (by rcases Je d with rfl|rfl<;>rfl) rfl xs
 cases a
theorem NZ:aZ hE hS3:=by
 unfold hS3;refine aZ.ny (fun args r h=>?_) (aZ.ny (fun args r h=>?_) hS2_ok);all_goals (revert h;intro h;first|unfold hCpS at h|unfold hStS at h)
 all_goals (split at h;rotate_left; · cases h)
 all_goals (simp only[aT,bP] at h;obtain⟨a,rfl⟩:=h)
 ·exact YF _ _ a
 exact YH _ _ a
theorem lc_map (l:af) (c:UInt8):aX (aH l) [V.int .u8 (c.toNat:Int)]=aH (l++[c]):=by unfold aX aH;simp
theorem Vh (l:af):gq (aH l)=l:=by unfold gq aH;rw[F3];exact(abf fun c _=>by show UInt8.ofNat ((c.toNat:Int)).toNat=c;simp).trans (adh l)
theorem Ph: ∀(t:af),Lib.indexByte t 34=if t.contains 34=true then((upTo t).length:Int) else -1
 |[]=>rfl
 |b::l=>by
  rw[YE,Ph l]
  cases a:b==34 with
  |true=>rw[iJ] at a;subst a;rfl
  |false=>
   have d:(b::l).contains 34=l.contains 34:=by
    rw[Zy];have:((34:UInt8)==b)=false:=by rw[uD] at a⊢;exact fun e=>a e.symm
    rw[this,abT]
   have c:upTo (b::l)=b::upTo l:=by unfold upTo;rw[abh,if_pos (by simpa using a)]
   rw[d,c,if_neg (by decide)]
   cases f:l.contains 34 with
   |true=>
    rw[if_pos rfl,if_pos rfl];have: ¬((((upTo l).length:Int)== -1)=true):=by rw[iJ];omega
    rw[if_neg this];simp
   |false=>rfl
theorem MW (t:af):t.take (upTo t).length=upTo t:=by
 unfold upTo;have: ∀l:af,l.take (l.takeWhile fun c=>c != 34).length=l.takeWhile fun c=>c != 34:=by
  intro l;induction l with
  |nil=>rfl
  |cons a l b=>
   rw[abh];split
   ·rw[dN,acp,b]
   rfl
 exact this t
theorem R8 (c:UInt8):ax 0 (irI [32,9] (qo .i32 ((c.toNat:Nat):Int)))=(c==9||c==32):=by obtain⟨⟨m⟩⟩:=c;revert m;decide+kernel
theorem YI (c:UInt8):ax 0 (qo .i32 ((c.toNat:Nat):Int))=true:=by obtain⟨⟨m⟩⟩:=c;revert m;decide+kernel
def AY (p:Bool×af×af):V:=sel p.1 (V.out true (V.iface 153 (V.agg [V.int .i64 8])) [[V.str p.2.2]]) (V.out false (V.tup [V.str p.2.1,V.bool true]) [[V.str p.2.2]])
theorem tfN {α:Type} (x y:α):sel true x y=x∧sel false x y=y:=⟨rfl,rfl⟩
theorem Gl (F:Nat): ∀(n:Nat) (s f:af),s.length<n→s.length+f.length≤9000000→kQ F [] n false (aH f) s some=some (AY (vo n s f))
 |0,s,f,h,_=>by omega
 |n+1,[],f,h,k=>by (rw[yJ];(conv=>zeta);rw[Vh]);rfl
 |n+1,c::t,f,h,k=>by
  have h:t.length<n:=by simpa using h
  have v:t.length+f.length+1≤9000000:=by simp at k;omega
  have l:aL (seq (c::t) [])=true:=rfl;have z:ak (ax 0 0) (aR 0 (aB (c::t)))=true:=by rw[aM,aA,bq,aJ];simp
  have w:sat (c::t) 0=((c.toNat:Nat):Int):=rfl;have C:ak (jJ [32,9]) (ax (aB [32,9]) 1000)=true:=rfl;have x:ak (ax 0 1) (ax 1 (aB (c::t)))=true:=by rw[aM,aA,aA,aJ];simp;omega
  have y:dQ (c::t) 1 (aB (c::t))=t:=by
   unfold dQ;rw[aJ];have:((((c::t).length:Nat):Int).toNat-(1:Int).toNat)=t.length:=by simp
   rw[this];exact Qe (kG _)
  have e:ieq ((c.toNat:Nat):Int) 34=(c==34):=u8q _ 34 34 rfl;have g:ieq ((c.toNat:Nat):Int) 35=(c==35):=u8q _ 35 35 rfl;have A:ak (ax 0 (qo .i32 ((c.toNat:Nat):Int))) true=true:=by rw[YI];rfl
  have m:dh (aH f) [V.int .u8 ((c.toNat:Nat):Int)]=true:=by rw[gW];unfold aH;simp;omega
  (rw[yJ];(conv=>zeta))
  simp only[l,z,w,C,x,y,e,g,A,m,R8,Vh,lc_map,tfN];unfold vo
  cases a:c==35 with
  |true=>
   have b:wO c=true:=by unfold wO;rw[a];simp
   rw[b];rfl
  |false=>
   cases j:(c==9||c==32) with
   |true=>
    have b:wO c=true:=by unfold wO;rw[j,a];rfl
    rw[b];rfl
   |false=>
    have b:wO c=false:=by unfold wO;rw[j,a];rfl
    rw[b]
    cases H:c==34 with
    |false=>show kQ F [] n false (aH (f++[c])) t some=_;rw[Gl F n t (f++[c]) h (by simp;omega)];rfl
    |true=>
     have d:vC t 34=if t.contains 34=true then((upTo t).length:Int) else -1:=Ph t
     cases i:t.contains 34 with
     |false=>rw[i,if_neg (by decide)] at d;rw[d];rfl
     |true=>
      rw[i,if_pos rfl] at d;obtain⟨G,I⟩:=qc t i;have p:aR ((upTo t).length:Int) 0=false:=bB (by omega);have D:ak (ax 0 ((upTo t).length:Int)) (ax ((upTo t).length:Int) (aB t))=true:=by rw[aM,aA,aA,aJ];omega
      have q:bg .i64 ((upTo t).length:Int) 1=(((upTo t).length+1:Nat):Int):=by rw[cr (by omega)];omega
      have u:ak (ax 0 (((upTo t).length+1:Nat):Int)) (ax (((upTo t).length+1:Nat):Int) (aB t))=true:=by rw[aM,aA,aA,aJ];omega
      have o:dQ t 0 ((upTo t).length:Int)=upTo t:=by unfold dQ;simp only[K7,Int.toNat_zero,WX,acy];exact MW t
      have r:dQ t (((upTo t).length+1:Nat):Int) (aB t)=behind t:=by unfold dQ behind;rw[aJ,K7,K7];exact Qe (by simp)
      have E:dh (aH f) (aH (upTo t))=true:=by rw[gW];unfold aH;simp;omega
      have B:aX (aH f) (aH (upTo t))=aH (f++upTo t):=by unfold aX aH;simp
      simp only[d,p,D,q,u,o,r,E,B];show kQ F [] n false (aH (f++upTo t)) (behind t) some=_;rw[Gl F n (behind t) (f++upTo t) (by omega) (by simp;omega)];rfl
theorem fn_first (F n:Nat) (s:af) (h:s.length<n+1) (v:s.length≤9000000):BI F [] (n+1) false s some=some (AY (vo (n+1) s [])):=by
 cases s with
 |nil=>(rw[yI];(conv=>zeta));rfl
 |cons c t=>
  have h:t.length<n:=by simpa using h
  have q:t.length+1≤9000000:=by simpa using v
  have j:aL (seq (c::t) [])=true:=rfl;have x:ak (ax 0 0) (aR 0 (aB (c::t)))=true:=by rw[aM,aA,bq,aJ];simp
  have r:sat (c::t) 0=((c.toNat:Nat):Int):=rfl;have z:ak (jJ [32,9]) (ax (aB [32,9]) 1000)=true:=rfl;have u:ak (ax 0 1) (ax 1 (aB (c::t)))=true:=by rw[aM,aA,aA,aJ];simp;omega
  have w:dQ (c::t) 1 (aB (c::t))=t:=by
   unfold dQ;rw[aJ];have:((((c::t).length:Nat):Int).toNat-(1:Int).toNat)=t.length:=by simp
   rw[this];exact Qe (kG _)
  have e:ieq ((c.toNat:Nat):Int) 34=(c==34):=u8q _ 34 34 rfl;have f:ieq ((c.toNat:Nat):Int) 35=(c==35):=u8q _ 35 35 rfl;have y:ak (ax 0 (qo .i32 ((c.toNat:Nat):Int))) true=true:=by rw[YI];rfl
  (rw[yI];(conv=>zeta))
  simp only[j,x,r,z,u,w,e,f,y,R8,tfN];unfold vo
  cases a:c==35 with
  |true=>
   have b:wO c=true:=by unfold wO;rw[a];simp
   rw[b];rfl
  |false=>
   cases i:(c==9||c==32) with
   |true=>
    have b:wO c=true:=by unfold wO;rw[i,a];rfl
    rw[b];rfl
   |false=>
    have b:wO c=false:=by unfold wO;rw[i,a];rfl
    rw[b]
    cases D:c==34 with
    |false=>show kQ F [] n false (aH [c]) t some=_;rw[Gl F n t [c] h (by simp;omega)];rfl
    |true=>
     have d:vC t 34=if t.contains 34=true then((upTo t).length:Int) else -1:=Ph t
     cases g:t.contains 34 with
     |false=>rw[g,if_neg (by decide)] at d;rw[d];rfl
     |true=>
      rw[g,if_pos rfl] at d;obtain⟨C,E⟩:=qc t g;have l:aR ((upTo t).length:Int) 0=false:=bB (by omega);have A:ak (ax 0 ((upTo t).length:Int)) (ax ((upTo t).length:Int) (aB t))=true:=by rw[aM,aA,aA,aJ];omega
      have m:bg .i64 ((upTo t).length:Int) 1=(((upTo t).length+1:Nat):Int):=by rw[cr (by omega)];omega
      have p:ak (ax 0 (((upTo t).length+1:Nat):Int)) (ax (((upTo t).length+1:Nat):Int) (aB t))=true:=by rw[aM,aA,aA,aJ];omega
      have k:dQ t 0 ((upTo t).length:Int)=upTo t:=by unfold dQ;simp only[K7,Int.toNat_zero,WX,acy];exact MW t
      have o:dQ t (((upTo t).length+1:Nat):Int) (aB t)=behind t:=by unfold dQ behind;rw[aJ,K7,K7];exact Qe (by simp)
      have B:rJ (aH (upTo t))=true:=by unfold rJ aH;rw[Bd];simp;omega
      simp only[d,l,A,m,p,k,o,B];show kQ F [] n false (aH (upTo t)) (behind t) some=_;rw[Gl F n (behind t) (upTo t) (by omega) (by omega)];rfl
theorem hNxS_ok (s:af) (l:ax (aB s) 4000000=true):nQ hE 93 [.bxa 0 [.str s]] (.oq (Nq s) (.out true (.iface 153 (.agg [.int .i64 8])) [[.str (xQ s)]]) (.out false (.tup [.str (Nr s),.bool (CQ s)]) [[.str (xQ s)]])):=by
 have m:=XJ l;have i:=Pg s;have b:bE hE (bC hE hS3 ((CP s).length+1) 3) ((CP s).length+1) 93 [V.bxa 0 [V.str s]] some=some (sel (CQ s) (AY (nd s)) (V.out false (V.tup [V.str [],V.bool false]) [[V.str (CP s)]])):=by
  (rw[aeZ];(conv=>zeta))
  have j:ak (ax (aB [32,9]) 1000) (jJ [32,9])=true:=rfl;have f:tlT s [32,9]=CP s:=rfl;rw[j,f];unfold CQ nd
  cases h:CP s with
  |nil=>rfl
  |cons c t=>
   rw[h] at i;have e:ak (ax 0 0) (aR 0 (aB (c::t)))=true:=by rw[aM,aA,bq,aJ];simp
   have g:ieq (sat (c::t) 0) 35=(c==35):=u8q _ 35 35 rfl;have k:BI ((c::t).length+1) [] ((c::t).length+1) false (c::t) some=some (AY (vo ((c::t).length+1) (c::t) [])):=fn_first _ _ (c::t) (by omega) (by omega);rw[e,g,k];show sel (c==35) _ (some (AY (vo ((c::t).length+1) (c::t) [])))=some (sel (!(c==35)) (AY (vo ((c::t).length+1) (c::t) [])) _);generalize AY (vo ((c::t).length+1) (c::t) [])=z
   cases c==35<;>rfl
 refine nQ.oq (fun a=>nQ.out (fT Lv NZ ((CP s).length+1) 3 ?_)) (fun a=>nQ.out (fT Lv NZ ((CP s).length+1) 3 ?_))
 ·rw[b]
  unfold Nq at a;rw[bF] at a;unfold xQ AY;rw[a.1,a.2];rfl
 rw[b];unfold Nq at a;unfold xQ Nr AY
 cases d:CQ s with
 |false=>rfl
 |true=>rw[d] at a;have a:(nd s).1=false:=a;rw[a];rfl
noncomputable def hGrS:aD:=fun a=>match a with|[.bxa 0 [x,.nilsl],.int .i64 n]=>some (ak (QF x) (ak (ax 0 n) (ax n 281474976710656)),.out false (.tup []) [[x,.sl 5 [.int .u8] (some 1002) []]])|_=>none
noncomputable def hS6:List (Nat×aD):=(GX+103,hGrS)::(GX+60,hCpS)::(GX+21,hStS)::[]
noncomputable def pR:=fun F f n e g h b a c d K=>(bR hE hS6 F 4 59 [1,1,1,1,0,1,0] f K n (fB 75 [(0,V.sl 9 [Kd.str] none e),(1,V.str g),(4,V.str []),(5,V.int .i64 h),(8,V.tup []),(10,V.tup []),(12,V.int .i64 b),(39,V.sl 9 [Kd.str] none a),(40,V.int .i64 c),(41,V.int .i64 d),(63,V.tup []),(64,V.tup []),(65,V.tup [])] []):Option V)
noncomputable def pU:=fun F j n i k l d c g h e f b a K=>(bR hE hS6 F 4 59 [1,1,1,1,1,1,1,1,0,1,0] j K n (fB 75 [(0,V.sl 9 [Kd.str] none i),(1,V.str k),(4,V.str []),(5,V.int .i64 l),(8,V.box 8 0),(12,V.int .i64 d),(39,V.sl 9 [Kd.str] none c),(40,V.int .i64 g),(41,V.int .i64 h),(63,V.sl 9 [Kd.str] none e),(64,V.int .i64 f),(65,V.int .i64 b)] [(8,[V.box 8 0,V.sl 5 [Kd.int .u8] (some 90001) a])]):Option V)
theorem ae0 (F xs c) (K:V→Option V):
 bE hE (bC hE hS6 F 4) F 59 [V.sl 9 [Kd.str] none xs,V.str c] K=
 let A:=dB .i64 (ay xs) 1;sel (ieq (ay xs) 0) (K (V.str [])) (sel (ieq (ay xs) 1) (sel (ak (ax 0 0) (aR 0 (ay xs))) (K (V.str (aF (ai (aG xs 0) 0)))) none) (sel (aR 0 (aB c)) (sel (aL (ieq A 0)) (sel (ax (gF .i64 9223372036854775807 A) (aB c)) none (pR F [] F xs c (bg .i64 0 (mD .i64 (aB c) A)) (ay xs) xs (ay xs) 0 K)) none) (pR F [] F xs c 0 (ay xs) xs (ay xs) 0 K))):=by kernel_rfl
theorem yL (F n d g f e b c a K):
 pR F [] (n+1) d g f e b c a K=
 let A:=aH (aF (ai (aG d 0) 0));let B:=fA d 1 (ay d);let C:=aB (aF (ai (aG b a) 0));let D:=ak (ax 0 0) (aR 0 (ay d));let E:=ak (ax 0 1) (ax 1 (ay d));sel (aR a c) (sel (ak (ax 0 a) (aR a (ay b))) (sel (aR (dB .i64 9223372036854775807 f) C) none (pR F [] n d g (bg .i64 f C) e b c (bg .i64 a 1) K)) none) (sel (aR f 0) none (sel (aR (dB .i64 0 0) f) (sel (ak true (ak (ax 0 f) (ax f 281474976710656))) (sel D (sel (dh [] A) (sel E (pU F [] F d g f e b c a B (ay B) 0 (aX [] A) K) none) none) none) none) (sel D (sel (rJ A) (sel E (pU F [] F d g f e b c a B (ay B) 0 A K) none) none) none))):=by kernel_rfl
theorem yM (F n j i k f e g h c d b a K):
 pU F [] (n+1) j i k f e g h c d b a K=
 let A:=aH (aF (ai (aG c b) 0));let B:=aX a (aH i);sel (aR b d) (sel (ak (ax 0 b) (aR b (ay c))) (sel (dh a (aH i)) (sel (dh B A) (pU F [] n j i k f e g h c d (bg .i64 b 1) (aX B A) K) none) none) none) (K (V.str (gq a))):=by kernel_rfl
theorem hGrS_ok (x:V) (n:Int) (c:ak (QF x) (ak (ax 0 n) (ax n 281474976710656))=true):nQ hE 103 [.bxa 0 [x,.nilsl],.int .i64 n] (.out false (.tup []) [[x,.sl 5 [.int .u8] (some 1002) []]]):=by obtain⟨b,a⟩:=aN c;rw[aM,aA,aA] at a;exact nQ.out (grow_xc rfl x ((Je b).imp id fun h=>⟨0,h⟩) n a.1 a.2)
theorem hS6_ok:aZ hE hS6:=by
 unfold hS6;refine aZ.ny (fun args r h=>?_) (aZ.ny (fun args r h=>?_) (aZ.ny (fun args r h=>?_) aZ.nil));all_goals (revert h;intro h;first|unfold hGrS at h|unfold hCpS at h|unfold hStS at h)
 all_goals (split at h;rotate_left; · cases h)
 all_goals (simp only[aT,bP] at h;obtain⟨a,rfl⟩:=h)
 ·exact hGrS_ok _ _ a
 ·exact YF _ _ a
 exact YH _ _ a
def l8 (x:V):af:=aF (ai x 0)
def o7 (c:af) (l:ah):af:=(l.map fun y=>c++l8 y).flatten
def kN (xs:ah) (c:af):af:=match xs with|[]=>[]|x::l=>l8 x++o7 c l
def jnB (xs:ah) (c:af):Bool:=decide ((kN xs c).length≤9000000∧xs.length≤1000∧c.length≤1000)
def QG (l:ah):Nat:=(l.map fun y=>(l8 y).length).sum
theorem R9 (c:af): ∀l:ah,(o7 c l).length=c.length*l.length+QG l
 |[]=>rfl
 |x::l=>by have:=R9 c l;unfold o7 QG at this⊢;simp only[rA,abO,iW,List.sum_cons,dN,Nat.mul_add,acC,this];omega
theorem Jf (l:ah) (i:Nat) (h:i<l.length):aG l (i:Int)=l[i]∧l.drop i=l[i]::l.drop (i+1):=by refine⟨?_,abg h⟩;rw[fo,l7,iK h];rfl
theorem sj1 (F:Nat) (o:ah) (c:af) (q g:Int) (e:ah) (h k:Int) (d:ah) (C:d.length≤1000): ∀(j i n:Nat) (f:af),i+j=d.length→j<n→f.length+(o7 c (d.drop i)).length≤9000000→
  pU F [] n o c q g e h k d (ay d) (i:Int) (aH f) some=some (.str (f++o7 c (d.drop i))):=by
 intro j;induction j with
 |zero=>
  intro i n f w x l;obtain⟨n,rfl⟩: ∃m,n=m+1:=⟨n-1,by omega⟩
  (rw[yM];(conv=>zeta);rw[bB (by rw[aC];omega),Vh,abj (by omega)])
  show some (V.str f)=some (V.str (f++[]));rw[FC]
 |succ j A=>
  intro i n f w x l;obtain⟨n,rfl⟩: ∃m,n=m+1:=⟨n-1,by omega⟩
  obtain⟨g1,t⟩:=Jf d i (by omega);have z:o7 c (d.drop i)=c++l8 d[i]++o7 c (d.drop (i+1)):=by rw[t];unfold o7;rw[rA,abO]
  rw[z] at l⊢;simp only[iW] at l;have r:aR (i:Int) (ay d)=true:=bu (by rw[aC];omega);have y:ak (ax 0 (i:Int)) true=true:=by rw[bn (by omega)];rfl
  have u:aF (ai d[i] 0)=l8 d[i]:=rfl;have B:dh (aH f) (aH c)=true:=by rw[gW];unfold aH;simp;omega
  have p: ∀a b:af,aX (aH a) (aH b)=aH (a++b):=fun a b=>by unfold aX aH;simp
  have v:dh (aH (f++c)) (aH (l8 d[i]))=true:=by rw[gW];unfold aH;simp;omega
  have s:bg .i64 (i:Int) 1=((i+1:Nat):Int):=by rw[cr (by omega)];omega
  (rw[yM];(conv=>zeta);rw[r,y,g1,u,B,p,v,p,s])
  show pU F [] n o c q g e h k d (ay d) ((i+1:Nat):Int) (aH (f++c++l8 d[i])) some=_;rw[A (i+1) n (f++c++l8 d[i]) (by omega) (by omega) (by simp only[iW];omega)];simp
theorem sj0 (F:Nat) (x:V) (l:ah) (c:af) (w:l.length<F) (a:Int) (C:(kN (x::l) c).length≤9000000) (D:l.length≤999): ∀(j i n:Nat) (m:Nat),i+j=l.length+1→j<n→m+QG ((x::l).drop i)=(kN (x::l) c).length→
  pR F [] n (x::l) c (m:Int) a (x::l) (ay (x::l)) (i:Int) some=some (.str (kN (x::l) c)):=by
 intro j;induction j with
 |zero=>
  intro i n m A o s;obtain⟨n,rfl⟩: ∃k,n=k+1:=⟨n-1,by omega⟩
  have u:fA (x::l) 1 (ay (x::l))=l:=by
   unfold fA;rw[aC];have:((((x::l).length:Nat):Int).toNat-(1:Int).toNat)=l.length:=by simp
   rw[this];exact Qe (kG _)
  have E:(kN (x::l) c).length=(l8 x).length+(o7 c l).length:=by unfold kN;simp
  have d:aF (ai (aG (x::l) 0) 0)=l8 x:=rfl;have p:ak (ax 0 0) (aR 0 (ay (x::l)))=true:=by rw[aM,aA,bq,aC,dN];omega
  have f:ak (ax 0 1) (ax 1 (ay (x::l)))=true:=by rw[aM,aA,aA,aC];simp;omega
  have q:dh [] (aH (l8 x))=true:=by rw[gW];unfold aH;simp;omega
  have g:rJ (aH (l8 x))=true:=by unfold rJ aH;rw[Bd];simp;omega
  have z:aX [] (aH (l8 x))=aH (l8 x):=rfl;have v:m≤9000000:=by omega
  have e:aR (m:Int) 0=false:=bB (by omega);have t:ak true (ak (ax 0 (m:Int)) (ax (m:Int) 281474976710656))=true:=by rw[bn (by omega),bn (by omega)];rfl
  have b:=sj1 F (x::l) c (m:Int) a (x::l) (ay (x::l)) (i:Int) l (by omega) l.length 0 F (l8 x) (by omega) w (by simp only[WX];omega);have b:pU F [] F (x::l) c (m:Int) a (x::l) (ay (x::l)) (i:Int) l (ay l) 0 (aH (l8 x)) some=some (.str (kN (x::l) c)):=b
  (rw[yL];(conv=>zeta);rw[bB (by rw[aC,dN];omega),e,u,d,p,f,q,g,z,t,b])
  cases aR (dB .i64 0 0) (m:Int)<;>rfl
 |succ j B=>
  intro i n m A o s;obtain⟨n,rfl⟩: ∃k,n=k+1:=⟨n-1,by omega⟩
  have h:i<(x::l).length:=by simp;omega
  obtain⟨g1,r⟩:=Jf (x::l) i h;have b:QG ((x::l).drop i)=(l8 (x::l)[i]).length+QG ((x::l).drop (i+1)):=by rw[r];unfold QG;simp
  generalize (x::l)[i]=y at g1 r b;rw[b] at s;have d:aR (i:Int) (ay (x::l))=true:=bu (by rw[aC];omega);have p:ak (ax 0 (i:Int)) true=true:=by rw[bn (by omega)];rfl
  have f:aF (ai y 0)=l8 y:=rfl;have q:aR (dB .i64 9223372036854775807 (m:Int)) (aB (l8 y))=false:=bB (by rw[dV (by omega),aJ];omega);have g:bg .i64 (m:Int) (aB (l8 y))=((m+(l8 y).length:Nat):Int):=by rw[aJ,cr (by omega)];omega
  have e:bg .i64 (i:Int) 1=((i+1:Nat):Int):=by rw[cr (by omega)];omega
  (rw[yL];(conv=>zeta);rw[d,p,g1,f,q,g,e])
  exact B (i+1) n (m+(l8 y).length) (by omega) (by omega) (by omega)
theorem sJoin_ev (xs:ah) (c:af) (f:jnB xs c=true):aj hE 59 [.sl 9 [.str] none xs,.str c] (.str (kN xs c)):=by
 have f:(kN xs c).length≤9000000∧xs.length≤1000∧c.length≤1000:=FY f;refine au Lv hS6_ok 2000 4 ?_
 (rw[ae0];(conv=>zeta))
 match xs,f with
 |[],_=>rfl
 |[x],_=>show some (V.str (l8 x))=some (V.str (l8 x++[]));rw[FC]
 |x::y::l,f=>
  obtain⟨o,h,s⟩:=f;have h:l.length+2≤1000:=by simpa using h
  have k:ieq (ay (x::y::l)) 0=false:=bH (by rw[aC];simp;omega);have t:ieq (ay (x::y::l)) 1=false:=bH (by rw[aC];simp;omega);have n:dB .i64 (ay (x::y::l)) 1=((l.length+1:Nat):Int):=by rw[aC,dN,dN,dV (by omega)];omega
  have v:aL (ieq ((l.length+1:Nat):Int) 0)=true:=by rw[bH (by omega)];rfl
  have j:c.length*(l.length+1)≤1000*1000:=abX s (by omega);have p:mD .i64 (aB c) ((l.length+1:Nat):Int)=((c.length*(l.length+1):Nat):Int):=by
   rw[aJ];have e:(c.length:Int)*((l.length+1:Nat):Int)=((c.length*(l.length+1):Nat):Int):=by rw[Int.natCast_mul]
   rw[og (by rw[e];omega),e]
  have r:bg .i64 0 ((c.length*(l.length+1):Nat):Int)=((c.length*(l.length+1):Nat):Int):=by rw[cr (by omega)];omega
  have m:ax (gF .i64 9223372036854775807 ((l.length+1:Nat):Int)) (aB c)=false:=by
   refine nA ?_;have z:(2000:Int)≤9223372036854775807/((l.length+1:Nat):Int):=by rw[Int.le_ediv_iff_mul_le (by omega)];omega
   have w:(9223372036854775807:Int)/((l.length+1:Nat):Int)≤9223372036854775807:=Int.ediv_le_self _ (by omega);have q:gF .i64 9223372036854775807 ((l.length+1:Nat):Int)=9223372036854775807/((l.length+1:Nat):Int):=by unfold gF;rw[Int.tdiv_eq_ediv_of_nonneg (by omega)];exact IntWalk.i64_in _ ⟨by omega,w⟩
   rw[q,aJ];omega
  have u:(kN (x::y::l) c).length=c.length*(l.length+1)+QG (x::y::l):=by unfold kN;rw[iW,R9];unfold QG;simp only[rA,List.sum_cons,dN];omega
  have d:=sj0 2000 x (y::l) c (by rw[dN];omega) (ay (x::y::l)) o (by rw[dN];omega) (l.length+2) 0 2000 (c.length*(l.length+1)) (by rw[dN];omega) (by omega) (by rw[u];rfl);have d:pR 2000 [] 2000 (x::y::l) c ((c.length*(l.length+1):Nat):Int) (ay (x::y::l)) (x::y::l) (ay (x::y::l)) 0 some=some (.str (kN (x::y::l) c)):=d;rw[k,t,n,v,p,r,m,d]
  cases i:aR 0 (aB c) with
  |true=>rfl
  |false=>
   have g:c=[]:=by
    cases c with
    |nil=>rfl
    |cons a b=>rw[bu (by rw[aJ,dN];omega)] at i;cases i
   subst g;have d:pR 2000 [] 2000 (x::y::l) [] 0 (ay (x::y::l)) (x::y::l) (ay (x::y::l)) 0 some=some (.str (kN (x::y::l) [])):=by have:=d;rw[show(([]:af).length*(l.length+1):Nat)=0 by simp] at this;exact this
   exact d
noncomputable def hNxS:aD:=fun a=>match a with|[.bxa 0 [.str s]]=>some (ax (aB s) 4000000,.oq (Nq s) (.out true (.iface 153 (.agg [.int .i64 8])) [[.str (xQ s)]]) (.out false (.tup [.str (Nr s),.bool (CQ s)]) [[.str (xQ s)]]))|_=>none
noncomputable def hS4:List (Nat×aD):=(GX+93,hNxS)::hS3
noncomputable def hJoS:aD:=fun a=>match a with|[.sl e sh o xs,.str c]=>some (ak (e==9&&Kd.tq [.str] sh) (jnB xs c),.str (kN xs c))|_=>none
noncomputable def hS5:List (Nat×aD):=(59,hJoS)::(58,Vg)::hS3
noncomputable def Vi:=fun F d n c f e b a K=>(XQ hE hS4 F 3 68 92 [V.box 1000005000 0,V.box 1000005001 0] [] [1,1,1,0,1,0] d K n (fB 29 [(0,V.str c),(2,V.box 1000005000 0),(3,V.box 1000005001 0),(4,V.box 4 0),(5,V.str f),(6,V.bool e)] [(4,[V.str b]),(1000005001,[V.int .i64 a]),(1000005000,[V.nilsl])]):Option V)
noncomputable def zz:=fun F e n d g f c b a K=>(XQ hE hS4 F 3 68 92 [V.box 1000005000 0,V.box 1000005001 0] [] [1,1,1,0,1,0] e K n (fB 29 [(0,V.str d),(2,V.box 1000005000 0),(3,V.box 1000005001 0),(4,V.box 4 0),(5,V.str g),(6,V.bool f)] [(4,[V.str c]),(1000005001,[V.int .i64 b]),(1000005000,[V.sl 9 [Kd.str] (some 50010000) a])]):Option V)
theorem fOf_top (F s) (K:V→Option V):
 bE hE (bC hE hS4 F 3) F 68 [V.str s] K=
 sel (ax (aB s) 4000000)
 (sel (Nq s)
 (K (V.tup [V.nilsl,V.int .i64 8]))
 (Vi F [] F s (Nr s) (CQ s) (xQ s) 0 K))
 none:=
 by rw[←j5 (K (V.tup [V.nilsl,V.int .i64 8]))];kernel_rfl
theorem TT (F n c e d b a K):
 Vi F [] (n+1) c e d b a K=
 sel d
 (sel (ax (aB b) 4000000)
 (sel (Nq b)
 (K (V.tup [V.nilsl,V.int .i64 8]))
 (zz F [] n c (Nr b) (CQ b) (xQ b) a [V.str e] K))
 none)
 (K (V.tup [V.nilsl,V.int .i64 0])):=
 by rw[←j5 (K (V.tup [V.nilsl,V.int .i64 8]))];kernel_rfl
theorem TU (F n e d f c b a K):
 zz F [] (n+1) e d f c b a K=
 sel f
 (sel (dh a [V.str d])
 (sel (ax (aB c) 4000000)
 (sel (Nq c)
 (K (V.tup [V.nilsl,V.int .i64 8]))
 (zz F [] n e (Nr c) (CQ c) (xQ c) b (aX a [V.str d]) K))
 none)
 none)
 (sel (aR 16 (ay a))
 (K (V.tup [V.nilsl,V.int .i64 6]))
 (K (V.tup [V.sl 9 [Kd.str] none a,V.int .i64 0]))):=
 by rw[←j5 (K (V.tup [V.nilsl,V.int .i64 8])),←j5 (K (V.tup [V.nilsl,V.int .i64 6]))];kernel_rfl
noncomputable def vZ:=fun F f n d h g e b a c K=>(bR hE hS5 F 3 38 [1,1,1,0,1,0] f K n (fB 38 [(0,V.old (V.sl 9 [Kd.str] none d)),(2,V.str h),(3,V.int .i64 g),(4,V.sl 9 [Kd.str] (some 4) e),(15,V.old (V.sl 9 [Kd.str] none b)),(16,V.int .i64 a),(17,V.int .i64 c)] []):Option V)
theorem ae1 (F xs) (K:V→Option V):
 bE hE (bC hE hS5 F 3) F 38 [V.old (V.sl 9 [Kd.str] none xs)] K=
 sel (aR 16 (ay xs)) (K (V.tup [V.str [],V.int .i64 6])) (sel (ak (ax 0 (ay xs)) (ak (ax (ay xs) (ay xs)) (ax (ay xs) 16777216))) (vZ F [] F xs [] 0 (CS (ay xs) (V.str [])) xs (ay xs) 0 K) none):=by kernel_rfl
theorem yN (F n e g f d b c a K):
 vZ F [] (n+1) e g f d b c a K=
 let A:=aF (ai (aG b a) 0);let B:=dQ [32,9] 0 1;sel (aR a c) (sel (ak (ax 0 a) (aR a (ay b))) (sel (ax (aB A) 4000000) (sel (aL (ieq (ftW A) 0)) (K (V.tup [V.str [],V.int .i64 (ftW A)])) (sel (ak (ax 0 a) (aR a (ay d))) (vZ F [] n e g f (oC d a (V.str (ftT A))) b c (bg .i64 a 1) K) none)) none) none) (sel (ak (ax 0 1) (ax 1 (aB [32,9]))) (sel (ak true (jnB d B)) (K (V.tup [V.str (kN d B),V.int .i64 0])) none) none):=by kernel_rfl
theorem hS4_ok:aZ hE hS4:=by
 unfold hS4;refine aZ.ny (fun args r h=>?_) NZ;all_goals (revert h;intro h;first|unfold hNxS at h)
 all_goals (split at h;rotate_left; · cases h)
 all_goals (simp only[aT,bP] at h;obtain⟨a,rfl⟩:=h)
 ·exact hNxS_ok _ a
def nilV (l:ah):V:=match l with|[]=> .nilsl|l=> .sl 9 [.str] none l
def ZV (p:List (af)×Int):V:=.tup [nilV (bI p.1),.int .i64 p.2]
theorem fof_fin (out:List (af)) (h:out≠[]):sel (aR 16 (ay (bI out))) (some (V.tup [V.nilsl,V.int .i64 6])) (some (V.tup [V.sl 9 [Kd.str] none (bI out),V.int .i64 0]))=some (ZV (AB out)):=by
 have e:ay (bI out)=(out.length:Int):=by unfold bI;rw[aC,kS]
 unfold AB;rw[e];by_cases b:16<out.length
 ·rw[bu (by omega),if_pos b];rfl
 rw[bB (by omega),if_neg b]
 cases out with
 |nil=>exact absurd rfl h
 |cons a l=>rfl
theorem YJ (F:Nat) (b:af) (w:Int): ∀(n:Nat) (s f:af) (m:Bool) (out:List (af)),s.length≤4000000→out≠[]→(m=true→s.length+1<n)→0<n→(m=true→out.length+s.length≤9000000)→
  zz F [] n b f m s w (bI out) some=some (ZV (sel m (oh s (out++[f]) [] false false) (AB out)))
 |0,s,f,m,out,_,_,_,h,_=>by omega
 |n+1,s,f,m,out,l,i,d,_,c=>by
  rw[TU]
  cases m with
  |false=>exact fof_fin out i
  |true=>
   have d:=d rfl;have c:=c rfl;have g:dh (bI out) [V.str f]=true:=by rw[gW];unfold bI;simp;omega
   have j:ax (aB s) 4000000=true:=bn (by rw[aJ];omega);obtain⟨o,l2,e⟩:=Vf s;rw[g,j,aeY];show sel (Nq s) (some (V.tup [V.nilsl,V.int .i64 8])) (zz F [] n b (Nr s) (CQ s) (xQ s) w (bI (out++[f])) some)=some (ZV (oh s (out++[f]) [] false false));rw[of_next]
   cases hB:Nq s with
   |true=>
    have a:CQ s=true:=by unfold Nq at hB;rw[bF] at hB;exact hB.1
    rw[a];rfl
   |false=>have k:=YJ F b w n (xQ s) (Nr s) (CQ s) (out++[f]) (by omega) (by simp) (fun a=>by have:=e a hB;omega) (by omega) (fun a=>by have:=e a hB;simp only[iW,dN,mr];omega);show zz F [] n b (Nr s) (CQ s) (xQ s) w (bI (out++[f])) some=_;rw[k];rfl
theorem fOf_ev (s:af) (j:s.length≤4000000):aj hE 68 [.str s] (ZV (wN s)):=by
 refine au Lv hS4_ok (s.length+5) 3 ?_;rw[fOf_top];have f:ax (aB s) 4000000=true:=bn (by rw[aJ];omega);obtain⟨k,l2,d⟩:=Vf s;obtain⟨m1,i,e⟩:=Vf (xQ s);have g:ax (aB (xQ s)) 4000000=true:=bn (by rw[aJ];omega);rw[f];unfold wN;rw[of_next];show sel (Nq s) (some (V.tup [V.nilsl,V.int .i64 8])) (Vi (s.length+5) [] (s.length+4+1) s (Nr s) (CQ s) (xQ s) 0 some)=_
 cases hB:Nq s with
 |true=>
  have b:CQ s=true:=by unfold Nq at hB;rw[bF] at hB;exact hB.1
  rw[b];rfl
 |false=>
  rw[TT,g]
  cases b:CQ s with
  |false=>rfl
  |true=>
   have d:=d b hB;show sel (Nq (xQ s)) (some (V.tup [V.nilsl,V.int .i64 8])) (zz (s.length+5) [] (s.length+4) s (Nr (xQ s)) (CQ (xQ s)) (xQ (xQ s)) 0 (bI [Nr s]) some)=some (ZV (oh (xQ s) [Nr s] [] false false));rw[of_next]
   cases a:Nq (xQ s) with
   |true=>
    have c:CQ (xQ s)=true:=by unfold Nq at a;rw[bF] at a;exact a.1
    rw[c];rfl
   |false=>
    rw[YJ (s.length+5) s 0 (s.length+4) (xQ (xQ s)) (Nr (xQ s)) (CQ (xQ s)) [Nr s] (by omega) (by simp) (fun h=>by have:=e h a;omega) (by omega) (fun _=>by show 1+_≤_;omega)];rfl
def uR (xs:ah):List (af):=xs.map l8
theorem Sb (l:List (af)):uR (bI l)=l:=by unfold uR bI;rw[F3];exact(abf fun _ _=>rfl).trans (adh l)
def CR (x:af):af:=(ou x).1
theorem MX: ∀(l:List (af)),(bX l).2=0→(bX l).1=o7 [32] (bI (l.map CR))
 |[],_=>rfl
 |x::l,h=>by
  unfold bX at h⊢;by_cases b:(ou x).2=0
  ·rw[if_pos b] at h⊢
   by_cases a:(bX l).2=0
   ·rw[if_pos a]
    have:=MX l a;show[32]++(ou x).1++(bX l).1=([32]++CR x)++o7 [32] (bI (l.map CR));rw[this];rfl
   rw[if_neg a] at h;exact absurd h a
  rw[if_neg b] at h;exact absurd h b
theorem ae2 (l:List (af)) (h:(bX l).2=0):(bX l).1.drop 1=kN (bI (l.map CR)) [32]:=by
 rw[MX l h]
 cases l with
 |nil=>rfl
 |cons x l=>rfl
theorem WC (x:af) (l:List (af)):(bX (x::l)).2=if(ou x).2=0 then(bX l).2 else(ou x).2:=by
 show(if(ou x).2=0 then(if(bX l).2=0 then(([32]++(ou x).1++(bX l).1,0):af×Int) else([],(bX l).2)) else([],(ou x).2)).2=_;by_cases a:(ou x).2=0
 ·rw[if_pos a,if_pos a]
  by_cases b:(bX l).2=0
  ·rw[if_pos b,b]
  rw[if_neg b]
 rw[if_neg a,if_neg a]
theorem YK (x:af):(CR x).length≤x.length+2:=by
 unfold CR ou
 (repeat' split)<;>simp
theorem ft_eq (x:af):ftT x=CR x∧ftW x=(ou x).2:=⟨rfl,rfl⟩
def jnV (e:Int) (t:af):V:=sel (ieq e 0) (.tup [.str t,.int .i64 0]) (.tup [.str [],.int .i64 e])
def nU (l:List (af)):Nat:=(l.map List.length).sum
theorem ae3 (l:List (af)):(kN (bI (l.map CR)) [32]).length≤nU l+3*l.length:=by
 have a: ∀l:List (af),(o7 [32] (bI (l.map CR))).length≤nU l+3*l.length:=by
  intro l;induction l with
  |nil=>exact kG _
  |cons x l c=>have e:o7 [32] (bI ((x::l).map CR))=[32]++CR x++o7 [32] (bI (l.map CR)):=rfl;have b:nU (x::l)=x.length+nU l:=rfl;have:=YK x;rw[e,b];simp only[iW,dN,mr];omega
 cases l with
 |nil=>exact kG _
 |cons x l=>have e:kN (bI ((x::l).map CR)) [32]=CR x++o7 [32] (bI (l.map CR)):=rfl;have b:nU (x::l)=x.length+nU l:=rfl;have:=YK x;have:=a l;rw[e,b];simp only[iW,dN];omega
theorem Sc {x:af}: ∀{l:List (af)},x∈l→x.length≤nU l
 |y::l,h=>by
  have a:nU (y::l)=y.length+nU l:=rfl;rcases List.mem_cons.1 h with rfl|h
  ·omega
  have:=Sc h;omega
theorem jn_spec (J:aZ hE hS5) (F:Nat) (xs:ah) (w:xs.length≤16) (H:nU (uR xs)≤3000000): ∀(j i n:Nat) (a:List (af)),i+j=xs.length→j<n→a=((uR xs).take i).map CR→
  vZ F [] n xs [] 0 (bI a++List.replicate j (V.str [])) xs (ay xs) (i:Int) some=some (jnV (bX ((uR xs).drop i)).2 (kN (bI ((uR xs).map CR)) [32])):=by
 intro j;induction j with
 |zero=>
  intro i n a z A c;obtain⟨n,rfl⟩: ∃k,n=k+1:=⟨n-1,by omega⟩
  have e:(uR xs).length=xs.length:=by unfold uR;simp
  have C:(uR xs).drop i=[]:=abj (by omega);have v:a=(uR xs).map CR:=by rw[c,Qe (by omega)]
  have D:bI a++List.replicate 0 (V.str [])=bI ((uR xs).map CR):=by rw[v];simp
  have E:dQ [32,9] 0 1=[32]:=rfl;have I:=ae3 (uR xs);have r:ak true (jnB (bI ((uR xs).map CR)) [32])=true:=by show jnB _ _=true;unfold jnB;rw[decide_eq_true_iff];refine⟨by omega,?_,by decide⟩;unfold bI uR;simp;omega
  (rw[yN];(conv=>zeta);rw[bB (by rw[aC];omega),C,D,E,r])
  rfl
 |succ j m=>
  intro i n a z A c;obtain⟨n,rfl⟩: ∃k,n=k+1:=⟨n-1,by omega⟩
  have e:(uR xs).length=xs.length:=by unfold uR;simp
  have f:i<xs.length:=by omega
  obtain⟨g1,_⟩:=Jf xs i f;have o:aF (ai (aG xs (i:Int)) 0)=(uR xs)[i]'(by omega):=by rw[g1];unfold uR;rw[aco];rfl
  have d:(uR xs).drop i=(uR xs)[i]'(by omega)::(uR xs).drop (i+1):=abg (by omega);have b:(uR xs)[i]'(by omega)∈uR xs:=GV _;generalize (uR xs)[i]'(by omega)=x at o d b;have q:=Sc b;have p:aR (i:Int) (ay xs)=true:=bu (by rw[aC];omega);have B:ak (ax 0 (i:Int)) true=true:=by rw[bn (by omega)];rfl
  have t:ax (aB x) 4000000=true:=bn (by rw[aJ];omega);have g:a.length=i:=by rw[c,kS,Kc];omega
  have G:ak (ax 0 (i:Int)) (aR (i:Int) (ay (bI a++List.replicate (j+1) (V.str []))))=true:=by rw[aM,aA,bq,aC];unfold bI;simp only[iW,kS,List.length_replicate];omega
  have u:bg .i64 (i:Int) 1=((i+1:Nat):Int):=by rw[cr (by omega)];omega
  have y:oC (bI a++List.replicate (j+1) (V.str [])) (i:Int) (V.str (CR x))=bI (a++[CR x])++List.replicate j (V.str []):=by
   unfold oC;rw[K7];have:(bI a).length=i:=by unfold bI;rw[kS];exact g
   rw[acd _ _ (by omega),this,WZ,List.replicate_succ,List.set_cons_zero];unfold bI;simp
  (rw[yN];(conv=>zeta);rw[p,B,o,t,G,u,(ft_eq x).1,(ft_eq x).2,y,d])
  have m:=m (i+1) n (a++[CR x]) (by omega) (by omega) (by
   rw[c];have:(uR xs).take (i+1)=(uR xs).take i++[x]:=by
    rw[acB];congr 1;have s:(uR xs)[i]? =some x:=by have:=congrArg (fun l=>l[0]?) d;simpa using this
    rw[s];rfl
   rw[this,aci];rfl)
  show sel (aL (ieq (ou x).2 0)) (some (V.tup [V.str [],V.int .i64 (ou x).2])) (vZ F [] n xs [] 0 (bI (a++[CR x])++List.replicate j (V.str [])) xs (ay xs) ((i+1:Nat):Int) some)=_;rw[m,WC];rcases tx_err x with h|h
  ·rw[h];rfl
  rw[h];rfl
def jnC (xs:ah):Bool:=decide (nU (uR xs)≤3000000)
def tC (xs:ah):af:=(eF (uR xs)).1
def rz (xs:ah):Int:=(eF (uR xs)).2
theorem jnV_eq (xs:ah) (b:xs.length≤16):jnV (bX (uR xs)).2 (kN (bI ((uR xs).map CR)) [32])=.tup [.str (tC xs),.int .i64 (rz xs)]:=by
 have a:(uR xs).length=xs.length:=by unfold uR;simp
 unfold jnV tC rz eF;rw[if_neg (by omega)];by_cases h:(bX (uR xs)).2=0
 ·rw[if_pos h,bA h,ae2 _ h];rfl
 rw[if_neg h,bH h];rfl
theorem hJoS_ok (e:Nat) (sh:List Kd) (o:Option Nat) (xs:ah) (c:af) (g:ak (e==9&&Kd.tq [.str] sh) (jnB xs c)=true):aj hE 59 [.sl e sh o xs,.str c] (.str (kN xs c)):=by
 obtain⟨a,d⟩:=aN g;rw[bF] at a;have b:e=9:=by simpa using a.1
 have f:[Kd.str]=sh:=Kd.cu _ _ a.2;subst b f;exact Cc (args:=[.sl _ _ o xs,.str c]) (sJoin_ev xs c d)
theorem hS5_ok:aZ hE hS5:=by
 unfold hS5;refine aZ.cons (fun args r h=>?_) (aZ.cons (fun args r h=>?_) NZ);all_goals (revert h;intro h;first|unfold hJoS at h|unfold Vg at h)
 all_goals (split at h;rotate_left; · cases h)
 all_goals (simp only[aT,bP] at h;obtain⟨a,rfl⟩:=h)
 ·exact hJoS_ok _ _ _ _ _ a
 exact aeX _ a
theorem hJnS_ok (xs:ah) (a:jnC xs=true):aj hE 38 [.sl 9 [.str] none xs] (.tup [.str (tC xs),.int .i64 (rz xs)]):=by
 unfold jnC at a;rw[decide_eq_true_iff] at a;have b:(uR xs).length=xs.length:=by unfold uR;simp
 refine FQ Lv hS5_ok (args:=[.old (.sl 9 [.str] none xs)]) 18 3 ?_;rw[ae1];by_cases c:16<xs.length
 ·rw[bu (by rw[aC];omega)]
  unfold tC rz eF;rw[if_pos (by omega)];rfl
 have k:ak (ax 0 (ay xs)) (ak (ax (ay xs) (ay xs)) (ax (ay xs) 16777216))=true:=by rw[aM,aM,aA,aA,aA,aC];omega
 rw[bB (by rw[aC];omega),k];have e:CS (ay xs) (V.str [])=bI []++List.replicate xs.length (V.str []):=by unfold CS;rw[aC,K7];rfl
 rw[e];have:=jn_spec hS5_ok 18 xs (by omega) a xs.length 0 18 [] (by omega) (by omega) (by simp);rw[show(((0:Nat):Int))=0 from rfl,WX] at this;rw[←jnV_eq xs (by omega),←this];rfl
def dm (s:af):ah:=bI (wN s).1
def Ns (s:af):Int:=(wN s).2
noncomputable def hOfS:aD:=fun a=>match a with|[.str s]=>some (ax (aB s) 4000000,.tup [.sl 9 [.str] none (dm s),.int .i64 (Ns s)])|_=>none
noncomputable def hJnS:aD:=fun a=>match a with|[.sl 9 [.str] none xs]=>some (jnC xs,.tup [.str (tC xs),.int .i64 (rz xs)])|_=>none
noncomputable def Um:List (Nat×aD):=(68,hOfS)::(38,hJnS)::(58,Vg)::hS0
noncomputable def hL:List (Nat×aD):=Um
theorem hOfS_ok (s:af) (a:ax (aB s) 4000000=true):aj hE 68 [.str s] (.tup [.sl 9 [.str] none (dm s),.int .i64 (Ns s)]):=by
 have h:=fOf_ev s (XJ a);unfold ZV at h;unfold dm Ns
 cases e:bI (wN s).1 with
 |nil=>rw[e] at h;exact P5 h
 |cons x l=>rw[e] at h;exact h
end Nt.Ev.YtjcencojgajgdaaGreatDoor
