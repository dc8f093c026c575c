/-
  Fields of a line: the plain law. Fields of a line, one at a time: the plain law.
-/
import Derived.Test.YtcmockbdkppglaaDoorMD
import Derived.Test.YtcmockbdkppglaaDoorMS
import Derived.Test.YtcmockbdkppglaaDoorMP
set_option linter.all false
set_option maxRecDepth 100000
namespace Nt.Fld
open Go Nt.Ev
def BK (out:List (ah)):List (ah)×Int:=if 16<out.length then([],6) else(out,0)
def tu (a:Bool) (out:List (ah)) (f:ah):List (ah):=sel a (out++[f]) out
def nu:ah→List (ah)→ah→Bool→Bool→List (ah)×Int
 |[],out,f,a,b=>sel b ([],8) (BK (tu a out f))
 |c::t,out,f,a,b=>sel b
  (sel (c==34) (nu t out f a false) (nu t out (f++[c]) a true))
  (sel (c==35) (BK (tu a out f)) (sel (c==9) (nu t (tu a out f) [] false false) (sel (c==32) (nu t (tu a out f) [] false false)
   (sel (c==34) (nu t out f true true) (nu t out (f++[c]) true false)))))
def Fp (s:ah):List (ah)×Int:=nu s [] [] false false
def yK (c:UInt8):Bool:=c==9||c==32||c==35
theorem Dm (a:ah) (out:List (ah)) (b:Bool): ∀(x f:ah),x.contains 34=false→nu (x++a) out f b true=nu a out (f++x) b true
 |[],f,_=>by simp
 |c::x,f,h=>by
  rw[N8,zi] at h;have d:(c==34)=false:=by
   rw[oZ] at h⊢;exact fun e=>h.1 e.symm
  show sel true (sel (c==34) _ (nu (x++a) out (f++[c]) b true)) _=_;rw[d];show nu (x++a) out (f++[c]) b true=_;rw[Dm a out b x (f++[c]) h.2];simp
theorem Gs (a:ah) (out:List (ah)): ∀(x f:ah) (b:Bool),x.contains 34=false→x.any yK=false→nu (x++a) out f b false=nu a out (f++x) (b|| !x.isEmpty) false
 |[],f,b,_,_=>by simp
 |c::x,f,b,h,d=>by
  rw[N8,zi] at h;have g:(c==34)=false:=by
   rw[oZ] at h⊢;exact fun e=>h.1 e.symm
  rw[UO,zi] at d;have h3:=d.1;unfold yK at h3;rw[zi,zi] at h3;show sel false _ (sel (c==35) _ (sel (c==9) _ (sel (c==32) _ (sel (c==34) _ (nu (x++a) out (f++[c]) true false)))))=_;rw[h3.2,h3.1.1,h3.1.2,g];show nu (x++a) out (f++[c]) true false=_;rw[Gs a out x (f++[c]) true h.2 d.2];simp
def PK (c:UInt8):Bool:=c==9||c==32
theorem Ra (c:UInt8) (a:ah) (out:List (ah)) (f:ah) (b:Bool) (h:PK c=true):nu (c::a) out f b false=nu a (tu b out f) [] false false:=by
 unfold PK at h;have d:c=9∨c=32:=by simpa using h
 rcases d with rfl|rfl<;>rfl
def upTo (t:ah):ah:=t.takeWhile fun c=>c != 34
def behind (t:ah):ah:=t.drop ((upTo t).length+1)
def qL:Nat→ah→ah→Bool×ah×ah
 |0,s,f=>(false,f,s)
 |n+1,[],f=>(false,f,[])
 |n+1,c::t,f=>sel (yK c) (false,f,c::t) (sel (c==34) (sel (t.contains 34) (qL n (behind t) (f++upTo t)) (true,f,t)) (qL n t (f++[c])))
def vv (s:ah):ah:=s.dropWhile fun b=>([32,9]:ah).contains b
def nd (s:ah):Bool×ah×ah:=qL ((vv s).length+1) (vv s) []
def vw (s:ah):Bool:=match vv s with|[]=>false|c::_=>!(c==35)
def DF (s:ah):Bool:=vw s&&(nd s).1
def DI (s:ah):ah:=sel (vw s) (nd s).2.1 []
def qE (s:ah):ah:=sel (vw s) (nd s).2.2 (vv s)
theorem sK: ∀t:ah,t.contains 34=true→t=upTo t++34::behind t∧(upTo t).contains 34=false
 |[],h=>by cases h
 |c::t,h=>by
  by_cases a:c=34
  ·subst a
   exact⟨rfl,rfl⟩
  ·have g:t.contains 34=true:=by
    rw[N8,yH] at h;rcases h with h|h
    ·rw[fT] at h;exact absurd h.symm a
    ·exact h
   obtain⟨f,j⟩:=sK t g;have i:(c != 34)=true:=by rw[Vz];exact a
   have d:upTo (c::t)=c::upTo t:=by unfold upTo;rw[Xk,if_pos i]
   have b:behind (c::t)=behind t:=by unfold behind;rw[d];rfl
   refine⟨by rw[d,b];simp only[Kb];rw[←f],?_⟩;rw[d,N8,j,Bool.or_false,oZ];exact fun e=>a e.symm
theorem l9 (t:ah) (h:t.contains 34=true):(behind t).length<t.length∧(upTo t).length+(behind t).length+1=t.length:=by
 have:=congrArg List.length (sK t h).1;simp at this;omega
theorem Ls: ∀(t:ah) (out:List (ah)) (f:ah) (a:Bool),t.contains 34=false→nu t out f a true=([],8)
 |[],_,_,_,_=>rfl
 |c::t,out,f,a,h=>by
  rw[N8,zi] at h;have b:(c==34)=false:=by
   rw[oZ] at h⊢;exact fun e=>h.1 e.symm
  show sel true (sel (c==34) _ (nu t out (f++[c]) a true)) _=_;rw[b];exact Ls t out (f++[c]) a h.2
theorem OW: ∀(n:Nat) (s f:ah) (out:List (ah)),s.length<n→nu s out f true false=sel (qL n s f).1 ([],8) (nu (qL n s f).2.2 (out++[(qL n s f).2.1]) [] false false)
 |0,s,f,out,h=>by omega
 |n+1,[],f,out,h=>rfl
 |n+1,c::t,f,out,h=>by
  have h:t.length<n:=by simpa using h
  unfold qL
  cases a:yK c with
  |true=>
   show _=nu (c::t) (out++[f]) [] false false;unfold yK at a;have l:(c=9∨c=32)∨c=35:=by simpa using a
   rcases l with(rfl|rfl)|rfl<;>rfl
  |false=>
   show _=sel (sel (c==34) (sel (t.contains 34) (qL n (behind t) (f++upTo t)) (true,f,t)) (qL n t (f++[c]))).1 ([],8) _;unfold yK at a;rw[zi,zi] at a;obtain⟨⟨i,e⟩,b⟩:=a;have g:nu (c::t) out f true false=sel (c==34) (nu t out f true true) (nu t out (f++[c]) true false):=by
    show sel false _ (sel (c==35) _ (sel (c==9) _ (sel (c==32) _ _)))=_;rw[i,e,b];rfl
   rw[g]
   cases o:c==34 with
   |false=>exact OW n t (f++[c]) out h
   |true=>
    cases d:t.contains 34 with
    |false=>exact Ls t out f true d
    |true=>
     obtain⟨k,m⟩:=sK t d;have j:nu t out f true true=nu (behind t) out (f++upTo t) true false:=by
      have:=Dm (34::behind t) out true (upTo t) f m;rw[←k] at this;rw[this];rfl
     show nu t out f true true=sel (qL n (behind t) (f++upTo t)).1 ([],8) _;rw[j];exact OW n (behind t) (f++upTo t) out (by have:=(l9 t d).1;omega)
theorem zV: ∀(n:Nat) (s f:ah),s.length<n→(qL n s f).2.2.length≤s.length∧(qL n s f).2.1.length≤f.length+s.length
 |0,s,f,h=>by omega
 |n+1,[],f,h=>⟨iA _,iA _⟩
 |n+1,c::t,f,h=>by
  have h:t.length<n:=by simpa using h
  unfold qL
  cases g:yK c with
  |true=>exact⟨iA _,by simp[sel]⟩
  |false=>
   cases e:c==34 with
   |false=>
    have:=zV n t (f++[c]) h;show(qL n t (f++[c])).2.2.length≤_∧(qL n t (f++[c])).2.1.length≤_;simp only[nY,iy,o5] at this⊢;omega
   |true=>
    cases a:t.contains 34 with
    |false=>
     show t.length≤(c::t).length∧f.length≤f.length+(c::t).length;simp
    |true=>
     obtain⟨b,d⟩:=l9 t a;have:=zV n (behind t) (f++upTo t) (by omega);show(qL n (behind t) (f++upTo t)).2.2.length≤_∧(qL n (behind t) (f++upTo t)).2.1.length≤_;simp only[nY,iy] at this⊢;omega
theorem Es: ∀s:ah,(vv s).length≤s.length:=fun s=>(List.dropWhile_sublist _).length_le
theorem Lt: ∀(s:ah) (out:List (ah)),nu s out [] false false=nu (vv s) out [] false false
 |[],out=>rfl
 |c::t,out=>by
  unfold vv;rw[ZB]
  cases a:([32,9]:ah).contains c with
  |false=>rw[if_neg (by decide)]
  |true=>
   rw[if_pos rfl];have b:c=32∨c=9:=by simpa using a
   have:nu (c::t) out [] false false=nu t out [] false false:=by rcases b with rfl|rfl<;>rfl
   rw[this];exact Lt t out
theorem Gt {s t:ah} {c:UInt8} (h:vv s=c::t):(c==32)=false∧(c==9)=false:=by
 have e: ∀(l:ah),vv l=c::t→([32,9]:ah).contains c=false:=by
  intro l;induction l with
  |nil=>intro h;cases h
  |cons a l d=>
   intro h;unfold vv at h;rw[ZB] at h
   cases b:([32,9]:ah).contains a with
   |true=>rw[b,if_pos rfl] at h;exact d h
   |false=>
    rw[b,if_neg (by decide)] at h;simp only[Sb] at h;rw[←h.1];exact b
 have:=e s h;simpa using this
theorem of_next (s:ah) (out:List (ah)):nu s out [] false false=sel (vw s) (sel (DF s) ([],8) (nu (qE s) (out++[DI s]) [] false false)) (BK out):=by
 rw[Lt];have f:=Es s;unfold DF qE DI nd vw
 cases h:vv s with
 |nil=>rfl
 |cons c t=>
  rw[h] at f;simp only[h]
  cases a:c==35 with
  |true=>
   rw[fT] at a;subst a;rfl
  |false=>
   obtain⟨b,e⟩:=Gt h;have d:nu (c::t) out [] false false=nu (c::t) out [] true false:=by
    show sel false _ (sel (c==35) _ (sel (c==9) _ (sel (c==32) _ (sel (c==34) _ _))))=sel false _ (sel (c==35) _ (sel (c==9) _ (sel (c==32) _ (sel (c==34) _ _))));rw[e,b,a];rfl
   rw[d];exact OW ((c::t).length+1) (c::t) [] out (by omega)
theorem Je (s:ah):(qE s).length≤s.length∧(DI s).length≤s.length∧(vw s=true→DF s=false→(qE s).length<s.length):=by
 have b:=Es s;have i:=zV ((vv s).length+1) (vv s) [] (by omega);refine⟨?_,?_,?_⟩
 ·unfold qE nd
  cases vw s
  ·exact b
  ·show(qL ((vv s).length+1) (vv s) []).2.2.length≤_;omega
 ·unfold DI nd
  cases vw s
  ·exact Ca _
  ·show(qL ((vv s).length+1) (vv s) []).2.1.length≤_
   have:=i.2;simp only[o5,Fh] at this;omega
 ·intro a m
  unfold qE nd;rw[a];show(qL ((vv s).length+1) (vv s) []).2.2.length<_;unfold vw at a
  cases h:vv s with
  |nil=>rw[h] at a;cases a
  |cons c t=>
   rw[h] at a b;have d:(c==35)=false:=by simpa using a
   obtain⟨e,g⟩:=Gt h;have b:t.length<s.length:=by simp at b;omega
   have j:yK c=false:=by unfold yK;rw[g,e,d];rfl
   show(sel (yK c) (false,[],c::t) (sel (c==34) (sel (t.contains 34) (qL (t.length+1) (behind t) ([]++upTo t)) (true,[],t)) (qL (t.length+1) t ([]++[c])))).2.2.length<_;rw[j]
   cases l:c==34 with
   |false=>show(qL (t.length+1) t ([]++[c])).2.2.length<_;have:=(zV (t.length+1) t ([]++[c]) (by omega)).1;omega
   |true=>
    cases f:t.contains 34 with
    |false=>show t.length<_;exact b
    |true=>
     show(qL (t.length+1) (behind t) ([]++upTo t)).2.2.length<_;have k:=(l9 t f).1;have:=(zV (t.length+1) (behind t) ([]++upTo t) (by omega)).1;omega
end Nt.Fld
namespace Nt.Ev.YtcmockbdkppglaaDoor
open Go Nt.Num Go.Proofs.YtcmockbdkppglaaDoor
def kg (l:ah):Bool:=l.all fun c=>decide (c.toNat<128)
noncomputable def hE:Env:=⟨Go.Proofs.Tryd.prog,fun _=>none⟩
def wV (s:ah) (c:Int):Int:=Go.Lib.indexByte s c.toNat.toUInt8
noncomputable def WN:aO:=fun a=>match a with|[.str s,.int .i32 r]=>some (av (aH 0 r) (aZ r 128),.int .i64 (wV s r))|_=>none
noncomputable def hS0:List (Nat×aO):=(74,WN)::[]
open Go.RowKit Nt Nt.Fld
theorem OX:oU hE:=⟨by kernel_rfl,by kernel_rfl⟩
theorem Vm {s:ah} (h:aH (aK s) 4000000=true):s.length≤4000000:=by rw[ax,aA] at h;omega
theorem Vn (l:ah):(⟨l.toArray⟩:ByteArray).size=l.length:=by simp[ByteArray.size]
theorem TW (b c:UInt8) (l:ah):Lib.indexByte (b::l) c=if b==c then 0 else if Lib.indexByte l c== -1 then -1 else Lib.indexByte l c+1:=rfl
theorem Ye (c:UInt8) (n:Nat) (d:UInt8) (h:d.toNat=n):ieq ((c.toNat:Nat):Int) (n:Int)=(c==d):=by
 rw[Kc,oz,fT,←UInt8.toNat_inj,h];omega
def fP (l:List (ah)):af:=l.map V.str
theorem NN (l:List (ah)) (x:ah):bT (fP l) [V.str x]=fP (l++[x]):=by unfold bT fP;simp
def Z6 (s c:ah):ah:=s.dropWhile fun b=>c.contains b
def Xz (s:ah) (r:Int):Int:=if r<128 then wV s r else -1
noncomputable def YE:aO:=fun a=>match a with|[.str s,.int .u8 c]=>some (true,.int .i64 (wV s c))|_=>none
noncomputable def YF:aO:=fun a=>match a with|[.str s,.str c]=>some (av (aH (aK c) 1000) (kg c),.str (Z6 s c))|_=>none
noncomputable def YG:aO:=fun a=>match a with|[.str s,.int .i32 r]=>some (av (aH 0 r) (av (kg s) (aH (aK s) 1000)),.int .i64 (Xz s r))|_=>none
noncomputable def hS2:List (Nat×aO):=(44,YE)::(59,YF)::(74,YG)::[]
theorem TX (s:ah) (c:Int) (g:true=true):ak hE 44 [.str s,.int .u8 c] (.int .i64 (wV s c)):=by
 refine fJ fun G w vs f d b=>?_
 obtain⟨x,y,rfl,hx,a⟩:=rO b;unfold aJ at hx a;subst hx;subst a;refine(Go.Proofs.Tryd.strings_IndexByte ⟨s.toArray⟩ c w).mono ?_;rintro e w' ⟨rfl,rfl⟩;exact⟨_,rfl,Below.refl _ _,Er _ _⟩
theorem TY (s c:ah) (i:av (aH (aK c) 1000) (kg c)=true):ak hE 59 [.str s,.str c] (.str (Z6 s c)):=by
 obtain⟨h,g⟩:=aR i;rw[ax,aA] at h;refine fJ fun G w vs l k f=>?_
 obtain⟨x,y,rfl,hx,d⟩:=rO f;unfold aJ at hx d;subst hx;subst d;refine(Go.Proofs.Any.strings_TrimLeft_laid Go.Proofs.Tryd.TA (by kernel_rfl) ⟨s.toArray⟩ ⟨c.toArray⟩ w (by rw[Vn];omega) (fun j b a=>?_)).mono ?_
 ·have h3:(c.all fun c=>decide (c.toNat<128))=true:=g
  exact B5 (List.all_eq_true.1 h3 b (Bz a))
 ·rintro e w' ⟨rfl,a⟩
  exact⟨_,rfl,a,La _⟩
theorem T3 (s:ah) (r:Int) (k:av (aH 0 r) (av (kg s) (aH (aK s) 1000))=true):ak hE 74 [.str s,.int .i32 r] (.int .i64 (Xz s r)):=by
 obtain⟨i,a⟩:=aR k;obtain⟨a,h⟩:=aR a;rw[ax] at i h;rw[aA] at h;refine fJ fun G w vs m l j=>?_
 obtain⟨x,y,rfl,hx,g⟩:=rO j;unfold aJ at hx g;subst hx;subst g;unfold Xz;by_cases d:r<128
 ·rw[if_pos d]
  refine(Go.Proofs.Tryd.strings_IndexRune_ascii ⟨s.toArray⟩ r w i d).mono ?_;rintro e w' ⟨rfl,rfl⟩;exact⟨_,rfl,Below.refl _ _,Er _ _⟩
 ·rw[if_neg d]
  refine(Nt.AnyS.yE Go.Proofs.Tryd.Ld ⟨s.toArray⟩ r w (by omega) (fun b f=>?_) (by rw[Vn];omega)).mono ?_
  ·have h3:(s.all fun c=>decide (c.toNat<128))=true:=a
   exact B5 (List.all_eq_true.1 h3 b f)
  ·rintro e w' ⟨rfl,f⟩
   exact⟨_,rfl,f,Er _ _⟩
theorem WO:dP hE hS2:=by
 unfold hS2;refine dP.cons (fun args r h=>?_) (dP.cons (fun args r h=>?_) (dP.cons (fun args r h=>?_) dP.nil));all_goals (revert h;intro h;first|unfold YE at h|unfold YF at h|unfold YG at h)
 all_goals (split at h;rotate_left; · cases h)
 all_goals (simp only[aF,bP] at h;obtain⟨a,rfl⟩:=h)
 ·exact TX _ _ rfl
 ·exact TY _ _ a
 ·exact T3 _ _ a
noncomputable def Ms:V→Bool| .nilp=>true| .box k off=>k==HL&&off==0|_=>false
noncomputable def OY:V→Bool| .nilsl=>true| .sl e sh (some L) xs=>e==5&&Kd.zn [.int .u8] sh&&L==1000001002|_=>false
noncomputable def YH:V→ah| .sl _ _ _ xs=>eF xs|_=>[]
noncomputable def YI:V→V| .sl e sh _ xs=> .sl e sh none xs|v=>v
noncomputable def YJ:aO:=fun a=>match a with|[.bxa 0 [x,b]]=>some (Ms x,.out false (.tup []) [[.box HL 0,b]])|_=>none
noncomputable def YK:aO:=fun a=>match a with|[.bxa 0 [x,b]]=>some (av (Ms x) (OY b),.out false (.str (YH b)) [[x,YI b]])|_=>none
noncomputable def VF:List (Nat×aO):=(GX+27,YJ)::(GX+17,YK)::hS2
noncomputable def uy:=fun F b n c a K=>(Eg hE VF F 3 49 [V.bxa 0 []] [1,1,1,1,0,0] b K n (ny 71 [(0,V.box 1000000000 0),(2,V.str []),(3,V.bool c),(4,V.box 4 0)] [(4,[V.nilp,V.nilsl]),(1000000000,[V.str a])]):Option V)
noncomputable def ji:=fun F c n d b a K=>(Eg hE VF F 3 49 [V.bxa 0 []] [1,1,1,1,0,0] c K n (ny 71 [(0,V.box 1000000000 0),(2,V.str []),(3,V.bool d),(4,V.box 4 0)] [(4,[V.box 4 0,V.sl 5 [Kd.int .u8] (some 50001) b]),(1000000000,[V.str a])]):Option V)
theorem NP (F s) (K:V→Option V):
 gF hE (fK hE VF F 3) F 49 [V.bxa 0 [V.str s]] K=
 let B:=Z6 s [32,9];let A:=K (V.out false (V.tup [V.str [],V.bool false]) [[V.str B]]);sel (av (aH (aK [32,9]) 1000) (kg [32,9])) (sel (seq B []) A (sel (av (aH 0 0) (aZ 0 (aK B))) (sel (ieq (sat B 0) 35) A (uy F [] F false B K)) none)) none:=by kernel_rfl
theorem rf (F n b a K):
 uy F [] (n+1) b a K=
 let B:=K (V.out false (V.tup [V.str [],V.bool true]) [[V.str a]]);let D:=sat a 0;let G:=aK a;let A:=dN a 1 G;let C:=av (aH 0 0) (aZ 0 G);let E:=wV A 34;let H:=aY .i64 E 1;let I:=aC (dN A 0 E);sel (aS (seq a [])) (sel C (sel (aS (ieq D 35)) (sel C (sel (av (aH 0 (gP .i32 D)) (av (kg [32,9]) (aH (aK [32,9]) 1000))) (sel (aS (aH 0 (Xz [32,9] (gP .i32 D)))) (sel C (sel (av (aH 0 1) (aH 1 G)) (sel (ieq D 34) (sel (aZ E 0) (K (V.out true (V.iface 105 (V.agg [V.int .i64 8])) [[V.str A]])) (sel (av (aH 0 E) (aH E (aK A))) (sel (av (aH 0 H) (aH H (aK A))) (sel (oV I) (ji F [] n b I (dN A H (aK A)) K) none) none) none)) (ji F [] n b [V.int .u8 D] A K)) none) none) B) none) none) B) none) B:=by kernel_rfl
theorem rq (F n c b a K):
 ji F [] (n+1) c b a K=
 let B:=K (V.out false (V.tup [V.str (eF b),V.bool true]) [[V.str a]]);let C:=sat a 0;let G:=aK a;let A:=dN a 1 G;let D:=av (aH 0 0) (aZ 0 G);let E:=wV A 34;let H:=aY .i64 E 1;let I:=aC (dN A 0 E);sel (aS (seq a [])) (sel D (sel (aS (ieq C 35)) (sel D (sel (av (aH 0 (gP .i32 C)) (av (kg [32,9]) (aH (aK [32,9]) 1000))) (sel (aS (aH 0 (Xz [32,9] (gP .i32 C)))) (sel D (sel (av (aH 0 1) (aH 1 G)) (sel (ieq C 34) (sel (aZ E 0) (K (V.out true (V.iface 105 (V.agg [V.int .i64 8])) [[V.str A]])) (sel (av (aH 0 E) (aH E (aK A))) (sel (av (aH 0 H) (aH H (aK A))) (sel (fO b I) (ji F [] n c (bT b I) (dN A H (aK A)) K) none) none) none)) (sel (fO b [V.int .u8 C]) (ji F [] n c (bT b [V.int .u8 C]) A K) none)) none) none) B) none) none) B) none) B:=by kernel_rfl
theorem Gu {x:V} (h:Ms x=true):x=.nilp∨x=.box HL 0:=by
 unfold Ms at h;split at h
 ·exact .inl rfl
 ·rename_i k off
  rw[bB,fT,fT] at h;rw[h.1,h.2];exact .inr rfl
 ·cases h
theorem T4 (x b:V) (a:Ms x=true):qb hE 27 [.bxa 0 [x,b]] (.out false (.tup []) [[.box HL 0,b]]):=
 qb.out (Lu rfl x b [] (Gu a))
theorem T6 (x b:V) (d:av (Ms x) (OY b)=true):qb hE 17 [.bxa 0 [x,b]] (.out false (.str (YH b)) [[x,YI b]]):=by
 obtain⟨c,a⟩:=aR d;refine qb.out ?_;unfold OY at a;split at a
 ·exact ru rfl x []
 ·rename_i e sh L xs
  rw[bB,bB,fT,fT] at a;obtain⟨⟨rfl,h3⟩,rfl⟩:=a;have h3:=Kd.fD _ _ h3;subst h3;exact Dn rfl x [] (by rcases Gu c with rfl|rfl<;>rfl) rfl xs
 ·cases a
theorem Jf:dP hE VF:=by
 unfold VF;refine dP.zC (fun args r h=>?_) (dP.zC (fun args r h=>?_) WO);all_goals (revert h;intro h;first|unfold YJ at h|unfold YK at h)
 all_goals (split at h;rotate_left; · cases h)
 all_goals (simp only[aF,bP] at h;obtain⟨a,rfl⟩:=h)
 ·exact T4 _ _ a
 ·exact T6 _ _ a
theorem WQ (l:ah) (c:UInt8):bT (aC l) [V.int .u8 (c.toNat:Int)]=aC (l++[c]):=by unfold bT aC;simp
theorem PL (l:ah):eF (aC l)=l:=by
 unfold eF aC;rw[RQ];exact(R8 fun c _=>by show UInt8.ofNat ((c.toNat:Int)).toNat=c;simp).trans (ZO l)
theorem Et: ∀(t:ah),Lib.indexByte t 34=if t.contains 34=true then((upTo t).length:Int) else -1
 |[]=>rfl
 |b::l=>by
  rw[TW,Et l]
  cases a:b==34 with
  |true=>
   rw[fT] at a;subst a;rfl
  |false=>
   have d:(b::l).contains 34=l.contains 34:=by
    rw[N8];have:((34:UInt8)==b)=false:=by rw[oZ] at a⊢;exact fun e=>a e.symm
    rw[this,Xq]
   have c:upTo (b::l)=b::upTo l:=by unfold upTo;rw[Xk,if_pos (by simpa using a)]
   rw[d,c,if_neg (by decide)]
   cases f:l.contains 34 with
   |true=>
    rw[if_pos rfl,if_pos rfl];have: ¬((((upTo l).length:Int)== -1)=true):=by rw[fT];omega
    rw[if_neg this];simp
   |false=>rfl
theorem Dp (t:ah):t.take (upTo t).length=upTo t:=by
 unfold upTo;have: ∀l:ah,l.take (l.takeWhile fun c=>c != 34).length=l.takeWhile fun c=>c != 34:=by
  intro l;induction l with
  |nil=>rfl
  |cons a l b=>
   rw[Xk];split
   ·rw[iy,acz,b]
   ·rfl
 exact this t
theorem Gv (c:UInt8):aH 0 (Xz [32,9] (gP .i32 ((c.toNat:Nat):Int)))=(c==9||c==32):=by
 obtain⟨⟨m⟩⟩:=c;revert m;decide+kernel
theorem Lv (c:UInt8):aH 0 (gP .i32 ((c.toNat:Nat):Int))=true:=by
 obtain⟨⟨m⟩⟩:=c;revert m;decide+kernel
def tC (p:Bool×ah×ah):V:=sel p.1 (V.out true (V.iface 105 (V.agg [V.int .i64 8])) [[V.str p.2.2]]) (V.out false (V.tup [V.str p.2.1,V.bool true]) [[V.str p.2.2]])
theorem tfN {α:Type} (x y:α):sel true x y=x∧sel false x y=y:=⟨rfl,rfl⟩
theorem yS (F:Nat): ∀(n:Nat) (s f:ah),s.length<n→s.length+f.length≤9000000→ji F [] n false (aC f) s some=some (tC (qL n s f))
 |0,s,f,h,_=>by omega
 |n+1,[],f,h,hl=>by
  (rw[rq];(conv=>zeta);rw[PL]);rfl
 |n+1,c::t,f,h,hl=>by
  have h:t.length<n:=by simpa using h
  have u:t.length+f.length+1≤9000000:=by simp at hl;omega
  have k:aS (seq (c::t) [])=true:=rfl;have y:av (aH 0 0) (aZ 0 (aK (c::t)))=true:=by rw[ay,ax,aU,aA];simp
  have v:sat (c::t) 0=((c.toNat:Nat):Int):=rfl;have B:av (kg [32,9]) (aH (aK [32,9]) 1000)=true:=rfl;have w:av (aH 0 1) (aH 1 (aK (c::t)))=true:=by rw[ay,ax,ax,aA];simp;omega
  have x:dN (c::t) 1 (aK (c::t))=t:=by
   unfold dN;rw[aA];have:((((c::t).length:Nat):Int).toNat-(1:Int).toNat)=t.length:=by simp
   rw[this];exact J8 (iA _)
  have e:ieq ((c.toNat:Nat):Int) 34=(c==34):=Ye _ 34 34 rfl;have g:ieq ((c.toNat:Nat):Int) 35=(c==35):=Ye _ 35 35 rfl;have z:av (aH 0 (gP .i32 ((c.toNat:Nat):Int))) true=true:=by rw[Lv];rfl
  have l:fO (aC f) [V.int .u8 ((c.toNat:Nat):Int)]=true:=by rw[dH];unfold aC;simp;omega
  (rw[rq];(conv=>zeta))
  simp only[k,y,v,B,w,x,e,g,z,l,Gv,PL,WQ,tfN];unfold qL
  cases a:c==35 with
  |true=>
   have b:yK c=true:=by unfold yK;rw[a];simp
   rw[b];rfl
  |false=>
   cases j:(c==9||c==32) with
   |true=>
    have b:yK c=true:=by unfold yK;rw[j,a];rfl
    rw[b];rfl
   |false=>
    have b:yK c=false:=by unfold yK;rw[j,a];rfl
    rw[b]
    cases G:c==34 with
    |false=>
     show ji F [] n false (aC (f++[c])) t some=_;rw[yS F n t (f++[c]) h (by simp;omega)];rfl
    |true=>
     have d:wV t 34=if t.contains 34=true then((upTo t).length:Int) else -1:=Et t
     cases i:t.contains 34 with
     |false=>
      rw[i,if_neg (by decide)] at d;rw[d];rfl
     |true=>
      rw[i,if_pos rfl] at d;obtain⟨E,H⟩:=l9 t i;have o:aZ ((upTo t).length:Int) 0=false:=bC (by omega);have C:av (aH 0 ((upTo t).length:Int)) (aH ((upTo t).length:Int) (aK t))=true:=by rw[ay,ax,ax,aA];omega
      have p:aY .i64 ((upTo t).length:Int) 1=(((upTo t).length+1:Nat):Int):=by rw[bQ (by omega)];omega
      have r:av (aH 0 (((upTo t).length+1:Nat):Int)) (aH (((upTo t).length+1:Nat):Int) (aK t))=true:=by rw[ay,ax,ax,aA];omega
      have m:dN t 0 ((upTo t).length:Int)=upTo t:=by
       unfold dN;simp only[Md,Int.toNat_zero,Om,UQ];exact Dp t
      have q:dN t (((upTo t).length+1:Nat):Int) (aK t)=behind t:=by
       unfold dN behind;rw[aA,Md,Md];exact J8 (by simp)
      have D:fO (aC f) (aC (upTo t))=true:=by rw[dH];unfold aC;simp;omega
      have A:bT (aC f) (aC (upTo t))=aC (f++upTo t):=by unfold bT aC;simp
      simp only[d,o,C,p,r,m,q,D,A];show ji F [] n false (aC (f++upTo t)) (behind t) some=_;rw[yS F n (behind t) (f++upTo t) (by omega) (by simp;omega)];rfl
theorem Rb (F n:Nat) (s:ah) (h:s.length<n+1) (hl:s.length≤9000000):uy F [] (n+1) false s some=some (tC (qL (n+1) s [])):=by
 cases s with
 |nil=>(rw[rf];(conv=>zeta));rfl
 |cons c t=>
  have h:t.length<n:=by simpa using h
  have q:t.length+1≤9000000:=by simpa using hl
  have j:aS (seq (c::t) [])=true:=rfl;have w:av (aH 0 0) (aZ 0 (aK (c::t)))=true:=by rw[ay,ax,aU,aA];simp
  have r:sat (c::t) 0=((c.toNat:Nat):Int):=rfl;have y:av (kg [32,9]) (aH (aK [32,9]) 1000)=true:=rfl;have u:av (aH 0 1) (aH 1 (aK (c::t)))=true:=by rw[ay,ax,ax,aA];simp;omega
  have v:dN (c::t) 1 (aK (c::t))=t:=by
   unfold dN;rw[aA];have:((((c::t).length:Nat):Int).toNat-(1:Int).toNat)=t.length:=by simp
   rw[this];exact J8 (iA _)
  have e:ieq ((c.toNat:Nat):Int) 34=(c==34):=Ye _ 34 34 rfl;have f:ieq ((c.toNat:Nat):Int) 35=(c==35):=Ye _ 35 35 rfl;have x:av (aH 0 (gP .i32 ((c.toNat:Nat):Int))) true=true:=by rw[Lv];rfl
  (rw[rf];(conv=>zeta))
  simp only[j,w,r,y,u,v,e,f,x,Gv,tfN];unfold qL
  cases a:c==35 with
  |true=>
   have b:yK c=true:=by unfold yK;rw[a];simp
   rw[b];rfl
  |false=>
   cases i:(c==9||c==32) with
   |true=>
    have b:yK c=true:=by unfold yK;rw[i,a];rfl
    rw[b];rfl
   |false=>
    have b:yK c=false:=by unfold yK;rw[i,a];rfl
    rw[b]
    cases C:c==34 with
    |false=>
     show ji F [] n false (aC [c]) t some=_;rw[yS F n t [c] h (by simp;omega)];rfl
    |true=>
     have d:wV t 34=if t.contains 34=true then((upTo t).length:Int) else -1:=Et t
     cases g:t.contains 34 with
     |false=>
      rw[g,if_neg (by decide)] at d;rw[d];rfl
     |true=>
      rw[g,if_pos rfl] at d;obtain⟨B,D⟩:=l9 t g;have l:aZ ((upTo t).length:Int) 0=false:=bC (by omega);have z:av (aH 0 ((upTo t).length:Int)) (aH ((upTo t).length:Int) (aK t))=true:=by rw[ay,ax,ax,aA];omega
      have m:aY .i64 ((upTo t).length:Int) 1=(((upTo t).length+1:Nat):Int):=by rw[bQ (by omega)];omega
      have p:av (aH 0 (((upTo t).length+1:Nat):Int)) (aH (((upTo t).length+1:Nat):Int) (aK t))=true:=by rw[ay,ax,ax,aA];omega
      have k:dN t 0 ((upTo t).length:Int)=upTo t:=by
       unfold dN;simp only[Md,Int.toNat_zero,Om,UQ];exact Dp t
      have o:dN t (((upTo t).length+1:Nat):Int) (aK t)=behind t:=by
       unfold dN behind;rw[aA,Md,Md];exact J8 (by simp)
      have A:oV (aC (upTo t))=true:=by unfold oV aC;rw[En];simp;omega
      simp only[d,l,z,m,p,k,o,A];show ji F [] n false (aC (upTo t)) (behind t) some=_;rw[yS F n (behind t) (upTo t) (by omega) (by omega)];rfl
theorem T7 (s:ah) (k:aH (aK s) 4000000=true):qb hE 49 [.bxa 0 [.str s]] (.qD (DF s) (.out true (.iface 105 (.agg [.int .i64 8])) [[.str (qE s)]]) (.out false (.tup [.str (DI s),.bool (vw s)]) [[.str (qE s)]])):=by
 have hl:=Vm k;have g:=Es s;have hx:gF hE (fK hE VF ((vv s).length+1) 3) ((vv s).length+1) 49 [V.bxa 0 [V.str s]] some=some (sel (vw s) (tC (nd s)) (V.out false (V.tup [V.str [],V.bool false]) [[V.str (vv s)]])):=by
  (rw[NP];(conv=>zeta))
  have i:av (aH (aK [32,9]) 1000) (kg [32,9])=true:=rfl;have e:Z6 s [32,9]=vv s:=rfl;rw[i,e];unfold vw nd
  cases h:vv s with
  |nil=>rfl
  |cons c t=>
   rw[h] at g;have d:av (aH 0 0) (aZ 0 (aK (c::t)))=true:=by rw[ay,ax,aU,aA];simp
   have f:ieq (sat (c::t) 0) 35=(c==35):=Ye _ 35 35 rfl;have j:uy ((c::t).length+1) [] ((c::t).length+1) false (c::t) some=some (tC (qL ((c::t).length+1) (c::t) [])):=Rb _ _ (c::t) (by omega) (by omega);rw[d,f,j];show sel (c==35) _ (some (tC (qL ((c::t).length+1) (c::t) [])))=some (sel (!(c==35)) (tC (qL ((c::t).length+1) (c::t) [])) _);generalize tC (qL ((c::t).length+1) (c::t) [])=z
   cases c==35<;>rfl
 refine qb.qD (fun a=>qb.out (l7 OX Jf ((vv s).length+1) 3 ?_)) (fun a=>qb.out (l7 OX Jf ((vv s).length+1) 3 ?_))
 ·rw[hx]
  unfold DF at a;rw[bB] at a;unfold qE tC;rw[a.1,a.2];rfl
 ·rw[hx]
  unfold DF at a;unfold qE DI tC
  cases b:vw s with
  |false=>rfl
  |true=>
   rw[b] at a;have a:(nd s).1=false:=a;rw[a];rfl
def VL (x:V):ah:=eO (aN x 0)
noncomputable def YL:aO:=fun a=>match a with|[.bxa 0 [.str s]]=>some (aH (aK s) 4000000,.qD (DF s) (.out true (.iface 105 (.agg [.int .i64 8])) [[.str (qE s)]]) (.out false (.tup [.str (DI s),.bool (vw s)]) [[.str (qE s)]]))|_=>none
noncomputable def Yf:List (Nat×aO):=(GX+49,YL)::VF
noncomputable def Jg:=fun F d n c f e b a K=>(yM hE Yf F 3 33 48 [V.box 1000005000 0,V.box 1000005001 0] [] [1,1,1,0,1,0] d K n (ny 29 [(0,V.str c),(2,V.box 1000005000 0),(3,V.box 1000005001 0),(4,V.box 4 0),(5,V.str f),(6,V.bool e)] [(4,[V.str b]),(1000005001,[V.int .i64 a]),(1000005000,[V.nilsl])]):Option V)
noncomputable def rP:=fun F e n d g f c b a K=>(yM hE Yf F 3 33 48 [V.box 1000005000 0,V.box 1000005001 0] [] [1,1,1,0,1,0] e K n (ny 29 [(0,V.str d),(2,V.box 1000005000 0),(3,V.box 1000005001 0),(4,V.box 4 0),(5,V.str g),(6,V.bool f)] [(4,[V.str c]),(1000005001,[V.int .i64 b]),(1000005000,[V.sl 9 [Kd.str] (some 50010000) a])]):Option V)
theorem T8 (F s) (K:V→Option V):
 gF hE (fK hE Yf F 3) F 33 [V.str s] K=
 sel (aH (aK s) 4000000)
 (sel (DF s)
 (K (V.tup [V.nilsl,V.int .i64 8]))
 (Jg F [] F s (DI s) (vw s) (qE s) 0 K))
 none:=
 by kernel_rfl
theorem Io (F n c e d b a K):
 Jg F [] (n+1) c e d b a K=
 sel d
 (sel (aH (aK b) 4000000)
 (sel (DF b)
 (K (V.tup [V.nilsl,V.int .i64 8]))
 (rP F [] n c (DI b) (vw b) (qE b) a [V.str e] K))
 none)
 (K (V.tup [V.nilsl,V.int .i64 0])):=
 by kernel_rfl
theorem Ip (F n e d f c b a K):
 rP F [] (n+1) e d f c b a K=
 sel f
 (sel (fO a [V.str d])
 (sel (aH (aK c) 4000000)
 (sel (DF c)
 (K (V.tup [V.nilsl,V.int .i64 8]))
 (rP F [] n e (DI c) (vw c) (qE c) b (bT a [V.str d]) K))
 none)
 none)
 (sel (aZ 16 (aQ a))
 (K (V.tup [V.nilsl,V.int .i64 6]))
 (K (V.tup [V.sl 9 [Kd.str] none a,V.int .i64 0]))):=
 by kernel_rfl
theorem WR:dP hE Yf:=by
 unfold Yf;refine dP.zC (fun args r h=>?_) Jf;all_goals (revert h;intro h;first|unfold YL at h)
 all_goals (split at h;rotate_left; · cases h)
 all_goals (simp only[aF,bP] at h;obtain⟨a,rfl⟩:=h)
 ·exact T7 _ a
def nilV (l:af):V:=match l with|[]=> .nilsl|l=> .sl 9 [.str] none l
def Mt (p:List (ah)×Int):V:=.tup [nilV (fP p.1),.int .i64 p.2]
theorem T9 (out:List (ah)) (h:out≠[]):sel (aZ 16 (aQ (fP out))) (some (V.tup [V.nilsl,V.int .i64 6])) (some (V.tup [V.sl 9 [Kd.str] none (fP out),V.int .i64 0]))=some (Mt (BK out)):=by
 have e:aQ (fP out)=(out.length:Int):=by unfold fP;rw[aM,vk]
 unfold BK;rw[e];by_cases b:16<out.length
 ·rw[bV (by omega),if_pos b];rfl
 ·rw[bC (by omega),if_neg b]
  cases out with
  |nil=>exact absurd rfl h
  |cons a l=>rfl
theorem Lx (F:Nat) (b:ah) (w:Int): ∀(n:Nat) (s f:ah) (m:Bool) (out:List (ah)),s.length≤4000000→out≠[]→(m=true→s.length+1<n)→0<n→(m=true→out.length+s.length≤9000000)→
  rP F [] n b f m s w (fP out) some=some (Mt (sel m (nu s (out++[f]) [] false false) (BK out)))
 |0,s,f,m,out,_,_,_,h,_=>by omega
 |n+1,s,f,m,out,hl,i,d,_,c=>by
  rw[Ip]
  cases m with
  |false=>exact T9 out i
  |true=>
   have d:=d rfl;have c:=c rfl;have g:fO (fP out) [V.str f]=true:=by rw[dH];unfold fP;simp;omega
   have j:aH (aK s) 4000000=true:=fU (by rw[aA];omega);obtain⟨l,o,e⟩:=Je s;rw[g,j,NN];show sel (DF s) (some (V.tup [V.nilsl,V.int .i64 8])) (rP F [] n b (DI s) (vw s) (qE s) w (fP (out++[f])) some)=some (Mt (nu s (out++[f]) [] false false));rw[of_next]
   cases hB:DF s with
   |true=>
    have a:vw s=true:=by unfold DF at hB;rw[bB] at hB;exact hB.1
    rw[a];rfl
   |false=>
    have k:=Lx F b w n (qE s) (DI s) (vw s) (out++[f]) (by omega) (by simp) (fun a=>by have:=e a hB;omega) (by omega) (fun a=>by have:=e a hB;simp only[nY,iy,o5];omega);show rP F [] n b (DI s) (vw s) (qE s) w (fP (out++[f])) some=_;rw[k];rfl
theorem WS (s:ah) (hl:s.length≤4000000):ak hE 33 [.str s] (Mt (Fp s)):=by
 refine aG OX WR (s.length+5) 3 ?_;rw[T8];have f:aH (aK s) 4000000=true:=fU (by rw[aA];omega);obtain⟨j,k,d⟩:=Je s;obtain⟨m1,i,e⟩:=Je (qE s);have g:aH (aK (qE s)) 4000000=true:=fU (by rw[aA];omega);rw[f];unfold Fp;rw[of_next];show sel (DF s) (some (V.tup [V.nilsl,V.int .i64 8])) (Jg (s.length+5) [] (s.length+4+1) s (DI s) (vw s) (qE s) 0 some)=_
 cases hB:DF s with
 |true=>
  have b:vw s=true:=by unfold DF at hB;rw[bB] at hB;exact hB.1
  rw[b];rfl
 |false=>
  rw[Io,g]
  cases b:vw s with
  |false=>rfl
  |true=>
   have d:=d b hB;show sel (DF (qE s)) (some (V.tup [V.nilsl,V.int .i64 8])) (rP (s.length+5) [] (s.length+4) s (DI (qE s)) (vw (qE s)) (qE (qE s)) 0 (fP [DI s]) some)=some (Mt (nu (qE s) [DI s] [] false false));rw[of_next]
   cases a:DF (qE s) with
   |true=>
    have c:vw (qE s)=true:=by unfold DF at a;rw[bB] at a;exact a.1
    rw[c];rfl
   |false=>
    rw[Lx (s.length+5) s 0 (s.length+4) (qE (qE s)) (DI (qE s)) (vw (qE s)) [DI s] (by omega) (by simp) (fun h=>by have:=e h a;omega) (by omega) (fun _=>by
     show 1+_≤_;omega)]
    rfl
def sO (s:ah):af:=fP (Fp s).1
def Og (s:ah):Int:=(Fp s).2
noncomputable def hOfS:aO:=fun a=>match a with|[.str s]=>some (aH (aK s) 4000000,.tup [.sl 9 [.str] none (sO s),.int .i64 (Og s)])|_=>none
noncomputable def IE:List (Nat×aO):=(33,hOfS)::hS0
noncomputable def hL:List (Nat×aO):=IE
theorem Ua (s:ah) (a:aH (aK s) 4000000=true):ak hE 33 [.str s] (.tup [.sl 9 [.str] none (sO s),.int .i64 (Og s)]):=by
 have h:=WS s (Vm a);unfold Mt at h;unfold sO Og
 cases e:fP (Fp s).1 with
 |nil=>rw[e] at h;exact EX h
 |cons x l=>rw[e] at h;exact h
end Nt.Ev.YtcmockbdkppglaaDoor
