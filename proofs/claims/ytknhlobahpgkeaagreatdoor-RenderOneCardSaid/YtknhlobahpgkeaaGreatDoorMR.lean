/-
  Name: equations of functions, as the evaluator prints them. Names: both sides.
-/
import Derived.Test.YtknhlobahpgkeaaGreatDoorMC
import Derived.Test.YtknhlobahpgkeaaGreatDoorMS
import Derived.Maps.OwnSet
import Derived.Maps.OwnOps
import Derived.Maps.StringElems
import Derived.StringKeys
import Derived.Maps.Own
import Derived.Test.YtknhlobahpgkeaaGreatDoorMZ
set_option linter.all false
set_option maxRecDepth 100000
namespace Nt.Ev.YtknhlobahpgkeaaGreatDoor.Nm
open Go Nt.Num Go.Proofs.YtknhlobahpgkeaaGreatDoor
def idxN (s:af) (c:Int):Int:=Go.Lib.indexByte s c.toNat.toUInt8
def TQ (c:UInt8):Bool:=(decide (65≤c.toNat)&&decide (c.toNat≤90))||(decide (97≤c.toNat)&&decide (c.toNat≤122))||c==95
def TR (c:UInt8):Bool:=(decide (48≤c.toNat)&&decide (c.toNat≤57))||c==45||c==43||c==47||c==46
def JU (k:Nat) (c:UInt8):Bool:=TQ c||(decide (0<k)&&TR c)
def xV:Nat→af→Bool|_,[]=>true|k,c::t=>JU k c&&xV (k+1) t
def dG (s:af):Int:=if 64<s.length then 9 else if xV 0 s=true∧s≠[] then 0 else 10
noncomputable def nByS:aC:=fun a=>match a with|[.str s,.int .u8 c]=>some (true,.int .i64 (idxN s c))|_=>none
noncomputable def nS0:List (Nat×aC):=(65,nByS)::[]
noncomputable def pU:=fun F d n c f e a b K=>(gH oE nS0 F 2 38 [1,1,0,1,0] d K n (kD 48 [(0,V.str c),(2,V.int .i64 f),(9,V.sl 5 [Kd.int .u8] none e),(10,V.int .i64 a),(11,V.int .i64 b)] []):Option V)
theorem ad8 (F s) (K:V→Option V):
 bA oE (bu oE nS0 F 2) F 38 [V.str s] K=
 sel (aW 64 (aA s)) (K (V.int .i64 9)) (sel (Ky s) (pU F [] F s 0 (aF s) (ay (aF s)) 0 K) none):=by kernel_rfl
theorem yO (F n d e c b a K):
 pU F [] (n+1) d e c b a K=
 let B:=pU F [] n d e c b (bJ .i64 a 1) K;let C:=asInt (ai (aG c a) 0);let E:=K (V.int .i64 10);let D:=sel (av 0 (idxN [45,43,47,46] C)) B E;let G:=ko .or .u8 C 32;let A:=sel (ieq C 95) B (sel (aW 0 a) (sel (av 48 C) (sel (av C 57) B D) D) E);sel (aW a b) (sel (ak (av 0 a) (aW a (ay c))) (sel (av 97 G) (sel (av G 122) B A) A) none) (sel (seq d []) E (K (V.int .i64 0))):=by kernel_rfl
open Go.RowKit Nt
theorem nByS_ok (s:af) (c:Int) (h:true=true):aj oE 65 [.str s,.int .u8 c] (.int .i64 (idxN s c)):=by
 refine bX fun G w vs g f d=>?_
 obtain⟨x,y,rfl,b,a⟩:=iQ d;unfold aV at b a;subst b;subst a;refine(Go.Proofs.Tryz.strings_IndexByte ⟨s.toArray⟩ c w).mono ?_;rintro e w' ⟨rfl,rfl⟩;exact⟨_,rfl,.refl _ _,qL _ _⟩
theorem nS0_ok:bf oE nS0:=by
 unfold nS0;refine bf.cons (fun args r h=>?_) bf.nil;all_goals (revert h;intro h;first|unfold nByS at h)
 all_goals (split at h;rotate_left; · cases h)
 all_goals (simp only[aR,bM] at h;obtain⟨a,rfl⟩:=h)
 ·exact nByS_ok _ _ rfl
theorem uy (c:UInt8):(av 97 (ko .or .u8 ((c.toNat:Nat):Int) 32)&&av (ko .or .u8 ((c.toNat:Nat):Int) 32) 122)=((decide (65≤c.toNat)&&decide (c.toNat≤90))||(decide (97≤c.toNat)&&decide (c.toNat≤122))):=by
 have h: ∀n:Fin 256,(av 97 (ko .or .u8 ((n.val:Nat):Int) 32)&&av (ko .or .u8 ((n.val:Nat):Int) 32) 122)=((decide (65≤n.val)&&decide (n.val≤90))||(decide (97≤n.val)&&decide (n.val≤122))):=by decide+kernel
 exact h ⟨c.toNat,c.toNat_lt⟩
theorem NW (c:UInt8):av 0 (idxN [45,43,47,46] ((c.toNat:Nat):Int))=(c==45||c==43||c==47||c==46):=by
 have h: ∀n:Fin 256,av 0 (idxN [45,43,47,46] ((n.val:Nat):Int))=(UInt8.ofNat n==45||UInt8.ofNat n==43||UInt8.ofNat n==47||UInt8.ofNat n==46):=by decide+kernel
 have:=h ⟨c.toNat,c.toNat_lt⟩;simpa using this
theorem Ui (c d:UInt8):ieq ((c.toNat:Nat):Int) ((d.toNat:Nat):Int)=(c==d):=by rw[uF,aN,iM,←acy];omega
theorem G6 (c:UInt8) (a:Nat):av (a:Int) ((c.toNat:Nat):Int)=decide (a≤c.toNat):=by rw[uF,aB,lG];omega
theorem Bb (c:UInt8) (a:Nat):av ((c.toNat:Nat):Int) (a:Int)=decide (c.toNat≤a):=by rw[uF,aB,lG];omega
theorem VH (s:af) (c:Int) (F n k:Nat) (h:k<s.length) (i:s.length≤64):pU F [] (n+1) s c (aF s) (ay (aF s)) (k:Int) some=
  if JU k (s[k])=true then pU F [] n s c (aF s) (ay (aF s)) ((k+1:Nat):Int) some else some (.int .i64 10):=by
 have f:(aF s).length=s.length:=by unfold aF;rw[kJ]
 have e:asInt (ai (aG (aF s) (k:Int)) 0)=((s[k].toNat:Nat):Int):=by rw[eX];unfold aF;rw[mg,sW,iZ h];rfl
 have a:ieq ((s[k].toNat:Nat):Int) 95=(s[k]==95):=Ui s[k] 95;have d:av 48 ((s[k].toNat:Nat):Int)=decide (48≤s[k].toNat):=G6 s[k] 48;have b:av ((s[k].toNat:Nat):Int) 57=decide (s[k].toNat≤57):=Bb s[k] 57;have g:aW 0 (k:Int)=decide (0<k):=by rw[uF,bq,lG];omega
 have hL:=uy s[k]
 (rw[yO];(conv=>zeta);rw[ax (bH (by rw[aD,f];omega)),ax (by rw[aM,aB,bq,aD,f];omega),e,a,d,b,g,NW,cZ (by omega),show(k:Int)+1=((k+1:Nat):Int) by omega])
 unfold JU TQ TR;rw[←hL];generalize pU F [] n s c (aF s) (ay (aF s)) ((k+1:Nat):Int) some=N;generalize av 97 (ko .or .u8 ((s[k].toNat:Nat):Int) 32)=b1;generalize av (ko .or .u8 ((s[k].toNat:Nat):Int) 32) 122=b2;generalize (s[k]==95)=b3;generalize decide (0<k)=b4;generalize decide (48≤s[k].toNat)=b5;generalize decide (s[k].toNat≤57)=b6;generalize (s[k]==45)=b7;generalize (s[k]==43)=b8;generalize (s[k]==47)=b9;generalize (s[k]==46)=b10
 cases b1<;>cases b2<;>cases b3<;>cases b4<;>cases b5<;>cases b6<;>cases b7<;>cases b8<;>cases b9<;>cases b10<;>rfl
theorem VI (s:af) (b:Int) (F:Nat) (e:s.length≤64): ∀(n k:Nat),k≤s.length→s.length-k<n→
  pU F [] n s b (aF s) (ay (aF s)) (k:Int) some=some (.int .i64 (if xV k (s.drop k)=true then(if s=[] then 10 else 0) else 10)):=by
 intro n;induction n with
 |zero=>intro k _ h;omega
 |succ n d=>
  intro k f i;by_cases h:k<s.length
  ·rw[VH s b F n k h e,abf h]
   show _=some (V.int .i64 (if(JU k s[k]&&xV (k+1) (s.drop (k+1)))=true then _ else _))
   cases g:JU k s[k] with
   |true=>rw[if_pos rfl,d (k+1) (by omega) (by omega),JH]
   |false=>rw[if_neg (by decide),Bool.false_and,if_neg (by decide)]
  have c:(aF s).length=s.length:=by unfold aF;rw[kJ]
  (rw[yO];(conv=>zeta);rw[aK (bF (by rw[aD,c];omega)),abh (by omega),if_pos (show xV k []=true from rfl),bK])
  by_cases a:s=[]
  ·rw[if_pos (by rw[cK];exact a),if_pos a]
  rw[if_neg (by rw[cK];exact a),if_neg a]
theorem Uj (s:af):(if xV 0 s=true then(if s=[] then(10:Int) else 0) else 10)=if xV 0 s=true∧s≠[] then 0 else 10:=by
 by_cases h:xV 0 s=true
 ·rw[if_pos h]
  by_cases a:s=[]
  ·rw[if_pos a,if_neg (fun e=>e.2 a)]
  rw[if_neg a,if_pos ⟨h,a⟩]
 rw[if_neg h,if_neg (fun e=>h e.1)]
theorem Rh (s:af):aj oE 38 [.str s] (.int .i64 (dG s)):=by
 refine au KL nS0_ok 100 2 ?_;rw[ad8];unfold dG;by_cases h:64<s.length
 ·rw[ax (bH (by rw[aI];omega)),if_pos h]
 rw[aK (bF (by rw[aI];omega)),if_neg h,ax (by rw[Dt];omega)];have:=VI s 0 100 (by omega) 100 0 (by omega) (by omega);rw[Yx,Uj] at this;exact this
end Nt.Ev.YtknhlobahpgkeaaGreatDoor.Nm
namespace Nt.Ev.YtknhlobahpgkeaaGreatDoor.Lk
open Go Nt Nt.Num
abbrev Bs:=af
def stepP:List (Bs×Bs)→Bs→Option Bs
 |[],_=>none
 |(t,m)::r,n=>if m=n then some t else stepP r n
def MetOk (l:List (Bs×Bs)) (a:List Bs) (n:Bs):Prop:=a.Nodup∧ ∀m∈a,∃t,stepP l m=some t∧(t∈a∨t=n)
theorem MetOk.step {l:List (Bs×Bs)} {a:List Bs} {n t:Bs} (h:MetOk l a n) (f:n∉a) (e:stepP l n=some t):MetOk l (n::a) t:=by
 refine⟨List.nodup_cons.2 ⟨f,h.1⟩,fun m b=>?_⟩;rcases List.mem_cons.1 b with rfl|b
 ·exact⟨t,e,.inr rfl⟩
 obtain⟨u,d,c|c⟩:=h.2 m b
 ·exact⟨u,d,.inl (wN _ c)⟩
 exact⟨u,d,.inl (c▸by simp)⟩
open Go.Proofs.YtknhlobahpgkeaaGreatDoor
open Nt.Ev.YtknhlobahpgkeaaGreatDoor.Nm
noncomputable def kNaS:aC:=fun a=>match a with|[.str s]=>some (true,.int .i64 (dG s))|_=>none
def JW (a b:Int):Int:=sel (ieq a 0) b a
noncomputable def kOrS:aC:=fun a=>match a with|[.sl e [.int .i64] o [.int .i64 a,.int .i64 b]]=>some (true,.int .i64 (JW a b))|_=>none
noncomputable def kS0:List (Nat×aC):=(35,kOrS)::(38,kNaS)::[]
noncomputable def kS1:List (Nat×aC):=kS0
noncomputable def Ut:=fun F c n a f d e b K=>(gH oE oS F 2 35 [1,1,0,1,0] c K n (kD 18 [(0,V.sl 33 [Kd.int .i64] none a),(2,V.int .i64 f),(3,V.int .i64 0),(6,V.sl 33 [Kd.int .i64] none d),(7,V.int .i64 e),(8,V.int .i64 b)] []):Option V)
theorem kOr_top (F a b) (K:V→Option V):
 bA oE (bu oE oS F 2) F 35 [V.sl 33 [Kd.int .i64] none [V.int .i64 a,V.int .i64 b]] K=
 let A:=[V.int .i64 a,V.int .i64 b];Ut F [] F A 0 A (ay A) 0 K:=by kernel_rfl
theorem wL (F n d e b c a K):
 Ut F [] (n+1) d e b c a K=
 let A:=asInt (ai (aG b a) 0);sel (aW a c) (sel (ak (av 0 a) (aW a (ay b))) (sel (aL (ieq A 0)) (K (V.int .i64 A)) (Ut F [] n d e b c (bJ .i64 a 1) K)) none) (K (V.int .i64 0)):=by kernel_rfl
theorem ad9 (F xs) (K:V→Option V):
 bA oE (bu oE kS0 F 3) F 66 [V.sl 9 [Kd.str] none xs] K=
 let A:=V.agg [V.str [],V.str []];let B:=aH (ai (aG xs 0) 0);let C:=aH (ai (aG xs 1) 0);let D:=JW (dG B) (dG C);sel (aW (ay xs) 2) (K (V.tup [A,V.int .i64 5])) (sel (aW 2 (ay xs)) (K (V.tup [A,V.int .i64 6])) (sel (ak (av 0 0) (aW 0 (ay xs))) (sel (ak (av 0 1) (aW 1 (ay xs))) (sel (aL (ieq D 0)) (K (V.tup [A,V.int .i64 D])) (sel (seq B C) (K (V.tup [A,V.int .i64 13])) (K (V.tup [V.agg [V.str B,V.str C],V.int .i64 0])))) none) none)):=by kernel_rfl
theorem SS (F t n) (K:V→Option V):
 bA oE (bu oE kS0 F 5) F 16 [V.agg [V.str t,V.str n]] K=
 let A:=K (V.tup [V.sl 9 [Kd.str] (some 0) [],V.int .i64 4]);let B:=[V.str t,V.str n];let D:=aL (ieq (JW (dG t) (dG n)) 0);let C:=K (V.tup [V.sl 9 [Kd.str] (some 0) B,V.int .i64 0]);sel (aW (ay B) 2) A (sel (aW 2 (ay B)) A (sel (ak (av 0 0) (aW 0 (ay B))) (sel (ak (av 0 1) (aW 1 (ay B))) (sel D (sel D A C) (sel (seq t n) A C)) none) none)):=by kernel_rfl
end Nt.Ev.YtknhlobahpgkeaaGreatDoor.Lk
namespace Nt.Maps
open Go Go.Maps Go.RowKit Go.WideMaps
abbrev DU:=DataW Unit
def RelTo (D:DU) (f:af→Option (af)):Prop:=∀(l:af) (z:DU),D.atKey (.string l) z=match f l with|none=>z|some t=> .lit (.string t)
def RelIn (D:DU) (f:af→Bool):Prop:=∀(l:af) (z:DU),D.atKey (.string l) z=if f l=true then .lit (.bool true) else z
def vG (w:World) (P:Program) (k e:TypeId) (b n:Nat) (f:af→Option (af)):Prop:=∃D:DU,w.ownsMap P k (plainElem P e) b n D∧RelTo D f
def vH (w:World) (P:Program) (k e:TypeId) (b n:Nat) (f:af→Bool):Prop:=∃D:DU,w.ownsMap P k (plainElem P e) b n D∧RelIn D f∧Maps.size D=n
variable {P:Program} {k e t:TypeId} {w:World} {b n:Nat} {f:af→Option (af)} {g:af→Bool}
theorem vG.lt (h:vG w P k e b n f):b<w.heap.size:=h.elim fun _ h=>h.1.lt
theorem vH.lt (h:vH w P k e b n g):b<w.heap.size:=h.elim fun _ h=>h.1.lt
theorem vG.kept {w':World} {row:Option Nat} (h:vG w P k e b n f) (c:w.grownBy w' row) (a:some b≠row):vG w' P k e b n f:=h.elim fun D h=>⟨D,h.1.kept c a,h.2⟩
theorem vH.kept {w':World} {row:Option Nat} (h:vH w P k e b n g) (c:w.grownBy w' row) (a:some b≠row):vH w' P k e b n g:=h.elim fun D h=>⟨D,h.1.kept c a,h.2⟩
theorem vG.alloc (h:vG w P k e b n f) (o:Obj):vG (w.alloc o) P k e b n f:=h.elim fun D h=>⟨D,h.1.alloc o,h.2⟩
theorem vH.alloc (h:vH w P k e b n g) (o:Obj):vH (w.alloc o) P k e b n g:=h.elim fun D h=>⟨D,h.1.alloc o,h.2⟩
theorem vG.setCell (h:vG w P k e b n f) {a:Addr} (c:b≠a.block) (u:Value):vG (w.setCell a u) P k e b n f:=h.elim fun D h=>⟨D,h.1.setCell c u,h.2⟩
theorem vH.setCell (h:vH w P k e b n g) {a:Addr} (c:b≠a.block) (u:Value):vH (w.setCell a u) P k e b n g:=h.elim fun D h=>⟨D,h.1.setCell c u,h.2⟩
section
variable {ops:Array Oper} {rest:List Oper} {o:Oper} {a:Act} {Q:Exit→Act→World→Prop}
end
end Nt.Maps
namespace Go.Proofs.YtknhlobahpgkeaaGreatDoor
open Go Go.RowKit Go.Shelf Nt Nt.Maps Nt.Ev.YtknhlobahpgkeaaGreatDoor.Lk
end Go.Proofs.YtknhlobahpgkeaaGreatDoor
namespace Nt.Ev.YtknhlobahpgkeaaGreatDoor.Lk
open Go Go.RowKit Nt Nt.Num Nt.Ev.YtknhlobahpgkeaaGreatDoor.Nm Go.Proofs.YtknhlobahpgkeaaGreatDoor
theorem XR (s:af) (a:true=true):aj oE 38 [.str s] (.int .i64 (dG s)):=Rh s
theorem kOr_ev (a b:Int):aj oE 35 [.sl 33 [.int .i64] none [.int .i64 a,.int .i64 b]] (.int .i64 (JW a b)):=by
 refine au KL oS_ok 5 2 ?_
 (rw[kOr_top];(conv=>zeta);rw[wL];(conv=>zeta);rw[wL];(conv=>zeta);rw[wL];(conv=>zeta))
 have e:sel (aL (ieq a 0)) (some (V.int .i64 a)) (sel (aL (ieq b 0)) (some (V.int .i64 b)) (some (V.int .i64 0)))=some (.int .i64 (JW a b)):=by
  unfold JW;simp only[bK,bW,aN];repeat' split
  all_goals first|rfl|(exfalso;omega)|(congr 2;omega)
 exact e
theorem kOrS_ok (e:Nat) (o:Option Nat) (a b:Int) (h:true=true):aj oE 35 [.sl e [.int .i64] o [.int .i64 a,.int .i64 b]] (.int .i64 (JW a b)):=by intro G w vs g f d;refine kOr_ev a b G w vs g f ?_;obtain⟨x,rfl,c⟩:=CR d;refine .cons ?_ .nil;unfold aV at c⊢;exact c
theorem CX:bf oE kS0:=by
 unfold kS0;refine bf.cons (fun args r h=>?_) (bf.cons (fun args r h=>?_) bf.nil);all_goals (revert h;intro h;first|unfold kOrS at h|unfold kNaS at h)
 all_goals (split at h;rotate_left; · cases h)
 all_goals (simp only[aR,bM] at h;obtain⟨a,rfl⟩:=h)
 ·exact kOrS_ok _ _ _ _ rfl
 exact XR _ rfl
noncomputable def Pq (xs:ah):Int:=if ay xs<2 then 5 else if 2<ay xs then 6 else
 let t:=aH (ai (aG xs 0) 0);let n:=aH (ai (aG xs 1) 0)
 if JW (dG t) (dG n)≠0 then JW (dG t) (dG n) else if t=n then 13 else 0
noncomputable def lrT (xs:ah):af:=if Pq xs=0 then aH (ai (aG xs 0) 0) else[]
noncomputable def lrN (xs:ah):af:=if Pq xs=0 then aH (ai (aG xs 1) 0) else[]
theorem IB (a b:Int):JW a b=0↔a=0∧b=0:=by unfold JW;simp only[bK,aN];split<;>omega
theorem kRead_ev (xs:ah):aj oE 66 [.sl 9 [.str] none xs] (.tup [.agg [.str (lrT xs),.str (lrN xs)],.int .i64 (Pq xs)]):=by
 refine au KL CX 5 3 ?_
 (rw[ad9];(conv=>zeta))
 unfold lrT lrN;have b:ak (av 0 0) (aW 0 (ay xs))=decide (0<ay xs):=by rw[uF,aM,aB,bq,lG];omega
 have a:ak (av 0 1) (aW 1 (ay xs))=decide (1<ay xs):=by rw[uF,aM,aB,bq,lG];omega
 rw[b,a];unfold Pq;simp only[bK,bq,bW,aN,cK,lG];repeat' split
 all_goals first|rfl|omega|(exfalso;omega)|skip
 all_goals simp_all
noncomputable def rgB (t n:af):Bool:=decide (dG t=0∧dG n=0∧t≠n)
theorem llen2 (t n:af):ay [V.str t,V.str n]=2:=rfl
noncomputable def fdL (t n:af):ah:=if rgB t n=true then[.str t,.str n] else[]
noncomputable def fdE (t n:af):Int:=if rgB t n=true then 0 else 4
theorem VJ (t n:af):aj oE 16 [.agg [.str t,.str n]] (.tup [.sl 9 [.str] (some 0) (fdL t n),.int .i64 (fdE t n)]):=by
 refine au KL CX 5 5 ?_
 (rw[SS];(conv=>zeta);rw[llen2])
 unfold fdL fdE rgB;simp only[bK,bq,aB,aM,bW,aN,cK,IB,lG];repeat' split
 all_goals first|rfl|omega|skip
 all_goals simp_all
theorem Uu:bf oE kS1:=by unfold kS1;refine CX
end Nt.Ev.YtknhlobahpgkeaaGreatDoor.Lk
