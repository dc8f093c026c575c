/-
  Name: equations of functions, as the evaluator prints them. Names: both sides.
-/
import Derived.Test.YtjcencojgajgdaaGreatDoorMC
import Derived.Test.YtjcencojgajgdaaGreatDoorMS
import Derived.Maps.OwnSet
import Derived.Maps.OwnOps
import Derived.Maps.StringElems
import Derived.StringKeys
import Derived.Maps.Own
import Derived.Test.YtjcencojgajgdaaGreatDoorMZ
set_option linter.all false
set_option maxRecDepth 100000
namespace Nt.Ev.YtjcencojgajgdaaGreatDoor.Nm
open Go Nt.Num Go.Proofs.YtjcencojgajgdaaGreatDoor
def idxN (s:af) (c:Int):Int:=Go.Lib.indexByte s c.toNat.toUInt8
def UI (c:UInt8):Bool:=(decide (65≤c.toNat)&&decide (c.toNat≤90))||(decide (97≤c.toNat)&&decide (c.toNat≤122))||c==95
def UJ (c:UInt8):Bool:=(decide (48≤c.toNat)&&decide (c.toNat≤57))||c==45||c==43||c==47||c==46
def Kq (k:Nat) (c:UInt8):Bool:=UI c||(decide (0<k)&&UJ c)
def xZ:Nat→af→Bool|_,[]=>true|k,c::t=>Kq k c&&xZ (k+1) t
def dK (s:af):Int:=if 64<s.length then 9 else if xZ 0 s=true∧s≠[] then 0 else 10
noncomputable def nByS:aD:=fun a=>match a with|[.str s,.int .u8 c]=>some (true,.int .i64 (idxN s c))|_=>none
noncomputable def nS0:List (Nat×aD):=(63,nByS)::[]
noncomputable def pW:=fun F d n c f e a b K=>(bR oE nS0 F 2 42 [1,1,0,1,0] d K n (fB 48 [(0,V.str c),(2,V.int .i64 f),(9,V.sl 5 [Kd.int .u8] none e),(10,V.int .i64 a),(11,V.int .i64 b)] []):Option V)
theorem afa (F s) (K:V→Option V):
 bE oE (bC oE nS0 F 2) F 42 [V.str s] K=
 sel (aR 64 (aB s)) (K (V.int .i64 9)) (sel (Le s) (pW F [] F s 0 (aH s) (ay (aH s)) 0 K) none):=by kernel_rfl
theorem yP (F n d e c b a K):
 pW F [] (n+1) d e c b a K=
 let B:=pW F [] n d e c b (bg .i64 a 1) K;let C:=asInt (ai (aG c a) 0);let E:=K (V.int .i64 10);let D:=sel (ax 0 (idxN [45,43,47,46] C)) B E;let G:=kg .or .u8 C 32;let A:=sel (ieq C 95) B (sel (aR 0 a) (sel (ax 48 C) (sel (ax C 57) B D) D) E);sel (aR a b) (sel (ak (ax 0 a) (aR a (ay c))) (sel (ax 97 G) (sel (ax G 122) B A) A) none) (sel (seq d []) E (K (V.int .i64 0))):=by kernel_rfl
open Go.RowKit Nt
theorem nByS_ok (s:af) (c:Int) (h:true=true):aj oE 63 [.str s,.int .u8 c] (.int .i64 (idxN s c)):=by
 refine bZ fun G w vs g f d=>?_
 obtain⟨x,y,rfl,b,a⟩:=iO d;unfold aV at b a;subst b;subst a;refine(Go.Proofs.Tryz.strings_IndexByte ⟨s.toArray⟩ c w).mono ?_;rintro e w' ⟨rfl,rfl⟩;exact⟨_,rfl,.refl _ _,qJ _ _⟩
theorem nS0_ok:aZ oE nS0:=by
 unfold nS0;refine aZ.cons (fun args r h=>?_) aZ.nil;all_goals (revert h;intro h;first|unfold nByS at h)
 all_goals (split at h;rotate_left; · cases h)
 all_goals (simp only[aT,bP] at h;obtain⟨a,rfl⟩:=h)
 ·exact nByS_ok _ _ rfl
theorem uq (c:UInt8):(ax 97 (kg .or .u8 ((c.toNat:Nat):Int) 32)&&ax (kg .or .u8 ((c.toNat:Nat):Int) 32) 122)=((decide (65≤c.toNat)&&decide (c.toNat≤90))||(decide (97≤c.toNat)&&decide (c.toNat≤122))):=by
 have h: ∀n:Fin 256,(ax 97 (kg .or .u8 ((n.val:Nat):Int) 32)&&ax (kg .or .u8 ((n.val:Nat):Int) 32) 122)=((decide (65≤n.val)&&decide (n.val≤90))||(decide (97≤n.val)&&decide (n.val≤122))):=by decide+kernel
 exact h ⟨c.toNat,c.toNat_lt⟩
theorem OV (c:UInt8):ax 0 (idxN [45,43,47,46] ((c.toNat:Nat):Int))=(c==45||c==43||c==47||c==46):=by
 have h: ∀n:Fin 256,ax 0 (idxN [45,43,47,46] ((n.val:Nat):Int))=(UInt8.ofNat n==45||UInt8.ofNat n==43||UInt8.ofNat n==47||UInt8.ofNat n==46):=by decide+kernel
 have:=h ⟨c.toNat,c.toNat_lt⟩;simpa using this
theorem Va (c d:UInt8):ieq ((c.toNat:Nat):Int) ((d.toNat:Nat):Int)=(c==d):=by rw[uF,aO,iJ,←acA];omega
theorem Io (c:UInt8) (a:Nat):ax (a:Int) ((c.toNat:Nat):Int)=decide (a≤c.toNat):=by rw[uF,aA,lK];omega
theorem Be (c:UInt8) (a:Nat):ax ((c.toNat:Nat):Int) (a:Int)=decide (c.toNat≤a):=by rw[uF,aA,lK];omega
theorem WJ (s:af) (c:Int) (F n k:Nat) (h:k<s.length) (i:s.length≤64):pW F [] (n+1) s c (aH s) (ay (aH s)) (k:Int) some=
  if Kq k (s[k])=true then pW F [] n s c (aH s) (ay (aH s)) ((k+1:Nat):Int) some else some (.int .i64 10):=by
 have f:(aH s).length=s.length:=by unfold aH;rw[kS]
 have e:asInt (ai (aG (aH s) (k:Int)) 0)=((s[k].toNat:Nat):Int):=by rw[fo];unfold aH;rw[l7,uE,iK h];rfl
 have a:ieq ((s[k].toNat:Nat):Int) 95=(s[k]==95):=Va s[k] 95;have d:ax 48 ((s[k].toNat:Nat):Int)=decide (48≤s[k].toNat):=Io s[k] 48;have b:ax ((s[k].toNat:Nat):Int) 57=decide (s[k].toNat≤57):=Be s[k] 57;have g:aR 0 (k:Int)=decide (0<k):=by rw[uF,bq,lK];omega
 have hL:=uq s[k]
 (rw[yP];(conv=>zeta);rw[av (bu (by rw[aC,f];omega)),av (by rw[aM,aA,bq,aC,f];omega),e,a,d,b,g,OV,cr (by omega),show(k:Int)+1=((k+1:Nat):Int) by omega])
 unfold Kq UI UJ;rw[←hL];generalize pW F [] n s c (aH s) (ay (aH s)) ((k+1:Nat):Int) some=N;generalize ax 97 (kg .or .u8 ((s[k].toNat:Nat):Int) 32)=b1;generalize ax (kg .or .u8 ((s[k].toNat:Nat):Int) 32) 122=b2;generalize (s[k]==95)=b3;generalize decide (0<k)=b4;generalize decide (48≤s[k].toNat)=b5;generalize decide (s[k].toNat≤57)=b6;generalize (s[k]==45)=b7;generalize (s[k]==43)=b8;generalize (s[k]==47)=b9;generalize (s[k]==46)=b10
 cases b1<;>cases b2<;>cases b3<;>cases b4<;>cases b5<;>cases b6<;>cases b7<;>cases b8<;>cases b9<;>cases b10<;>rfl
theorem WK (s:af) (b:Int) (F:Nat) (e:s.length≤64): ∀(n k:Nat),k≤s.length→s.length-k<n→
  pW F [] n s b (aH s) (ay (aH s)) (k:Int) some=some (.int .i64 (if xZ k (s.drop k)=true then(if s=[] then 10 else 0) else 10)):=by
 intro n;induction n with
 |zero=>intro k _ h;omega
 |succ n d=>
  intro k f i;by_cases h:k<s.length
  ·rw[WJ s b F n k h e,abg h]
   show _=some (V.int .i64 (if(Kq k s[k]&&xZ (k+1) (s.drop (k+1)))=true then _ else _))
   cases g:Kq k s[k] with
   |true=>rw[if_pos rfl,d (k+1) (by omega) (by omega),Ke]
   |false=>rw[if_neg (by decide),Bool.false_and,if_neg (by decide)]
  have c:(aH s).length=s.length:=by unfold aH;rw[kS]
  (rw[yP];(conv=>zeta);rw[aI (bB (by rw[aC,c];omega)),abj (by omega),if_pos (show xZ k []=true from rfl),bM])
  by_cases a:s=[]
  ·rw[if_pos (by rw[dx];exact a),if_pos a]
  rw[if_neg (by rw[dx];exact a),if_neg a]
theorem Vb (s:af):(if xZ 0 s=true then(if s=[] then(10:Int) else 0) else 10)=if xZ 0 s=true∧s≠[] then 0 else 10:=by
 by_cases h:xZ 0 s=true
 ·rw[if_pos h]
  by_cases a:s=[]
  ·rw[if_pos a,if_neg (fun e=>e.2 a)]
  rw[if_neg a,if_pos ⟨h,a⟩]
 rw[if_neg h,if_neg (fun e=>h e.1)]
theorem Sk (s:af):aj oE 42 [.str s] (.int .i64 (dK s)):=by
 refine au Ls nS0_ok 100 2 ?_;rw[afa];unfold dK;by_cases h:64<s.length
 ·rw[av (bu (by rw[aJ];omega)),if_pos h]
 rw[aI (bB (by rw[aJ];omega)),if_neg h,av (by rw[DL];omega)];have:=WK s 0 100 (by omega) 100 0 (by omega) (by omega);rw[WX,Vb] at this;exact this
end Nt.Ev.YtjcencojgajgdaaGreatDoor.Nm
namespace Nt.Ev.YtjcencojgajgdaaGreatDoor.Lk
open Go Nt Nt.Num
abbrev Bs:=af
def stepP:List (Bs×Bs)→Bs→Option Bs
 |[],_=>none
 |(t,m)::r,n=>if m=n then some t else stepP r n
def MetOk (l:List (Bs×Bs)) (a:List Bs) (n:Bs):Prop:=a.Nodup∧ ∀m∈a,∃t,stepP l m=some t∧(t∈a∨t=n)
theorem MetOk.step {l:List (Bs×Bs)} {a:List Bs} {n t:Bs} (h:MetOk l a n) (f:n∉a) (e:stepP l n=some t):MetOk l (n::a) t:=by
 refine⟨List.nodup_cons.2 ⟨f,h.1⟩,fun m b=>?_⟩;rcases List.mem_cons.1 b with rfl|b
 ·exact⟨t,e,.inr rfl⟩
 obtain⟨u,d,c|c⟩:=h.2 m b
 ·exact⟨u,d,.inl (uO _ c)⟩
 exact⟨u,d,.inl (c▸by simp)⟩
open Go.Proofs.YtjcencojgajgdaaGreatDoor
open Nt.Ev.YtjcencojgajgdaaGreatDoor.Nm
noncomputable def kNaS:aD:=fun a=>match a with|[.str s]=>some (true,.int .i64 (dK s))|_=>none
def Ks (a b:Int):Int:=sel (ieq a 0) b a
noncomputable def kOrS:aD:=fun a=>match a with|[.sl e [.int .i64] o [.int .i64 a,.int .i64 b]]=>some (true,.int .i64 (Ks a b))|_=>none
noncomputable def kS0:List (Nat×aD):=(39,kOrS)::(42,kNaS)::[]
noncomputable def kS1:List (Nat×aD):=kS0
noncomputable def Vl:=fun F c n a f d e b K=>(bR oE oS F 2 39 [1,1,0,1,0] c K n (fB 18 [(0,V.sl 29 [Kd.int .i64] none a),(2,V.int .i64 f),(3,V.int .i64 0),(6,V.sl 29 [Kd.int .i64] none d),(7,V.int .i64 e),(8,V.int .i64 b)] []):Option V)
theorem kOr_top (F a b) (K:V→Option V):
 bE oE (bC oE oS F 2) F 39 [V.sl 29 [Kd.int .i64] none [V.int .i64 a,V.int .i64 b]] K=
 let A:=[V.int .i64 a,V.int .i64 b];Vl F [] F A 0 A (ay A) 0 K:=by kernel_rfl
theorem wL (F n d e b c a K):
 Vl F [] (n+1) d e b c a K=
 let A:=asInt (ai (aG b a) 0);sel (aR a c) (sel (ak (ax 0 a) (aR a (ay b))) (sel (aL (ieq A 0)) (K (V.int .i64 A)) (Vl F [] n d e b c (bg .i64 a 1) K)) none) (K (V.int .i64 0)):=by kernel_rfl
theorem afb (F xs) (K:V→Option V):
 bE oE (bC oE kS0 F 3) F 64 [V.sl 9 [Kd.str] none xs] K=
 let A:=V.agg [V.str [],V.str []];let B:=aF (ai (aG xs 0) 0);let C:=aF (ai (aG xs 1) 0);let D:=Ks (dK B) (dK C);sel (aR (ay xs) 2) (K (V.tup [A,V.int .i64 5])) (sel (aR 2 (ay xs)) (K (V.tup [A,V.int .i64 6])) (sel (ak (ax 0 0) (aR 0 (ay xs))) (sel (ak (ax 0 1) (aR 1 (ay xs))) (sel (aL (ieq D 0)) (K (V.tup [A,V.int .i64 D])) (sel (seq B C) (K (V.tup [A,V.int .i64 13])) (K (V.tup [V.agg [V.str B,V.str C],V.int .i64 0])))) none) none)):=by kernel_rfl
theorem TW (F t n) (K:V→Option V):
 bE oE (bC oE kS0 F 5) F 20 [V.agg [V.str t,V.str n]] K=
 let A:=K (V.tup [V.sl 9 [Kd.str] (some 0) [],V.int .i64 4]);let B:=[V.str t,V.str n];let D:=aL (ieq (Ks (dK t) (dK n)) 0);let C:=K (V.tup [V.sl 9 [Kd.str] (some 0) B,V.int .i64 0]);sel (aR (ay B) 2) A (sel (aR 2 (ay B)) A (sel (ak (ax 0 0) (aR 0 (ay B))) (sel (ak (ax 0 1) (aR 1 (ay B))) (sel D (sel D A C) (sel (seq t n) A C)) none) none)):=by kernel_rfl
end Nt.Ev.YtjcencojgajgdaaGreatDoor.Lk
namespace Nt.Maps
open Go Go.Maps Go.RowKit Go.WideMaps
abbrev DU:=DataW Unit
def RelTo (D:DU) (f:af→Option (af)):Prop:=∀(l:af) (z:DU),D.atKey (.string l) z=match f l with|none=>z|some t=> .lit (.string t)
def RelIn (D:DU) (f:af→Bool):Prop:=∀(l:af) (z:DU),D.atKey (.string l) z=if f l=true then .lit (.bool true) else z
def vD (w:World) (P:Program) (k e:TypeId) (b n:Nat) (f:af→Option (af)):Prop:=∃D:DU,w.ownsMap P k (plainElem P e) b n D∧RelTo D f
def vF (w:World) (P:Program) (k e:TypeId) (b n:Nat) (f:af→Bool):Prop:=∃D:DU,w.ownsMap P k (plainElem P e) b n D∧RelIn D f∧Maps.size D=n
variable {P:Program} {k e t:TypeId} {w:World} {b n:Nat} {f:af→Option (af)} {g:af→Bool}
theorem vD.lt (h:vD w P k e b n f):b<w.heap.size:=h.elim fun _ h=>h.1.lt
theorem vF.lt (h:vF w P k e b n g):b<w.heap.size:=h.elim fun _ h=>h.1.lt
theorem vD.kept {w':World} {row:Option Nat} (h:vD w P k e b n f) (c:w.grownBy w' row) (a:some b≠row):vD w' P k e b n f:=h.elim fun D h=>⟨D,h.1.kept c a,h.2⟩
theorem vF.kept {w':World} {row:Option Nat} (h:vF w P k e b n g) (c:w.grownBy w' row) (a:some b≠row):vF w' P k e b n g:=h.elim fun D h=>⟨D,h.1.kept c a,h.2⟩
theorem vD.alloc (h:vD w P k e b n f) (o:Obj):vD (w.alloc o) P k e b n f:=h.elim fun D h=>⟨D,h.1.alloc o,h.2⟩
theorem vF.alloc (h:vF w P k e b n g) (o:Obj):vF (w.alloc o) P k e b n g:=h.elim fun D h=>⟨D,h.1.alloc o,h.2⟩
theorem vD.setCell (h:vD w P k e b n f) {a:Addr} (c:b≠a.block) (u:Value):vD (w.setCell a u) P k e b n f:=h.elim fun D h=>⟨D,h.1.setCell c u,h.2⟩
theorem vF.setCell (h:vF w P k e b n g) {a:Addr} (c:b≠a.block) (u:Value):vF (w.setCell a u) P k e b n g:=h.elim fun D h=>⟨D,h.1.setCell c u,h.2⟩
section
variable {ops:Array Oper} {rest:List Oper} {o:Oper} {a:Act} {Q:Exit→Act→World→Prop}
end
end Nt.Maps
namespace Go.Proofs.YtjcencojgajgdaaGreatDoor
open Go Go.RowKit Go.Shelf Nt Nt.Maps Nt.Ev.YtjcencojgajgdaaGreatDoor.Lk
end Go.Proofs.YtjcencojgajgdaaGreatDoor
namespace Nt.Ev.YtjcencojgajgdaaGreatDoor.Lk
open Go Go.RowKit Nt Nt.Num Nt.Ev.YtjcencojgajgdaaGreatDoor.Nm Go.Proofs.YtjcencojgajgdaaGreatDoor
theorem YR (s:af) (a:true=true):aj oE 42 [.str s] (.int .i64 (dK s)):=Sk s
theorem kOr_ev (a b:Int):aj oE 39 [.sl 29 [.int .i64] none [.int .i64 a,.int .i64 b]] (.int .i64 (Ks a b)):=by
 refine au Ls oS_ok 5 2 ?_
 (rw[kOr_top];(conv=>zeta);rw[wL];(conv=>zeta);rw[wL];(conv=>zeta);rw[wL];(conv=>zeta))
 have e:sel (aL (ieq a 0)) (some (V.int .i64 a)) (sel (aL (ieq b 0)) (some (V.int .i64 b)) (some (V.int .i64 0)))=some (.int .i64 (Ks a b)):=by
  unfold Ks;simp only[bM,bY,aO];repeat' split
  all_goals first|rfl|(exfalso;omega)|(congr 2;omega)
 exact e
theorem kOrS_ok (e:Nat) (o:Option Nat) (a b:Int) (h:true=true):aj oE 39 [.sl e [.int .i64] o [.int .i64 a,.int .i64 b]] (.int .i64 (Ks a b)):=by intro G w vs g f d;refine kOr_ev a b G w vs g f ?_;obtain⟨x,rfl,c⟩:=zx d;refine .cons ?_ .nil;unfold aV at c⊢;exact c
theorem De:aZ oE kS0:=by
 unfold kS0;refine aZ.cons (fun args r h=>?_) (aZ.cons (fun args r h=>?_) aZ.nil);all_goals (revert h;intro h;first|unfold kOrS at h|unfold kNaS at h)
 all_goals (split at h;rotate_left; · cases h)
 all_goals (simp only[aT,bP] at h;obtain⟨a,rfl⟩:=h)
 ·exact kOrS_ok _ _ _ _ rfl
 exact YR _ rfl
noncomputable def Ub (xs:ah):Int:=if ay xs<2 then 5 else if 2<ay xs then 6 else
 let t:=aF (ai (aG xs 0) 0);let n:=aF (ai (aG xs 1) 0)
 if Ks (dK t) (dK n)≠0 then Ks (dK t) (dK n) else if t=n then 13 else 0
noncomputable def lrT (xs:ah):af:=if Ub xs=0 then aF (ai (aG xs 0) 0) else[]
noncomputable def lrN (xs:ah):af:=if Ub xs=0 then aF (ai (aG xs 1) 0) else[]
theorem Ji (a b:Int):Ks a b=0↔a=0∧b=0:=by unfold Ks;simp only[bM,aO];split<;>omega
theorem kRead_ev (xs:ah):aj oE 64 [.sl 9 [.str] none xs] (.tup [.agg [.str (lrT xs),.str (lrN xs)],.int .i64 (Ub xs)]):=by
 refine au Ls De 5 3 ?_
 (rw[afb];(conv=>zeta))
 unfold lrT lrN;have b:ak (ax 0 0) (aR 0 (ay xs))=decide (0<ay xs):=by rw[uF,aM,aA,bq,lK];omega
 have a:ak (ax 0 1) (aR 1 (ay xs))=decide (1<ay xs):=by rw[uF,aM,aA,bq,lK];omega
 rw[b,a];unfold Ub;simp only[bM,bq,bY,aO,dx,lK];repeat' split
 all_goals first|rfl|omega|(exfalso;omega)|skip
 all_goals simp_all
noncomputable def rgB (t n:af):Bool:=decide (dK t=0∧dK n=0∧t≠n)
theorem llen2 (t n:af):ay [V.str t,V.str n]=2:=rfl
noncomputable def fdL (t n:af):ah:=if rgB t n=true then[.str t,.str n] else[]
noncomputable def fdE (t n:af):Int:=if rgB t n=true then 0 else 4
theorem WL (t n:af):aj oE 20 [.agg [.str t,.str n]] (.tup [.sl 9 [.str] (some 0) (fdL t n),.int .i64 (fdE t n)]):=by
 refine au Ls De 5 5 ?_
 (rw[TW];(conv=>zeta);rw[llen2])
 unfold fdL fdE rgB;simp only[bM,bq,aA,aM,bY,aO,dx,Ji,lK];repeat' split
 all_goals first|rfl|omega|skip
 all_goals simp_all
theorem Vm:aZ oE kS1:=by unfold kS1;refine De
end Nt.Ev.YtjcencojgajgdaaGreatDoor.Lk
