/-
  Name: equations of functions, as the evaluator prints them. Names: both sides. Links: where one comes out, plain. Link: equations of functions, as the evaluator prints them. A map that a call makes, with strings as keys: string elements read as a function to Option, bool elements as a set. link.Follow, walked: a map of names, and the names that one has met. Links: both sides as contracts.
-/
import Derived.Test.YtplklcejbmfgdaaGreatDoorMC
import Derived.Test.YtplklcejbmfgdaaGreatDoorMS
import Derived.Maps.OwnSet
import Derived.Maps.OwnOps
import Derived.Maps.StringElems
import Derived.StringKeys
import Derived.WalkKit
import Derived.Maps.Own
import Derived.Test.YtplklcejbmfgdaaGreatDoorMZ
set_option linter.unusedVariables false
set_option linter.unusedSimpArgs false
set_option linter.unusedSectionVars false
namespace Nt.Ev.YtplklcejbmfgdaaGreatDoor.Nm
set_option maxRecDepth 100000
open Go Nt.Num Go.Proofs.YtplklcejbmfgdaaGreatDoor
def idxN (s:List UInt8) (c:Int):Int:=Go.Lib.indexByte s c.toNat.toUInt8
def Sy (c:UInt8):Bool:=(decide (65≤c.toNat)&&decide (c.toNat≤90))||(decide (97≤c.toNat)&&decide (c.toNat≤122))||c==95
def Sz (c:UInt8):Bool:=(decide (48≤c.toNat)&&decide (c.toNat≤57))||c==45||c==43||c==47||c==46
def LH (k:Nat) (c:UInt8):Bool:=Sy c||(decide (0<k)&&Sz c)
def B6:Nat→List UInt8→Bool|_,[]=>true|k,c::t=>LH k c&&B6 (k+1) t
def dZ (s:List UInt8):Int:=if 64<s.length then 9 else if B6 0 s=true∧s≠[] then 0 else 10
noncomputable def nByS:aG:=fun a=>match a with|[.str s,.int .u8 c]=>some (true,.int .i64 (idxN s c))|_=>none
noncomputable def nS0:List (Nat×aG):=(43,nByS)::[]
noncomputable def pQ (F:Nat) (ns:List Nat) (n:Nat) (x0:List UInt8) (x2:Int) (x9:List V) (x10 E6:Int) (K:V→Option V):Option V:=
 iG oE nS0 F 2 16 [1,1,0,1,0] ns K n (mY 48 [(0,V.str x0),(2,V.int .i64 x2),(9,V.sl 5 [Kd.int .u8] none x9),(10,V.int .i64 x10),(11,V.int .i64 E6)] [])
theorem ZA (F:Nat) (s:List UInt8) (K:V→Option V):
 bW oE (bT oE nS0 F 2) F 16 [V.str s] K=
 sel (aU 64 (au s)) (K (V.int .i64 9)) (sel (JZ s) (pQ F [] F s 0 (aI s) (av (aI s)) 0 K) none):=by kernel_rfl
theorem yM (F n:Nat) (x0:List UInt8) (x2:Int) (x9:List V) (x10 E6:Int) (K:V→Option V):
 pQ F [] (n+1) x0 x2 x9 x10 E6 K=
 let B:=pQ F [] n x0 x2 x9 x10 (eu .i64 E6 1) K;let C:=asInt (ah (aX x9 E6) 0);let E:=K (V.int .i64 10);let D:=sel (ak 0 (idxN [45,43,47,46] C)) B E;let G:=jY .or .u8 C 32;let A:=sel (ieq C 95) B (sel (aU 0 E6) (sel (ak 48 C) (sel (ak C 57) B D) D) E);sel (aU E6 x10) (sel (ai (ak 0 E6) (aU E6 (av x9))) (sel (ak 97 G) (sel (ak G 122) B A) A) none) (sel (seq x0 []) E (K (V.int .i64 0))):=by kernel_rfl
open Go.RowKit Nt
theorem nByS_ok (s:List UInt8) (c:Int) (hc:true=true):af oE 43 [.str s,.int .u8 c] (.int .i64 (idxN s c)):=by
 refine bP fun G w vs hG hg hp=>?_
 obtain⟨x,y,rfl,hx,hy⟩:=jD hp;unfold aO at hx hy;subst hx;subst hy;refine(Go.Proofs.Tryz.strings_IndexByte ⟨s.toArray⟩ c w).mono ?_;rintro e w' ⟨rfl,rfl⟩;exact⟨_,rfl,.refl _ _,qE _ _⟩
theorem nS0_ok:bn oE nS0:=by
 unfold nS0;refine bn.cons (fun args r h=>?_) bn.nil;all_goals (revert h;intro h;first|unfold nByS at h)
 all_goals (split at h;rotate_left; · cases h)
 all_goals (simp only[Option.some.injEq,Prod.mk.injEq] at h;obtain⟨hc,rfl⟩:=h)
 ·exact nByS_ok _ _ rfl
theorem tK (c:UInt8):(ak 97 (jY .or .u8 ((c.toNat:Nat):Int) 32)&&ak (jY .or .u8 ((c.toNat:Nat):Int) 32) 122)=((decide (65≤c.toNat)&&decide (c.toNat≤90))||(decide (97≤c.toNat)&&decide (c.toNat≤122))):=by
 have h: ∀n:Fin 256,(ak 97 (jY .or .u8 ((n.val:Nat):Int) 32)&&ak (jY .or .u8 ((n.val:Nat):Int) 32) 122)=((decide (65≤n.val)&&decide (n.val≤90))||(decide (97≤n.val)&&decide (n.val≤122))):=by decide+kernel
 exact h ⟨c.toNat,c.toNat_lt⟩
theorem Nc (c:UInt8):ak 0 (idxN [45,43,47,46] ((c.toNat:Nat):Int))=(c==45||c==43||c==47||c==46):=by
 have h: ∀n:Fin 256,ak 0 (idxN [45,43,47,46] ((n.val:Nat):Int))=(UInt8.ofNat n==45||UInt8.ofNat n==43||UInt8.ofNat n==47||UInt8.ofNat n==46):=by decide+kernel
 have:=h ⟨c.toNat,c.toNat_lt⟩;simpa using this
theorem Tj (c d:UInt8):ieq ((c.toNat:Nat):Int) ((d.toNat:Nat):Int)=(c==d):=by
 rw[Bool.eq_iff_iff,aL,beq_iff_eq,←UInt8.toNat_inj];omega
theorem Gu (c:UInt8) (a:Nat):ak (a:Int) ((c.toNat:Nat):Int)=decide (a≤c.toNat):=by
 rw[Bool.eq_iff_iff,ay,decide_eq_true_eq];omega
theorem AY (c:UInt8) (a:Nat):ak ((c.toNat:Nat):Int) (a:Int)=decide (c.toNat≤a):=by
 rw[Bool.eq_iff_iff,ay,decide_eq_true_eq];omega
theorem UI (s:List UInt8) (x2:Int) (F n k:Nat) (hk:k<s.length) (hs:s.length≤64):pQ F [] (n+1) s x2 (aI s) (av (aI s)) (k:Int) some=
  if LH k (s[k])=true then pQ F [] n s x2 (aI s) (av (aI s)) ((k+1:Nat):Int) some else some (.int .i64 10):=by
 have hl:(aI s).length=s.length:=by unfold aI;rw[List.length_map]
 have e:asInt (ah (aX (aI s) (k:Int)) 0)=((s[k].toNat:Nat):Int):=by
  rw[ja];unfold aI;rw[List.getD_eq_getElem?_getD,List.getElem?_map,List.getElem?_eq_getElem hk];rfl
 have e95:ieq ((s[k].toNat:Nat):Int) 95=(s[k]==95):=Tj s[k] 95;have e48:ak 48 ((s[k].toNat:Nat):Int)=decide (48≤s[k].toNat):=Gu s[k] 48;have e57:ak ((s[k].toNat:Nat):Int) 57=decide (s[k].toNat≤57):=AY s[k] 57;have e0:aU 0 (k:Int)=decide (0<k):=by rw[Bool.eq_iff_iff,bf,decide_eq_true_eq];omega
 have hL:=tK s[k]
 (rw[yM];(conv=>zeta);rw[aB (bE (by rw[aA,hl];omega)),aB (by rw[aJ,ay,bf,aA,hl];omega),e,e95,e48,e57,e0,Nc,fU (by omega),show(k:Int)+1=((k+1:Nat):Int) by omega])
 unfold LH Sy Sz;rw[←hL];generalize pQ F [] n s x2 (aI s) (av (aI s)) ((k+1:Nat):Int) some=N;generalize ak 97 (jY .or .u8 ((s[k].toNat:Nat):Int) 32)=b1;generalize ak (jY .or .u8 ((s[k].toNat:Nat):Int) 32) 122=b2;generalize (s[k]==95)=b3;generalize decide (0<k)=b4;generalize decide (48≤s[k].toNat)=b5;generalize decide (s[k].toNat≤57)=b6;generalize (s[k]==45)=b7;generalize (s[k]==43)=b8;generalize (s[k]==47)=b9;generalize (s[k]==46)=b10
 cases b1<;>cases b2<;>cases b3<;>cases b4<;>cases b5<;>cases b6<;>cases b7<;>cases b8<;>cases b9<;>cases b10<;>rfl
theorem UJ (s:List UInt8) (x2:Int) (F:Nat) (hs:s.length≤64): ∀(n k:Nat),k≤s.length→s.length-k<n→
  pQ F [] n s x2 (aI s) (av (aI s)) (k:Int) some=some (.int .i64 (if B6 k (s.drop k)=true then(if s=[] then 10 else 0) else 10)):=by
 intro n;induction n with
 |zero=>intro k _ h;omega
 |succ n ih=>
  intro k hk hn;by_cases h:k<s.length
  ·rw[UI s x2 F n k h hs,List.drop_eq_getElem_cons h]
   show _=some (V.int .i64 (if(LH k s[k]&&B6 (k+1) (s.drop (k+1)))=true then _ else _))
   cases hc:LH k s[k] with
   |true=>rw[if_pos rfl,ih (k+1) (by omega) (by omega),Bool.true_and]
   |false=>rw[if_neg (by decide),Bool.false_and,if_neg (by decide)]
  ·have hl:(aI s).length=s.length:=by unfold aI;rw[List.length_map]
   (rw[yM];(conv=>zeta);rw[aW (bD (by rw[aA,hl];omega)),List.drop_of_length_le (by omega),if_pos (show B6 k []=true from rfl),bV])
   by_cases h0:s=[]
   ·rw[if_pos (by rw[dh];exact h0),if_pos h0]
   ·rw[if_neg (by rw[dh];exact h0),if_neg h0]
theorem Tk (s:List UInt8):(if B6 0 s=true then(if s=[] then(10:Int) else 0) else 10)=if B6 0 s=true∧s≠[] then 0 else 10:=by
 by_cases h:B6 0 s=true
 ·rw[if_pos h]
  by_cases h0:s=[]
  ·rw[if_pos h0,if_neg (fun e=>e.2 h0)]
  ·rw[if_neg h0,if_pos ⟨h,h0⟩]
 ·rw[if_neg h,if_neg (fun e=>h e.1)]
theorem nName_ev (s:List UInt8):af oE 16 [.str s] (.int .i64 (dZ s)):=by
 refine aj F5 nS0_ok 100 2 ?_;rw[ZA];unfold dZ;by_cases h:64<s.length
 ·rw[aB (bE (by rw[aC];omega)),if_pos h]
 ·rw[aW (bD (by rw[aC];omega)),if_neg h,aB (by rw[CV];omega)]
  have:=UJ s 0 100 (by omega) 100 0 (by omega) (by omega);rw[List.drop_zero,Tk] at this;exact this
end Nt.Ev.YtplklcejbmfgdaaGreatDoor.Nm
namespace Nt.Ev.YtplklcejbmfgdaaGreatDoor.Lk
open Go Nt Nt.Num
abbrev Bs:=List UInt8
def stepP:List (Bs×Bs)→Bs→Option Bs
 |[],_=>none
 |(t,m)::r,n=>if m=n then some t else stepP r n
def MetOk (l:List (Bs×Bs)) (met:List Bs) (n:Bs):Prop:=met.Nodup∧ ∀m∈met,∃t,stepP l m=some t∧(t∈met∨t=n)
theorem MetOk.step {l:List (Bs×Bs)} {met:List Bs} {n t:Bs} (h:MetOk l met n) (hn:n∉met) (ht:stepP l n=some t):MetOk l (n::met) t:=by
 refine⟨List.nodup_cons.2 ⟨hn,h.1⟩,fun m hm=>?_⟩;rcases List.mem_cons.1 hm with rfl|hm
 ·exact⟨t,ht,.inr rfl⟩
 ·obtain⟨u,hu,h1|h1⟩:=h.2 m hm
  ·exact⟨u,hu,.inl (List.mem_cons_of_mem _ h1)⟩
  ·exact⟨u,hu,.inl (h1▸by simp)⟩
set_option maxRecDepth 100000
open Go.Proofs.YtplklcejbmfgdaaGreatDoor
open Nt.Ev.YtplklcejbmfgdaaGreatDoor.Nm
noncomputable def kNaS:aG:=fun a=>match a with|[.str s]=>some (true,.int .i64 (dZ s))|_=>none
def U1 (a b:Int):Int:=sel (ieq a 0) b a
noncomputable def kOrS:aG:=fun a=>match a with|[.sl e [.int .i64] o [.int .i64 a,.int .i64 b]]=>some (true,.int .i64 (U1 a b))|_=>none
noncomputable def kS0:List (Nat×aG):=(74,kOrS)::(16,kNaS)::[]
noncomputable def TB (F:Nat) (ns:List Nat) (n:Nat) (x0:List V) (x2:Int) (x6:List V) (x7 x8:Int) (K:V→Option V):Option V:=
 iG oE oS F 2 74 [1,1,0,1,0] ns K n (mY 18 [(0,V.sl 35 [Kd.int .i64] none x0),(2,V.int .i64 x2),(3,V.int .i64 0),(6,V.sl 35 [Kd.int .i64] none x6),(7,V.int .i64 x7),(8,V.int .i64 x8)] [])
theorem kOr_top (F:Nat) (a b:Int) (K:V→Option V):
 bW oE (bT oE oS F 2) F 74 [V.sl 35 [Kd.int .i64] none [V.int .i64 a,V.int .i64 b]] K=
 let A:=[V.int .i64 a,V.int .i64 b];TB F [] F A 0 A (av A) 0 K:=by kernel_rfl
theorem vX (F n:Nat) (x0:List V) (x2:Int) (x6:List V) (x7 x8:Int) (K:V→Option V):
 TB F [] (n+1) x0 x2 x6 x7 x8 K=
 let A:=asInt (ah (aX x6 x8) 0);sel (aU x8 x7) (sel (ai (ak 0 x8) (aU x8 (av x6))) (sel (aK (ieq A 0)) (K (V.int .i64 A)) (TB F [] n x0 x2 x6 x7 (eu .i64 x8 1) K)) none) (K (V.int .i64 0)):=by kernel_rfl
theorem ZB (F:Nat) (xs:List V) (K:V→Option V):
 bW oE (bT oE kS0 F 3) F 42 [V.sl 9 [Kd.str] none xs] K=
 let A:=V.agg [V.str [],V.str []];let B:=aH (ah (aX xs 0) 0);let C:=aH (ah (aX xs 1) 0);let D:=U1 (dZ B) (dZ C);sel (aU (av xs) 2) (K (V.tup [A,V.int .i64 5])) (sel (aU 2 (av xs)) (K (V.tup [A,V.int .i64 6])) (sel (ai (ak 0 0) (aU 0 (av xs))) (sel (ai (ak 0 1) (aU 1 (av xs))) (sel (aK (ieq D 0)) (K (V.tup [A,V.int .i64 D])) (sel (seq B C) (K (V.tup [A,V.int .i64 13])) (K (V.tup [V.agg [V.str B,V.str C],V.int .i64 0])))) none) none)):=by kernel_rfl
theorem Rz (F:Nat) (t n:List UInt8) (K:V→Option V):
 bW oE (bT oE kS0 F 5) F 27 [V.agg [V.str t,V.str n]] K=
 let A:=K (V.tup [V.sl 9 [Kd.str] (some 0) [],V.int .i64 4]);let B:=[V.str t,V.str n];let D:=aK (ieq (U1 (dZ t) (dZ n)) 0);let C:=K (V.tup [V.sl 9 [Kd.str] (some 0) B,V.int .i64 0]);sel (aU (av B) 2) A (sel (aU 2 (av B)) A (sel (ai (ak 0 0) (aU 0 (av B))) (sel (ai (ak 0 1) (aU 1 (av B))) (sel D (sel D A C) (sel (seq t n) A C)) none) none)):=by kernel_rfl
end Nt.Ev.YtplklcejbmfgdaaGreatDoor.Lk
namespace Nt.Maps
open Go Go.Maps Go.RowKit Go.WideMaps
abbrev DU:=DataW Unit
def RelTo (D:DU) (f:List UInt8→Option (List UInt8)):Prop:=∀(l:List UInt8) (z:DU),D.atKey (.string l) z=match f l with|none=>z|some t=> .lit (.string t)
def RelIn (D:DU) (f:List UInt8→Bool):Prop:=∀(l:List UInt8) (z:DU),D.atKey (.string l) z=if f l=true then .lit (.bool true) else z
def uM (w:World) (P:Program) (k e:TypeId) (b n:Nat) (f:List UInt8→Option (List UInt8)):Prop:=∃D:DU,w.ownsMap P k (plainElem P e) b n D∧RelTo D f
def uN (w:World) (P:Program) (k e:TypeId) (b n:Nat) (f:List UInt8→Bool):Prop:=∃D:DU,w.ownsMap P k (plainElem P e) b n D∧RelIn D f∧Maps.size D=n
variable {P:Program} {k e t:TypeId} {w:World} {b n:Nat} {f:List UInt8→Option (List UInt8)} {g:List UInt8→Bool}
theorem uM.lt (h:uM w P k e b n f):b<w.heap.size:=h.elim fun _ h=>h.1.lt
theorem uN.lt (h:uN w P k e b n g):b<w.heap.size:=h.elim fun _ h=>h.1.lt
theorem uM.kept {w':World} {row:Option Nat} (h:uM w P k e b n f) (hg:w.grownBy w' row) (hne:some b≠row):uM w' P k e b n f:=h.elim fun D h=>⟨D,h.1.kept hg hne,h.2⟩
theorem uN.kept {w':World} {row:Option Nat} (h:uN w P k e b n g) (hg:w.grownBy w' row) (hne:some b≠row):uN w' P k e b n g:=h.elim fun D h=>⟨D,h.1.kept hg hne,h.2⟩
theorem uM.alloc (h:uM w P k e b n f) (o:Obj):uM (w.alloc o) P k e b n f:=h.elim fun D h=>⟨D,h.1.alloc o,h.2⟩
theorem uN.alloc (h:uN w P k e b n g) (o:Obj):uN (w.alloc o) P k e b n g:=h.elim fun D h=>⟨D,h.1.alloc o,h.2⟩
theorem uM.setCell (h:uM w P k e b n f) {a:Addr} (ha:b≠a.block) (u:Value):uM (w.setCell a u) P k e b n f:=h.elim fun D h=>⟨D,h.1.setCell ha u,h.2⟩
theorem uN.setCell (h:uN w P k e b n g) {a:Addr} (ha:b≠a.block) (u:Value):uN (w.setCell a u) P k e b n g:=h.elim fun D h=>⟨D,h.1.setCell ha u,h.2⟩
section
variable {ops:Array Oper} {rest:List Oper} {o:Oper} {a:Act} {Q:Exit→Act→World→Prop}
end
end Nt.Maps
namespace Go.Proofs.YtplklcejbmfgdaaGreatDoor
open Go Go.RowKit Go.Shelf Nt Nt.Maps Nt.Ev.YtplklcejbmfgdaaGreatDoor.Lk
end Go.Proofs.YtplklcejbmfgdaaGreatDoor
namespace Nt.Ev.YtplklcejbmfgdaaGreatDoor.Lk
open Go Go.RowKit Nt Nt.Num Nt.Ev.YtplklcejbmfgdaaGreatDoor.Nm Go.Proofs.YtplklcejbmfgdaaGreatDoor
theorem WJ (s:List UInt8) (hc:true=true):af oE 16 [.str s] (.int .i64 (dZ s)):=nName_ev s
theorem kOr_ev (a b:Int):af oE 74 [.sl 35 [.int .i64] none [.int .i64 a,.int .i64 b]] (.int .i64 (U1 a b)):=by
 refine aj F5 oS_ok 5 2 ?_
 (rw[kOr_top];(conv=>zeta);rw[vX];(conv=>zeta);rw[vX];(conv=>zeta);rw[vX];(conv=>zeta))
 have e:sel (aK (ieq a 0)) (some (V.int .i64 a)) (sel (aK (ieq b 0)) (some (V.int .i64 b)) (some (V.int .i64 0)))=some (.int .i64 (U1 a b)):=by
  unfold U1;simp only[bV,bZ,aL];repeat' split
  all_goals first|rfl|(exfalso;omega)|(congr 2;omega)
 exact e
theorem kOrS_ok (e:Nat) (o:Option Nat) (a b:Int) (hc:true=true):af oE 74 [.sl e [.int .i64] o [.int .i64 a,.int .i64 b]] (.int .i64 (U1 a b)):=by
 intro G w vs hG hg hp;refine kOr_ev a b G w vs hG hg ?_;obtain⟨x,rfl,hx⟩:=Gs hp;refine .cons ?_ .nil;unfold aO at hx⊢;exact hx
theorem kS0_ok:bn oE kS0:=by
 unfold kS0;refine bn.cons (fun args r h=>?_) (bn.cons (fun args r h=>?_) bn.nil);all_goals (revert h;intro h;first|unfold kOrS at h|unfold kNaS at h)
 all_goals (split at h;rotate_left; · cases h)
 all_goals (simp only[Option.some.injEq,Prod.mk.injEq] at h;obtain⟨hc,rfl⟩:=h)
 ·exact kOrS_ok _ _ _ _ rfl
 ·exact WJ _ rfl
noncomputable def RP (xs:List V):Int:=if av xs<2 then 5 else if 2<av xs then 6 else
 let t:=aH (ah (aX xs 0) 0);let n:=aH (ah (aX xs 1) 0)
 if U1 (dZ t) (dZ n)≠0 then U1 (dZ t) (dZ n) else if t=n then 13 else 0
noncomputable def lrT (xs:List V):List UInt8:=if RP xs=0 then aH (ah (aX xs 0) 0) else[]
noncomputable def lrN (xs:List V):List UInt8:=if RP xs=0 then aH (ah (aX xs 1) 0) else[]
theorem Hw (a b:Int):U1 a b=0↔a=0∧b=0:=by unfold U1;simp only[bV,aL];split<;>omega
theorem kRead_ev (xs:List V):af oE 42 [.sl 9 [.str] none xs] (.tup [.agg [.str (lrT xs),.str (lrN xs)],.int .i64 (RP xs)]):=by
 refine aj F5 kS0_ok 5 3 ?_
 (rw[ZB];(conv=>zeta))
 unfold lrT lrN;have h0:ai (ak 0 0) (aU 0 (av xs))=decide (0<av xs):=by rw[Bool.eq_iff_iff,aJ,ay,bf,decide_eq_true_eq];omega
 have h1:ai (ak 0 1) (aU 1 (av xs))=decide (1<av xs):=by rw[Bool.eq_iff_iff,aJ,ay,bf,decide_eq_true_eq];omega
 rw[h0,h1];unfold RP;simp only[bV,bf,bZ,aL,dh,decide_eq_true_eq];repeat' split
 all_goals first|rfl|omega|(exfalso;omega)|skip
 all_goals simp_all
noncomputable def rgB (t n:List UInt8):Bool:=decide (dZ t=0∧dZ n=0∧t≠n)
theorem llen2 (t n:List UInt8):av [V.str t,V.str n]=2:=rfl
noncomputable def fdL (t n:List UInt8):List V:=if rgB t n=true then[.str t,.str n] else[]
noncomputable def fdE (t n:List UInt8):Int:=if rgB t n=true then 0 else 4
theorem UK (t n:List UInt8):af oE 27 [.agg [.str t,.str n]] (.tup [.sl 9 [.str] (some 0) (fdL t n),.int .i64 (fdE t n)]):=by
 refine aj F5 kS0_ok 5 5 ?_
 (rw[Rz];(conv=>zeta);rw[llen2])
 unfold fdL fdE rgB;simp only[bV,bf,ay,aJ,bZ,aL,dh,Hw,decide_eq_true_eq];repeat' split
 all_goals first|rfl|omega|skip
 all_goals simp_all
end Nt.Ev.YtplklcejbmfgdaaGreatDoor.Lk
