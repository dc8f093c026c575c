/-
  Name: equations of functions, as the evaluator prints them. Names: both sides. Links: where one comes out, plain. Link: equations of functions, as the evaluator prints them. A map that a call makes, with strings as keys: string elements read as a function to Option, bool elements as a set. link.Follow, walked: a map of names, and the names that one has met. Links: both sides as contracts.
-/
import Derived.Test.YtplklcejbmfgdaaGreatDoorMC
import Derived.Test.YtplklcejbmfgdaaGreatDoorMS
import Derived.Maps.OwnSet
import Derived.Maps.OwnOps
import Derived.Maps.StringElems
import Derived.StringKeys
import Derived.WalkKit
import Derived.Maps.Own
import Derived.Test.YtplklcejbmfgdaaGreatDoorMZ
set_option linter.unusedVariables false
set_option linter.unusedSimpArgs false
set_option linter.unusedSectionVars false
namespace Nt.Ev.YtplklcejbmfgdaaGreatDoor.Nm
set_option maxRecDepth 100000
open Go Nt.Num Go.Proofs.YtplklcejbmfgdaaGreatDoor
def WG (s:List UInt8) (c:Int):Int:=Go.Lib.indexByte s c.toNat.toUInt8
def Wy (c:UInt8):Bool:=(decide (65≤c.toNat)&&decide (c.toNat≤90))||(decide (97≤c.toNat)&&decide (c.toNat≤122))||c==95
def Wz (c:UInt8):Bool:=(decide (48≤c.toNat)&&decide (c.toNat≤57))||c==45||c==43||c==47||c==46
def Tg (k:Nat) (c:UInt8):Bool:=Wy c||(decide (0<k)&&Wz c)
def F7:Nat→List UInt8→Bool|_,[]=>true|k,c::t=>Tg k c&&F7 (k+1) t
def fF (s:List UInt8):Int:=if 64<s.length then 9 else if F7 0 s=true∧s≠[] then 0 else 10
noncomputable def nByS:aF:=fun a=>match a with|[.str s,.int .u8 c]=>some (true,.int .i64 (WG s c))|_=>none
noncomputable def nS0:List (Nat×aF):=(43,nByS)::[]
noncomputable def oP (F:Nat) (ns:List Nat) (n:Nat) (x0:List UInt8) (x2:Int) (x9:List V) (x10 De:Int) (K:V→Option V):Option V:=
 iA oE nS0 F 2 16 [1,1,0,1,0] ns K n (mH 48 [(0,V.str x0),(2,V.int .i64 x2),(9,V.sl 5 [Kd.int .u8] none x9),(10,V.int .i64 x10),(11,V.int .i64 De)] [])
theorem VH (F:Nat) (s:List UInt8) (K:V→Option V):
 cr oE (bV oE nS0 F 2) F 16 [V.str s] K=
 sel (aT 64 (aj s)) (K (V.int .i64 9)) (sel (GN s) (oP F [] F s 0 (aJ s) (av (aJ s)) 0 K) none):=by kernel_rfl
theorem wK (F n:Nat) (x0:List UInt8) (x2:Int) (x9:List V) (x10 De:Int) (K:V→Option V):
 oP F [] (n+1) x0 x2 x9 x10 De K=
 let B:=oP F [] n x0 x2 x9 x10 (fB .i64 De 1) K;let C:=asInt (ax (aP x9 De) 0);let E:=K (V.int .i64 10);let D:=sel (ai 0 (WG [45,43,47,46] C)) B E;let G:=jT .or .u8 C 32;let A:=sel (ieq C 95) B (sel (aT 0 De) (sel (ai 48 C) (sel (ai C 57) B D) D) E);sel (aT De x10) (sel (ak (ai 0 De) (aT De (av x9))) (sel (ai 97 G) (sel (ai G 122) B A) A) none) (sel (seq x0 []) E (K (V.int .i64 0))):=by kernel_rfl
open Go.RowKit Nt
theorem nByS_ok (s:List UInt8) (c:Int) (hc:true=true):af oE 43 [.str s,.int .u8 c] (.int .i64 (WG s c)):=by
 refine bU fun G w vs hG hg hp=>?_
 obtain⟨x,y,rfl,hx,hy⟩:=kJ hp;unfold aN at hx hy;subst hx;subst hy;refine(Go.Proofs.Tryz.strings_IndexByte ⟨s.toArray⟩ c w).mono ?_;rintro e w' ⟨rfl,rfl⟩;exact⟨_,rfl,.refl _ _,uY _ _⟩
theorem nS0_ok:bq oE nS0:=by
 unfold nS0;refine bq.cons (fun args r h=>?_) bq.nil;all_goals (revert h;intro h;first|unfold nByS at h)
 all_goals (split at h;rotate_left; · cases h)
 all_goals (simp only[Option.some.injEq,Prod.mk.injEq] at h;obtain⟨hc,rfl⟩:=h)
 ·exact nByS_ok _ _ rfl
theorem rM (c:UInt8):(ai 97 (jT .or .u8 ((c.toNat:Nat):Int) 32)&&ai (jT .or .u8 ((c.toNat:Nat):Int) 32) 122)=((decide (65≤c.toNat)&&decide (c.toNat≤90))||(decide (97≤c.toNat)&&decide (c.toNat≤122))):=by
 have h: ∀n:Fin 256,(ai 97 (jT .or .u8 ((n.val:Nat):Int) 32)&&ai (jT .or .u8 ((n.val:Nat):Int) 32) 122)=((decide (65≤n.val)&&decide (n.val≤90))||(decide (97≤n.val)&&decide (n.val≤122))):=by decide+kernel
 exact h ⟨c.toNat,c.toNat_lt⟩
theorem Kb (c:UInt8):ai 0 (WG [45,43,47,46] ((c.toNat:Nat):Int))=(c==45||c==43||c==47||c==46):=by
 have h: ∀n:Fin 256,ai 0 (WG [45,43,47,46] ((n.val:Nat):Int))=(UInt8.ofNat n==45||UInt8.ofNat n==43||UInt8.ofNat n==47||UInt8.ofNat n==46):=by decide+kernel
 have:=h ⟨c.toNat,c.toNat_lt⟩;simpa using this
theorem Py (c d:UInt8):ieq ((c.toNat:Nat):Int) ((d.toNat:Nat):Int)=(c==d):=by
 rw[Bool.eq_iff_iff,aK,beq_iff_eq,←UInt8.toNat_inj];omega
theorem En (c:UInt8) (a:Nat):ai (a:Int) ((c.toNat:Nat):Int)=decide (a≤c.toNat):=by
 rw[Bool.eq_iff_iff,aA,decide_eq_true_eq];omega
theorem yO (c:UInt8) (a:Nat):ai ((c.toNat:Nat):Int) (a:Int)=decide (c.toNat≤a):=by
 rw[Bool.eq_iff_iff,aA,decide_eq_true_eq];omega
theorem QO (s:List UInt8) (x2:Int) (F n k:Nat) (hk:k<s.length) (hs:s.length≤64):oP F [] (n+1) s x2 (aJ s) (av (aJ s)) (k:Int) some=
  if Tg k (s[k])=true then oP F [] n s x2 (aJ s) (av (aJ s)) ((k+1:Nat):Int) some else some (.int .i64 10):=by
 have hl:(aJ s).length=s.length:=by unfold aJ;rw[List.length_map]
 have e:asInt (ax (aP (aJ s) (k:Int)) 0)=((s[k].toNat:Nat):Int):=by
  rw[ku];unfold aJ;rw[List.getD_eq_getElem?_getD,List.getElem?_map,List.getElem?_eq_getElem hk];rfl
 have e95:ieq ((s[k].toNat:Nat):Int) 95=(s[k]==95):=Py s[k] 95;have e48:ai 48 ((s[k].toNat:Nat):Int)=decide (48≤s[k].toNat):=En s[k] 48;have e57:ai ((s[k].toNat:Nat):Int) 57=decide (s[k].toNat≤57):=yO s[k] 57;have e0:aT 0 (k:Int)=decide (0<k):=by rw[Bool.eq_iff_iff,bf,decide_eq_true_eq];omega
 have hL:=rM s[k]
 (rw[wK];(conv=>zeta);rw[ay (bD (by rw[aD,hl];omega)),ay (by rw[aH,aA,bf,aD,hl];omega),e,e95,e48,e57,e0,Kb,iO (by omega),show(k:Int)+1=((k+1:Nat):Int) by omega])
 unfold Tg Wy Wz;rw[←hL];generalize oP F [] n s x2 (aJ s) (av (aJ s)) ((k+1:Nat):Int) some=N;generalize ai 97 (jT .or .u8 ((s[k].toNat:Nat):Int) 32)=b1;generalize ai (jT .or .u8 ((s[k].toNat:Nat):Int) 32) 122=b2;generalize (s[k]==95)=b3;generalize decide (0<k)=b4;generalize decide (48≤s[k].toNat)=b5;generalize decide (s[k].toNat≤57)=b6;generalize (s[k]==45)=b7;generalize (s[k]==43)=b8;generalize (s[k]==47)=b9;generalize (s[k]==46)=b10
 cases b1<;>cases b2<;>cases b3<;>cases b4<;>cases b5<;>cases b6<;>cases b7<;>cases b8<;>cases b9<;>cases b10<;>rfl
theorem QR (s:List UInt8) (x2:Int) (F:Nat) (hs:s.length≤64): ∀(n k:Nat),k≤s.length→s.length-k<n→
  oP F [] n s x2 (aJ s) (av (aJ s)) (k:Int) some=some (.int .i64 (if F7 k (s.drop k)=true then(if s=[] then 10 else 0) else 10)):=by
 intro n;induction n with
 |zero=>intro k _ h;omega
 |succ n ih=>
  intro k hk hn;by_cases h:k<s.length
  ·rw[QO s x2 F n k h hs,List.drop_eq_getElem_cons h]
   show _=some (V.int .i64 (if(Tg k s[k]&&F7 (k+1) (s.drop (k+1)))=true then _ else _))
   cases hc:Tg k s[k] with
   |true=>rw[if_pos rfl,ih (k+1) (by omega) (by omega),Bool.true_and]
   |false=>rw[if_neg (by decide),Bool.false_and,if_neg (by decide)]
  ·have hl:(aJ s).length=s.length:=by unfold aJ;rw[List.length_map]
   (rw[wK];(conv=>zeta);rw[aU (bB (by rw[aD,hl];omega)),List.drop_of_length_le (by omega),if_pos (show F7 k []=true from rfl),bJ])
   by_cases h0:s=[]
   ·rw[if_pos (by rw[dI];exact h0),if_pos h0]
   ·rw[if_neg (by rw[dI];exact h0),if_neg h0]
theorem Pz (s:List UInt8):(if F7 0 s=true then(if s=[] then(10:Int) else 0) else 10)=if F7 0 s=true∧s≠[] then 0 else 10:=by
 by_cases h:F7 0 s=true
 ·rw[if_pos h]
  by_cases h0:s=[]
  ·rw[if_pos h0,if_neg (fun e=>e.2 h0)]
  ·rw[if_neg h0,if_pos ⟨h,h0⟩]
 ·rw[if_neg h,if_neg (fun e=>h e.1)]
theorem Z4 (s:List UInt8):af oE 16 [.str s] (.int .i64 (fF s)):=by
 refine ah D3 nS0_ok 100 2 ?_;rw[VH];unfold fF;by_cases h:64<s.length
 ·rw[ay (bD (by rw[aB];omega)),if_pos h]
 ·rw[aU (bB (by rw[aB];omega)),if_neg h,ay (by rw[Ba];omega)]
  have:=QR s 0 100 (by omega) 100 0 (by omega) (by omega);rw[List.drop_zero,Pz] at this;exact this
end Nt.Ev.YtplklcejbmfgdaaGreatDoor.Nm
namespace Nt.Ev.YtplklcejbmfgdaaGreatDoor.Lk
open Go Nt Nt.Num
abbrev Bs:=List UInt8
def Xm:List (Bs×Bs)→Bs→Option Bs
 |[],_=>none
 |(t,m)::r,n=>if m=n then some t else Xm r n
def Xn (l:List (Bs×Bs)) (met:List Bs) (n:Bs):Prop:=met.Nodup∧ ∀m∈met,∃t,Xm l m=some t∧(t∈met∨t=n)
theorem Xn.step {l:List (Bs×Bs)} {met:List Bs} {n t:Bs} (h:Xn l met n) (hn:n∉met) (ht:Xm l n=some t):Xn l (n::met) t:=by
 refine⟨List.nodup_cons.2 ⟨hn,h.1⟩,fun m hm=>?_⟩;rcases List.mem_cons.1 hm with rfl|hm
 ·exact⟨t,ht,.inr rfl⟩
 ·obtain⟨u,hu,h1|h1⟩:=h.2 m hm
  ·exact⟨u,hu,.inl (List.mem_cons_of_mem _ h1)⟩
  ·exact⟨u,hu,.inl (h1▸by simp)⟩
set_option maxRecDepth 100000
open Go.Proofs.YtplklcejbmfgdaaGreatDoor
open Nt.Ev.YtplklcejbmfgdaaGreatDoor.Nm
noncomputable def kNaS:aF:=fun a=>match a with|[.str s]=>some (true,.int .i64 (fF s))|_=>none
def Wi (a b:Int):Int:=sel (ieq a 0) b a
noncomputable def kOrS:aF:=fun a=>match a with|[.sl e [.int .i64] o [.int .i64 a,.int .i64 b]]=>some (true,.int .i64 (Wi a b))|_=>none
noncomputable def kS0:List (Nat×aF):=(74,kOrS)::(16,kNaS)::[]
noncomputable def PS (F:Nat) (ns:List Nat) (n:Nat) (x0:List V) (x2:Int) (x6:List V) (x7 x8:Int) (K:V→Option V):Option V:=
 iA oE oS F 2 74 [1,1,0,1,0] ns K n (mH 18 [(0,V.sl 35 [Kd.int .i64] none x0),(2,V.int .i64 x2),(3,V.int .i64 0),(6,V.sl 35 [Kd.int .i64] none x6),(7,V.int .i64 x7),(8,V.int .i64 x8)] [])
theorem kOr_top (F:Nat) (a b:Int) (K:V→Option V):
 cr oE (bV oE oS F 2) F 74 [V.sl 35 [Kd.int .i64] none [V.int .i64 a,V.int .i64 b]] K=
 let A:=[V.int .i64 a,V.int .i64 b];PS F [] F A 0 A (av A) 0 K:=by kernel_rfl
theorem uO (F n:Nat) (x0:List V) (x2:Int) (x6:List V) (x7 x8:Int) (K:V→Option V):
 PS F [] (n+1) x0 x2 x6 x7 x8 K=
 let A:=asInt (ax (aP x6 x8) 0);sel (aT x8 x7) (sel (ak (ai 0 x8) (aT x8 (av x6))) (sel (aG (ieq A 0)) (K (V.int .i64 A)) (PS F [] n x0 x2 x6 x7 (fB .i64 x8 1) K)) none) (K (V.int .i64 0)):=by kernel_rfl
theorem VI (F:Nat) (xs:List V) (K:V→Option V):
 cr oE (bV oE kS0 F 3) F 42 [V.sl 9 [Kd.str] none xs] K=
 let A:=V.agg [V.str [],V.str []];let B:=aR (ax (aP xs 0) 0);let C:=aR (ax (aP xs 1) 0);let D:=Wi (fF B) (fF C);sel (aT (av xs) 2) (K (V.tup [A,V.int .i64 5])) (sel (aT 2 (av xs)) (K (V.tup [A,V.int .i64 6])) (sel (ak (ai 0 0) (aT 0 (av xs))) (sel (ak (ai 0 1) (aT 1 (av xs))) (sel (aG (ieq D 0)) (K (V.tup [A,V.int .i64 D])) (sel (seq B C) (K (V.tup [A,V.int .i64 13])) (K (V.tup [V.agg [V.str B,V.str C],V.int .i64 0])))) none) none)):=by kernel_rfl
theorem QS (F:Nat) (t n:List UInt8) (K:V→Option V):
 cr oE (bV oE kS0 F 4) F 15 [V.agg [V.str t,V.str n]] K=
 let A:=av [V.str t,V.str n];let B:=ieq (Wi (fF t) (fF n)) 0;sel (aT A 2) (K (V.bool (ieq 5 0))) (sel (aT 2 A) (K (V.bool (ieq 6 0))) (sel (ak (ai 0 0) (aT 0 A)) (sel (ak (ai 0 1) (aT 1 A)) (sel (aG B) (K (V.bool B)) (sel (seq t n) (K (V.bool (ieq 13 0))) (K (V.bool (ieq 0 0))))) none) none)):=by kernel_rfl
end Nt.Ev.YtplklcejbmfgdaaGreatDoor.Lk
namespace Nt.Maps
open Go Go.Maps Go.RowKit Go.WideMaps
abbrev DU:=DataW Unit
def RelTo (D:DU) (f:List UInt8→Option (List UInt8)):Prop:=∀(l:List UInt8) (z:DU),D.atKey (.string l) z=match f l with|none=>z|some t=> .lit (.string t)
def RelIn (D:DU) (f:List UInt8→Bool):Prop:=∀(l:List UInt8) (z:DU),D.atKey (.string l) z=if f l=true then .lit (.bool true) else z
def tK (w:World) (P:Program) (k e:TypeId) (b n:Nat) (f:List UInt8→Option (List UInt8)):Prop:=∃D:DU,w.ownsMap P k (plainElem P e) b n D∧RelTo D f
def tL (w:World) (P:Program) (k e:TypeId) (b n:Nat) (f:List UInt8→Bool):Prop:=∃D:DU,w.ownsMap P k (plainElem P e) b n D∧RelIn D f∧Maps.size D=n
variable {P:Program} {k e t:TypeId} {w:World} {b n:Nat} {f:List UInt8→Option (List UInt8)} {g:List UInt8→Bool}
theorem tK.lt (h:tK w P k e b n f):b<w.heap.size:=h.elim fun _ h=>h.1.lt
theorem tL.lt (h:tL w P k e b n g):b<w.heap.size:=h.elim fun _ h=>h.1.lt
theorem tK.kept {w':World} {row:Option Nat} (h:tK w P k e b n f) (hg:w.grownBy w' row) (hne:some b≠row):tK w' P k e b n f:=h.elim fun D h=>⟨D,h.1.kept hg hne,h.2⟩
theorem tL.kept {w':World} {row:Option Nat} (h:tL w P k e b n g) (hg:w.grownBy w' row) (hne:some b≠row):tL w' P k e b n g:=h.elim fun D h=>⟨D,h.1.kept hg hne,h.2⟩
theorem tK.alloc (h:tK w P k e b n f) (o:Obj):tK (w.alloc o) P k e b n f:=h.elim fun D h=>⟨D,h.1.alloc o,h.2⟩
theorem tL.alloc (h:tL w P k e b n g) (o:Obj):tL (w.alloc o) P k e b n g:=h.elim fun D h=>⟨D,h.1.alloc o,h.2⟩
theorem tK.setCell (h:tK w P k e b n f) {a:Addr} (ha:b≠a.block) (u:Value):tK (w.setCell a u) P k e b n f:=h.elim fun D h=>⟨D,h.1.setCell ha u,h.2⟩
theorem tL.setCell (h:tL w P k e b n g) {a:Addr} (ha:b≠a.block) (u:Value):tL (w.setCell a u) P k e b n g:=h.elim fun D h=>⟨D,h.1.setCell ha u,h.2⟩
section
variable {ops:Array Oper} {rest:List Oper} {o:Oper} {a:Act} {Q:Exit→Act→World→Prop}
end
end Nt.Maps
namespace Go.Proofs.YtplklcejbmfgdaaGreatDoor
open Go Go.RowKit Go.Shelf Nt Nt.Maps Nt.Ev.YtplklcejbmfgdaaGreatDoor.Lk
end Go.Proofs.YtplklcejbmfgdaaGreatDoor
namespace Nt.Ev.YtplklcejbmfgdaaGreatDoor.Lk
open Go Go.RowKit Nt Nt.Num Nt.Ev.YtplklcejbmfgdaaGreatDoor.Nm Go.Proofs.YtplklcejbmfgdaaGreatDoor
theorem SS (s:List UInt8) (hc:true=true):af oE 16 [.str s] (.int .i64 (fF s)):=Z4 s
theorem kOr_ev (a b:Int):af oE 74 [.sl 35 [.int .i64] none [.int .i64 a,.int .i64 b]] (.int .i64 (Wi a b)):=by
 refine ah D3 oS_ok 5 2 ?_
 (rw[kOr_top];(conv=>zeta);rw[uO];(conv=>zeta);rw[uO];(conv=>zeta);rw[uO];(conv=>zeta))
 have e:sel (aG (ieq a 0)) (some (V.int .i64 a)) (sel (aG (ieq b 0)) (some (V.int .i64 b)) (some (V.int .i64 0)))=some (.int .i64 (Wi a b)):=by
  unfold Wi;simp only[bJ,bP,aK];repeat' split
  all_goals first|rfl|(exfalso;omega)|(congr 2;omega)
 exact e
theorem kOrS_ok (e:Nat) (o:Option Nat) (a b:Int) (hc:true=true):af oE 74 [.sl e [.int .i64] o [.int .i64 a,.int .i64 b]] (.int .i64 (Wi a b)):=by
 intro G w vs hG hg hp;refine kOr_ev a b G w vs hG hg ?_;obtain⟨x,rfl,hx⟩:=El hp;refine .cons ?_ .nil;unfold aN at hx⊢;exact hx
theorem Yl:bq oE kS0:=by
 unfold kS0;refine bq.cons (fun args r h=>?_) (bq.cons (fun args r h=>?_) bq.nil);all_goals (revert h;intro h;first|unfold kOrS at h|unfold kNaS at h)
 all_goals (split at h;rotate_left; · cases h)
 all_goals (simp only[Option.some.injEq,Prod.mk.injEq] at h;obtain⟨hc,rfl⟩:=h)
 ·exact kOrS_ok _ _ _ _ rfl
 ·exact SS _ rfl
noncomputable def Wj (xs:List V):Int:=if av xs<2 then 5 else if 2<av xs then 6 else
 let t:=aR (ax (aP xs 0) 0);let n:=aR (ax (aP xs 1) 0)
 if Wi (fF t) (fF n)≠0 then Wi (fF t) (fF n) else if t=n then 13 else 0
noncomputable def lrT (xs:List V):List UInt8:=if Wj xs=0 then aR (ax (aP xs 0) 0) else[]
noncomputable def lrN (xs:List V):List UInt8:=if Wj xs=0 then aR (ax (aP xs 1) 0) else[]
theorem EW (a b:Int):Wi a b=0↔a=0∧b=0:=by unfold Wi;simp only[bJ,aK];split<;>omega
theorem Z5 (xs:List V):af oE 42 [.sl 9 [.str] none xs] (.tup [.agg [.str (lrT xs),.str (lrN xs)],.int .i64 (Wj xs)]):=by
 refine ah D3 Yl 5 3 ?_
 (rw[VI];(conv=>zeta))
 unfold lrT lrN;have h0:ak (ai 0 0) (aT 0 (av xs))=decide (0<av xs):=by rw[Bool.eq_iff_iff,aH,aA,bf,decide_eq_true_eq];omega
 have h1:ak (ai 0 1) (aT 1 (av xs))=decide (1<av xs):=by rw[Bool.eq_iff_iff,aH,aA,bf,decide_eq_true_eq];omega
 rw[h0,h1];unfold Wj;simp only[bJ,bf,bP,aK,dI,decide_eq_true_eq];repeat' split
 all_goals first|rfl|omega|(exfalso;omega)|skip
 all_goals simp_all
noncomputable def rgB (t n:List UInt8):Bool:=decide (fF t=0∧fF n=0∧t≠n)
theorem llen2 (t n:List UInt8):av [V.str t,V.str n]=2:=rfl
theorem VJ (t n:List UInt8):af oE 15 [.agg [.str t,.str n]] (.bool (rgB t n)):=by
 refine ah D3 Yl 5 4 ?_
 (rw[QS];(conv=>zeta);rw[llen2])
 unfold rgB;have hb: ∀b c:Bool,(b=true↔c=true)→some (V.bool b)=some (V.bool c):=fun b c h=>by rw[Bool.eq_iff_iff.2 h]
 simp only[bJ,bf,aA,aH,bP,aK,dI,EW];repeat' split
 all_goals first|omega|skip
 all_goals (apply hb;rw[decide_eq_true_eq,aK];simp_all[EW])
end Nt.Ev.YtplklcejbmfgdaaGreatDoor.Lk
