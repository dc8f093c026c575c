/-
  Name: equations of functions, as the evaluator prints them. Names: both sides. Links: where one comes out, plain. Link: equations of functions, as the evaluator prints them. A map that a call makes, with strings as keys: string elements read as a function to Option, bool elements as a set. link.Follow, walked: a map of names, and the names that one has met. Links: both sides as contracts.
-/
import Derived.Test.YtpbgegnlkdfjgaaGreatDoorMC
import Derived.Test.YtpbgegnlkdfjgaaGreatDoorMS
import Derived.Maps.OwnSet
import Derived.Maps.OwnOps
import Derived.Maps.StringElems
import Derived.StringKeys
import Derived.WalkKit
import Derived.Maps.Own
import Derived.Test.YtpbgegnlkdfjgaaGreatDoorMZ
set_option linter.unusedVariables false
set_option linter.unusedSimpArgs false
set_option linter.unusedSectionVars false
namespace Nt.Ev.YtpbgegnlkdfjgaaGreatDoor.Nm
set_option maxRecDepth 100000
open Go Nt.Num Go.Proofs.YtpbgegnlkdfjgaaGreatDoor
def YU (s:List UInt8) (c:Int):Int:=Go.Lib.indexByte s c.toNat.toUInt8
def YP (c:UInt8):Bool:=(decide (65≤c.toNat)&&decide (c.toNat≤90))||(decide (97≤c.toNat)&&decide (c.toNat≤122))||c==95
def YQ (c:UInt8):Bool:=(decide (48≤c.toNat)&&decide (c.toNat≤57))||c==45||c==43||c==47||c==46
def I7 (k:Nat) (c:UInt8):Bool:=YP c||(decide (0<k)&&YQ c)
def Cz:Nat→List UInt8→Bool|_,[]=>true|k,c::t=>I7 k c&&Cz (k+1) t
def gW (s:List UInt8):Int:=if 64<s.length then 9 else if Cz 0 s=true∧s≠[] then 0 else 10
noncomputable def nByS:aL:=fun a=>match a with|[.str s,.int .u8 c]=>some (true,.int .i64 (YU s c))|_=>none
noncomputable def nS0:List (Nat×aL):=(43,nByS)::[]
noncomputable def qQ (F:Nat) (ns:List Nat) (n:Nat) (x0:List UInt8) (x2:Int) (x9:List V) (x10 Fw:Int) (K:V→Option V):Option V:=
 dN oE nS0 F 2 54 [1,1,0,1,0] ns K n (iY 48 [(0,V.str x0),(2,V.int .i64 x2),(9,V.sl 5 [Kd.int .u8] none x9),(10,V.int .i64 x10),(11,V.int .i64 Fw)] [])
theorem XY (F:Nat) (s:List UInt8) (K:V→Option V):
 bD oE (bB oE nS0 F 2) F 54 [V.str s] K=
 sel (aK 64 (ah s)) (K (V.int .i64 9)) (sel (JQ s) (qQ F [] F s 0 (aZ s) (ax (aZ s)) 0 K) none):=by kernel_rfl
theorem zL (F n:Nat) (x0:List UInt8) (x2:Int) (x9:List V) (x10 Fw:Int) (K:V→Option V):
 qQ F [] (n+1) x0 x2 x9 x10 Fw K=
 let B:=qQ F [] n x0 x2 x9 x10 (bP .i64 Fw 1) K;let C:=asInt (aD (aY x9 Fw) 0);let E:=K (V.int .i64 10);let D:=sel (ak 0 (YU [45,43,47,46] C)) B E;let G:=jW .or .u8 C 32;let A:=sel (ieq C 95) B (sel (aK 0 Fw) (sel (ak 48 C) (sel (ak C 57) B D) D) E);sel (aK Fw x10) (sel (av (ak 0 Fw) (aK Fw (ax x9))) (sel (ak 97 G) (sel (ak G 122) B A) A) none) (sel (seq x0 []) E (K (V.int .i64 0))):=by kernel_rfl
noncomputable def lN (F:Nat) (ns:List Nat) (n:Nat) (x0:List UInt8) (x2 x3:Int) (K:V→Option V):Option V:=
 dN oE nS0 F 2 40 [1,1,0,1,0] ns K n (iY 71 [(0,V.str x0),(2,V.int .i64 x2),(3,V.int .i64 x3)] [])
theorem QS (F:Nat) (s:List UInt8) (K:V→Option V):
 bD oE (bB oE nS0 F 2) F 40 [V.str s] K=
 sel (aK 64 (ah s)) (K (V.int .i64 9)) (lN F [] F s 0 0 K):=by kernel_rfl
theorem vM (F n:Nat) (x0:List UInt8) (x2 x3:Int) (K:V→Option V):
 lN F [] (n+1) x0 x2 x3 K=
 let B:=lN F [] n x0 x2 (bP .i64 x3 1) K;let D:=sat x0 x3;let H:=K (V.int .i64 10);let L:=aK x3 (ah x0);let G:=sel (ieq D 45) B (sel (ieq D 43) B (sel (ieq D 47) B B));let M:=aB (ieq D 95);let E:=sel M (sel (ieq x3 0) H B) B;let I:=sel (ak 48 D) (sel (ak D 57) B G) G;let A:=sel (ieq D 45) E (sel (ieq D 43) E (sel (ieq D 47) E (sel M (sel (ieq x3 0) H (sel (aB (ieq D 46)) H B)) B)));let J:=sel (ak 48 D) (sel (ak D 57) E A) A;let C:=sel (ak 97 D) (sel (ak D 122) I J) J;sel L (sel (av (ak 0 x3) L) (sel (ak 65 D) (sel (ak D 90) I C) C) none) (sel (seq x0 []) H (K (V.int .i64 0))):=by kernel_rfl
open Go.RowKit Nt
theorem nByS_ok (s:List UInt8) (c:Int) (hc:true=true):af oE 43 [.str s,.int .u8 c] (.int .i64 (YU s c)):=by
 refine bJ fun G w vs hG hg hp=>?_
 obtain⟨x,y,rfl,hx,hy⟩:=jo hp;unfold aP at hx hy;subst hx;subst hy;refine(Go.Proofs.Tryz.strings_IndexByte ⟨s.toArray⟩ c w).mono ?_;rintro e w' ⟨rfl,rfl⟩;exact⟨_,rfl,.refl _ _,r9 _ _⟩
theorem aai:bF oE nS0:=by
 unfold nS0;refine bF.cons (fun args r h=>?_) bF.nil;all_goals (revert h;intro h;first|unfold nByS at h)
 all_goals (split at h;rotate_left; · cases h)
 all_goals (simp only[Option.some.injEq,Prod.mk.injEq] at h;obtain⟨hc,rfl⟩:=h)
 ·exact nByS_ok _ _ rfl
theorem vD (c:UInt8):(ak 97 (jW .or .u8 ((c.toNat:Nat):Int) 32)&&ak (jW .or .u8 ((c.toNat:Nat):Int) 32) 122)=((decide (65≤c.toNat)&&decide (c.toNat≤90))||(decide (97≤c.toNat)&&decide (c.toNat≤122))):=by
 have h: ∀n:Fin 256,(ak 97 (jW .or .u8 ((n.val:Nat):Int) 32)&&ak (jW .or .u8 ((n.val:Nat):Int) 32) 122)=((decide (65≤n.val)&&decide (n.val≤90))||(decide (97≤n.val)&&decide (n.val≤122))):=by decide+kernel
 exact h ⟨c.toNat,c.toNat_lt⟩
theorem MS (c:UInt8):ak 0 (YU [45,43,47,46] ((c.toNat:Nat):Int))=(c==45||c==43||c==47||c==46):=by
 have h: ∀n:Fin 256,ak 0 (YU [45,43,47,46] ((n.val:Nat):Int))=(UInt8.ofNat n==45||UInt8.ofNat n==43||UInt8.ofNat n==47||UInt8.ofNat n==46):=by decide+kernel
 have:=h ⟨c.toNat,c.toNat_lt⟩;simpa using this
theorem GG (c d:UInt8):ieq ((c.toNat:Nat):Int) ((d.toNat:Nat):Int)=(c==d):=by
 rw[Bool.eq_iff_iff,aH,beq_iff_eq,←UInt8.toNat_inj];omega
theorem Ah (c:UInt8) (a:Nat):ak (a:Int) ((c.toNat:Nat):Int)=decide (a≤c.toNat):=by
 rw[Bool.eq_iff_iff,aA,decide_eq_true_eq];omega
theorem u6 (c:UInt8) (a:Nat):ak ((c.toNat:Nat):Int) (a:Int)=decide (c.toNat≤a):=by
 rw[Bool.eq_iff_iff,aA,decide_eq_true_eq];omega
theorem TR (s:List UInt8) (x2:Int) (F n k:Nat) (hk:k<s.length) (hs:s.length≤64):qQ F [] (n+1) s x2 (aZ s) (ax (aZ s)) (k:Int) some=
  if I7 k (s[k])=true then qQ F [] n s x2 (aZ s) (ax (aZ s)) ((k+1:Nat):Int) some else some (.int .i64 10):=by
 have hl:(aZ s).length=s.length:=by unfold aZ;rw[List.length_map]
 have e:asInt (aD (aY (aZ s) (k:Int)) 0)=((s[k].toNat:Nat):Int):=by
  rw[uz];unfold aZ;rw[List.getD_eq_getElem?_getD,List.getElem?_map,List.getElem?_eq_getElem hk];rfl
 have e95:ieq ((s[k].toNat:Nat):Int) 95=(s[k]==95):=GG s[k] 95;have e48:ak 48 ((s[k].toNat:Nat):Int)=decide (48≤s[k].toNat):=Ah s[k] 48;have e57:ak ((s[k].toNat:Nat):Int) 57=decide (s[k].toNat≤57):=u6 s[k] 57;have e0:aK 0 (k:Int)=decide (0<k):=by rw[Bool.eq_iff_iff,aU,decide_eq_true_eq];omega
 have hL:=vD s[k]
 (rw[zL];(conv=>zeta);rw[aj (bq (by rw[aI,hl];omega)),aj (by rw[aC,aA,aU,aI,hl];omega),e,e95,e48,e57,e0,MS,dh (by omega),show(k:Int)+1=((k+1:Nat):Int) by omega])
 unfold I7 YP YQ;rw[←hL];generalize qQ F [] n s x2 (aZ s) (ax (aZ s)) ((k+1:Nat):Int) some=N;generalize ak 97 (jW .or .u8 ((s[k].toNat:Nat):Int) 32)=b1;generalize ak (jW .or .u8 ((s[k].toNat:Nat):Int) 32) 122=b2;generalize (s[k]==95)=b3;generalize decide (0<k)=b4;generalize decide (48≤s[k].toNat)=b5;generalize decide (s[k].toNat≤57)=b6;generalize (s[k]==45)=b7;generalize (s[k]==43)=b8;generalize (s[k]==47)=b9;generalize (s[k]==46)=b10
 cases b1<;>cases b2<;>cases b3<;>cases b4<;>cases b5<;>cases b6<;>cases b7<;>cases b8<;>cases b9<;>cases b10<;>rfl
theorem TS (s:List UInt8) (x2:Int) (F:Nat) (hs:s.length≤64): ∀(n k:Nat),k≤s.length→s.length-k<n→
  qQ F [] n s x2 (aZ s) (ax (aZ s)) (k:Int) some=some (.int .i64 (if Cz k (s.drop k)=true then(if s=[] then 10 else 0) else 10)):=by
 intro n;induction n with
 |zero=>intro k _ h;omega
 |succ n ih=>
  intro k hk hn;by_cases h:k<s.length
  ·rw[TR s x2 F n k h hs,List.drop_eq_getElem_cons h]
   show _=some (V.int .i64 (if(I7 k s[k]&&Cz (k+1) (s.drop (k+1)))=true then _ else _))
   cases hc:I7 k s[k] with
   |true=>rw[if_pos rfl,ih (k+1) (by omega) (by omega),Bool.true_and]
   |false=>rw[if_neg (by decide),Bool.false_and,if_neg (by decide)]
  ·have hl:(aZ s).length=s.length:=by unfold aZ;rw[List.length_map]
   (rw[zL];(conv=>zeta);rw[aG (bu (by rw[aI,hl];omega)),List.drop_of_length_le (by omega),if_pos (show Cz k []=true from rfl),bI])
   by_cases h0:s=[]
   ·rw[if_pos (by rw[dH];exact h0),if_pos h0]
   ·rw[if_neg (by rw[dH];exact h0),if_neg h0]
theorem GH (s:List UInt8):(if Cz 0 s=true then(if s=[] then(10:Int) else 0) else 10)=if Cz 0 s=true∧s≠[] then 0 else 10:=by
 by_cases h:Cz 0 s=true
 ·rw[if_pos h]
  by_cases h0:s=[]
  ·rw[if_pos h0,if_neg (fun e=>e.2 h0)]
  ·rw[if_neg h0,if_pos ⟨h,h0⟩]
 ·rw[if_neg h,if_neg (fun e=>h e.1)]
theorem ab6 (s:List UInt8):af oE 54 [.str s] (.int .i64 (gW s)):=by
 refine ai Be aai 100 2 ?_;rw[XY];unfold gW;by_cases h:64<s.length
 ·rw[aj (bq (by rw[au];omega)),if_pos h]
 ·rw[aG (bu (by rw[au];omega)),if_neg h,aj (by rw[Dt];omega)]
  have:=TS s 0 100 (by omega) 100 0 (by omega) (by omega);rw[List.drop_zero,GH] at this;exact this
theorem MU (f:Bool→Option V) (c a b:Bool):sel c (f a) (f b)=f (sel c a b):=by cases c<;>rfl
theorem AP (s:List UInt8) (x2:Int) (F n k:Nat) (hk:k<s.length) (hs:s.length≤64):lN F [] (n+1) s x2 (k:Int) some=
  if I7 k (s[k])=true then lN F [] n s x2 ((k+1:Nat):Int) some else some (.int .i64 10):=by
 have e:sat s (k:Int)=((s[k].toNat:Nat):Int):=by
  rw[mg,List.getD_eq_getElem?_getD,List.getElem?_eq_getElem hk];rfl
 have hb:av (ak 0 (k:Int)) (aK (k:Int) (ah s))=true:=by rw[aC,aA,aU,au];omega
 have hz:ieq (k:Int) 0= !decide (0<k):=by
  rw[Bool.eq_iff_iff,aH,Bool.not_eq_true',decide_eq_false_iff_not];omega
 (rw[vM];(conv=>zeta);rw[aj (bq (by rw[au];omega)),aj hb,e,dh (by omega),show(k:Int)+1=((k+1:Nat):Int) by omega,hz])
 unfold I7;generalize lN F [] n s x2 ((k+1:Nat):Int) some=N;generalize some (V.int .i64 10)=X;obtain⟨f,h1,h2⟩: ∃f:Bool→Option V,f true=N∧f false=X:=⟨fun b=>sel b N X,rfl,rfl⟩
 subst h1;subst h2;have hr: ∀b:Bool,(if b=true then f true else f false)=f b:=fun b=>by cases b<;>rfl
 rw[hr];simp only[MU f];congr 1
 generalize decide (0<k)=z;generalize s[k]=c;clear hz e hb hr;obtain⟨⟨m⟩⟩:=c;revert m z;decide+kernel
theorem AQ (s:List UInt8) (x2:Int) (F:Nat) (hs:s.length≤64): ∀(n k:Nat),k≤s.length→s.length-k<n→
  lN F [] n s x2 (k:Int) some=some (.int .i64 (if Cz k (s.drop k)=true then(if s=[] then 10 else 0) else 10)):=by
 intro n;induction n with
 |zero=>intro k _ h;omega
 |succ n ih=>
  intro k hk hn;by_cases h:k<s.length
  ·rw[AP s x2 F n k h hs,List.drop_eq_getElem_cons h]
   show _=some (V.int .i64 (if(I7 k s[k]&&Cz (k+1) (s.drop (k+1)))=true then _ else _))
   cases hc:I7 k s[k] with
   |true=>rw[if_pos rfl,ih (k+1) (by omega) (by omega),Bool.true_and]
   |false=>rw[if_neg (by decide),Bool.false_and,if_neg (by decide)]
  ·(rw[vM];(conv=>zeta);rw[aG (bu (by rw[au];omega)),List.drop_of_length_le (by omega),if_pos (show Cz k []=true from rfl),bI])
   by_cases h0:s=[]
   ·rw[if_pos (by rw[dH];exact h0),if_pos h0]
   ·rw[if_neg (by rw[dH];exact h0),if_neg h0]
theorem Hr (s:List UInt8):af oE 40 [.str s] (.int .i64 (gW s)):=by
 refine ai Be aai 100 2 ?_;rw[QS];unfold gW;by_cases h:64<s.length
 ·rw[aj (bq (by rw[au];omega)),if_pos h]
 ·rw[aG (bu (by rw[au];omega)),if_neg h]
  have:=AQ s 0 100 (by omega) 100 0 (by omega) (by omega);rw[List.drop_zero,GH] at this;exact this
end Nt.Ev.YtpbgegnlkdfjgaaGreatDoor.Nm
namespace Nt.Ev.YtpbgegnlkdfjgaaGreatDoor.Lk
open Go Nt Nt.Num
abbrev Bs:=List UInt8
def Zr:List (Bs×Bs)→Bs→Option Bs
 |[],_=>none
 |(t,m)::r,n=>if m=n then some t else Zr r n
def Zs (l:List (Bs×Bs)) (met:List Bs) (n:Bs):Prop:=met.Nodup∧ ∀m∈met,∃t,Zr l m=some t∧(t∈met∨t=n)
theorem Zs.step {l:List (Bs×Bs)} {met:List Bs} {n t:Bs} (h:Zs l met n) (hn:n∉met) (ht:Zr l n=some t):Zs l (n::met) t:=by
 refine⟨List.nodup_cons.2 ⟨hn,h.1⟩,fun m hm=>?_⟩;rcases List.mem_cons.1 hm with rfl|hm
 ·exact⟨t,ht,.inr rfl⟩
 ·obtain⟨u,hu,h1|h1⟩:=h.2 m hm
  ·exact⟨u,hu,.inl (List.mem_cons_of_mem _ h1)⟩
  ·exact⟨u,hu,.inl (h1▸by simp)⟩
set_option maxRecDepth 100000
open Go.Proofs.YtpbgegnlkdfjgaaGreatDoor
open Nt.Ev.YtpbgegnlkdfjgaaGreatDoor.Nm
noncomputable def kNaS:aL:=fun a=>match a with|[.str s]=>some (true,.int .i64 (gW s))|_=>none
def YA (a b:Int):Int:=sel (ieq a 0) b a
noncomputable def kOrS:aL:=fun a=>match a with|[.sl e [.int .i64] o [.int .i64 a,.int .i64 b]]=>some (true,.int .i64 (YA a b))|_=>none
noncomputable def kS0:List (Nat×aL):=(81,kOrS)::(54,kNaS)::(40,kNaS)::[]
noncomputable def Sk (F:Nat) (ns:List Nat) (n:Nat) (x0:List V) (x2:Int) (x6:List V) (x7 x8:Int) (K:V→Option V):Option V:=
 dN oE oS F 2 81 [1,1,0,1,0] ns K n (iY 18 [(0,V.sl 33 [Kd.int .i64] none x0),(2,V.int .i64 x2),(3,V.int .i64 0),(6,V.sl 33 [Kd.int .i64] none x6),(7,V.int .i64 x7),(8,V.int .i64 x8)] [])
theorem kOr_top (F:Nat) (a b:Int) (K:V→Option V):
 bD oE (bB oE oS F 2) F 81 [V.sl 33 [Kd.int .i64] none [V.int .i64 a,V.int .i64 b]] K=
 let A:=[V.int .i64 a,V.int .i64 b];Sk F [] F A 0 A (ax A) 0 K:=by kernel_rfl
theorem xX (F n:Nat) (x0:List V) (x2:Int) (x6:List V) (x7 x8:Int) (K:V→Option V):
 Sk F [] (n+1) x0 x2 x6 x7 x8 K=
 let A:=asInt (aD (aY x6 x8) 0);sel (aK x8 x7) (sel (av (ak 0 x8) (aK x8 (ax x6))) (sel (aB (ieq A 0)) (K (V.int .i64 A)) (Sk F [] n x0 x2 x6 x7 (bP .i64 x8 1) K)) none) (K (V.int .i64 0)):=by kernel_rfl
theorem XZ (F:Nat) (xs:List V) (K:V→Option V):
 bD oE (bB oE kS0 F 3) F 55 [V.sl 9 [Kd.str] none xs] K=
 let A:=V.agg [V.str [],V.str []];let B:=aT (aD (aY xs 0) 0);let C:=aT (aD (aY xs 1) 0);let D:=YA (gW B) (gW C);sel (aK (ax xs) 2) (K (V.tup [A,V.int .i64 5])) (sel (aK 2 (ax xs)) (K (V.tup [A,V.int .i64 6])) (sel (av (ak 0 0) (aK 0 (ax xs))) (sel (av (ak 0 1) (aK 1 (ax xs))) (sel (aB (ieq D 0)) (K (V.tup [A,V.int .i64 D])) (sel (seq B C) (K (V.tup [A,V.int .i64 13])) (K (V.tup [V.agg [V.str B,V.str C],V.int .i64 0])))) none) none)):=by kernel_rfl
noncomputable def AU (F:Nat) (ns:List Nat) (n:Nat) (x0:List V) (x3:Int) (Cv:List V) (uR rQ:Int) (eX dV:List UInt8) (K:V→Option V):Option V:=
 dN oE kS0 F 3 41 [1,1,1,0,1,0] ns K n (iY 43 [(0,V.sl 9 [Kd.str] none x0),(2,V.box 2 0),(3,V.int .i64 x3),(15,V.sl 9 [Kd.str] none Cv),(16,V.int .i64 uR),(17,V.int .i64 rQ)] [(2,[V.str eX,V.str dV])])
theorem QT (F:Nat) (xs:List V) (K:V→Option V):
 bD oE (bB oE kS0 F 3) F 41 [V.sl 9 [Kd.str] none xs] K=
 let A:=V.agg [V.str [],V.str []];sel (aK (ax xs) 2) (K (V.tup [A,V.int .i64 5])) (sel (aK 2 (ax xs)) (K (V.tup [A,V.int .i64 6])) (AU F [] F xs 0 xs (ax xs) 0 [] [] K)):=by kernel_rfl
theorem oW (F n:Nat) (x0:List V) (x3:Int) (Cv:List V) (uR rQ:Int) (eX dV:List UInt8) (K:V→Option V):
 AU F [] (n+1) x0 x3 Cv uR rQ eX dV K=
 let A:=gW (aT (aD (aY Cv rQ) 0));let B:=av (ak 0 0) (aK 0 (ax x0));let C:=av (ak 0 1) (aK 1 (ax x0));let D:=V.agg [V.str [],V.str []];let E:=aT (aD (aY x0 0) 0);let G:=aT (aD (aY x0 1) 0);sel (aK rQ uR) (sel (av (ak 0 rQ) (aK rQ (ax Cv))) (sel (aB (ieq A 0)) (K (V.tup [D,V.int .i64 A])) (AU F [] n x0 x3 Cv uR (bP .i64 rQ 1) eX dV K)) none) (sel B (sel C (sel (seq E G) (K (V.tup [D,V.int .i64 13])) (sel B (sel C (K (V.tup [V.agg [V.str E,V.str G],V.int .i64 0])) none) none)) none) none):=by kernel_rfl
end Nt.Ev.YtpbgegnlkdfjgaaGreatDoor.Lk
namespace Nt.Maps
open Go Go.Maps Go.RowKit Go.WideMaps
abbrev DU:=DataW Unit
def RelTo (D:DU) (f:List UInt8→Option (List UInt8)):Prop:=∀(l:List UInt8) (z:DU),D.atKey (.string l) z=match f l with|none=>z|some t=> .lit (.string t)
def RelIn (D:DU) (f:List UInt8→Bool):Prop:=∀(l:List UInt8) (z:DU),D.atKey (.string l) z=if f l=true then .lit (.bool true) else z
def wP (w:World) (P:Program) (k e:TypeId) (b n:Nat) (f:List UInt8→Option (List UInt8)):Prop:=∃D:DU,w.ownsMap P k (plainElem P e) b n D∧RelTo D f
def wQ (w:World) (P:Program) (k e:TypeId) (b n:Nat) (f:List UInt8→Bool):Prop:=∃D:DU,w.ownsMap P k (plainElem P e) b n D∧RelIn D f∧Maps.size D=n
variable {P:Program} {k e t:TypeId} {w:World} {b n:Nat} {f:List UInt8→Option (List UInt8)} {g:List UInt8→Bool}
theorem wP.lt (h:wP w P k e b n f):b<w.heap.size:=h.elim fun _ h=>h.1.lt
theorem wQ.lt (h:wQ w P k e b n g):b<w.heap.size:=h.elim fun _ h=>h.1.lt
theorem wP.kept {w':World} {row:Option Nat} (h:wP w P k e b n f) (hg:w.grownBy w' row) (hne:some b≠row):wP w' P k e b n f:=h.elim fun D h=>⟨D,h.1.kept hg hne,h.2⟩
theorem wQ.kept {w':World} {row:Option Nat} (h:wQ w P k e b n g) (hg:w.grownBy w' row) (hne:some b≠row):wQ w' P k e b n g:=h.elim fun D h=>⟨D,h.1.kept hg hne,h.2⟩
theorem wP.alloc (h:wP w P k e b n f) (o:Obj):wP (w.alloc o) P k e b n f:=h.elim fun D h=>⟨D,h.1.alloc o,h.2⟩
theorem wQ.alloc (h:wQ w P k e b n g) (o:Obj):wQ (w.alloc o) P k e b n g:=h.elim fun D h=>⟨D,h.1.alloc o,h.2⟩
theorem wP.setCell (h:wP w P k e b n f) {a:Addr} (ha:b≠a.block) (u:Value):wP (w.setCell a u) P k e b n f:=h.elim fun D h=>⟨D,h.1.setCell ha u,h.2⟩
theorem wQ.setCell (h:wQ w P k e b n g) {a:Addr} (ha:b≠a.block) (u:Value):wQ (w.setCell a u) P k e b n g:=h.elim fun D h=>⟨D,h.1.setCell ha u,h.2⟩
section
variable {ops:Array Oper} {rest:List Oper} {o:Oper} {a:Act} {Q:Exit→Act→World→Prop}
end
end Nt.Maps
namespace Go.Proofs.YtpbgegnlkdfjgaaGreatDoor
open Go Go.RowKit Go.Shelf Nt Nt.Maps Nt.Ev.YtpbgegnlkdfjgaaGreatDoor.Lk
end Go.Proofs.YtpbgegnlkdfjgaaGreatDoor
namespace Nt.Ev.YtpbgegnlkdfjgaaGreatDoor.Lk
open Go Go.RowKit Nt Nt.Num Nt.Ev.YtpbgegnlkdfjgaaGreatDoor.Nm Go.Proofs.YtpbgegnlkdfjgaaGreatDoor
theorem Vl (s:List UInt8) (hc:true=true):af oE 54 [.str s] (.int .i64 (gW s)):=ab6 s
theorem jM (s:List UInt8) (hc:true=true):af oE 40 [.str s] (.int .i64 (gW s)):=Hr s
theorem kOr_ev (a b:Int):af oE 81 [.sl 33 [.int .i64] none [.int .i64 a,.int .i64 b]] (.int .i64 (YA a b)):=by
 refine ai Be oS_ok 5 2 ?_
 (rw[kOr_top];(conv=>zeta);rw[xX];(conv=>zeta);rw[xX];(conv=>zeta);rw[xX];(conv=>zeta))
 have e:sel (aB (ieq a 0)) (some (V.int .i64 a)) (sel (aB (ieq b 0)) (some (V.int .i64 b)) (some (V.int .i64 0)))=some (.int .i64 (YA a b)):=by
  unfold YA;simp only[bI,bE,aH];repeat' split
  all_goals first|rfl|(exfalso;omega)|(congr 2;omega)
 exact e
theorem kOrS_ok (e:Nat) (o:Option Nat) (a b:Int) (hc:true=true):af oE 81 [.sl e [.int .i64] o [.int .i64 a,.int .i64 b]] (.int .i64 (YA a b)):=by
 intro G w vs hG hg hp;refine kOr_ev a b G w vs hG hg ?_;obtain⟨x,rfl,hx⟩:=Ma hp;refine .cons ?_ .nil;unfold aP at hx⊢;exact hx
theorem aaj:bF oE kS0:=by
 unfold kS0;refine bF.cons (fun args r h=>?_) (bF.cons (fun args r h=>?_) (bF.cons (fun args r h=>?_) bF.nil));all_goals (revert h;intro h;first|unfold kOrS at h|unfold kNaS at h)
 all_goals (split at h;rotate_left; · cases h)
 all_goals (simp only[Option.some.injEq,Prod.mk.injEq] at h;obtain⟨hc,rfl⟩:=h)
 ·exact kOrS_ok _ _ _ _ rfl
 ·exact Vl _ rfl
 ·exact jM _ rfl
noncomputable def Lt (xs:List V):Int:=if ax xs<2 then 5 else if 2<ax xs then 6 else
 let t:=aT (aD (aY xs 0) 0);let n:=aT (aD (aY xs 1) 0)
 if YA (gW t) (gW n)≠0 then YA (gW t) (gW n) else if t=n then 13 else 0
noncomputable def lrT (xs:List V):List UInt8:=if Lt xs=0 then aT (aD (aY xs 0) 0) else[]
noncomputable def lrN (xs:List V):List UInt8:=if Lt xs=0 then aT (aD (aY xs 1) 0) else[]
theorem ab7 (a b:Int):YA a b=0↔a=0∧b=0:=by unfold YA;simp only[bI,aH];split<;>omega
theorem ab8 (xs:List V):af oE 55 [.sl 9 [.str] none xs] (.tup [.agg [.str (lrT xs),.str (lrN xs)],.int .i64 (Lt xs)]):=by
 refine ai Be aaj 5 3 ?_
 (rw[XZ];(conv=>zeta))
 unfold lrT lrN;have h0:av (ak 0 0) (aK 0 (ax xs))=decide (0<ax xs):=by rw[Bool.eq_iff_iff,aC,aA,aU,decide_eq_true_eq];omega
 have h1:av (ak 0 1) (aK 1 (ax xs))=decide (1<ax xs):=by rw[Bool.eq_iff_iff,aC,aA,aU,decide_eq_true_eq];omega
 rw[h0,h1];unfold Lt;simp only[bI,aU,bE,aH,dH,decide_eq_true_eq];repeat' split
 all_goals first|rfl|omega|(exfalso;omega)|skip
 all_goals simp_all
theorem TT (xs:List V):af oE 41 [.sl 9 [.str] none xs] (.tup [.agg [.str (lrT xs),.str (lrN xs)],.int .i64 (Lt xs)]):=by
 refine ai Be aaj 5 3 ?_
 (rw[QT];(conv=>zeta))
 unfold lrT lrN;by_cases c1:ax xs<2
 ·rw[aj (bq c1)]
  unfold Lt;rw[if_pos c1];rfl
 ·rw[aG (bu (by omega))]
  by_cases c2:2<ax xs
  ·rw[aj (bq c2)]
   unfold Lt;rw[if_neg c1,if_pos c2];rfl
  ·rw[aG (bu (by omega))]
   have e:ax xs=2:=by omega
   (rw[oW];(conv=>zeta);rw[oW];(conv=>zeta);rw[oW];(conv=>zeta);rw[e])
   have e0:bP .i64 0 1=1:=by decide+kernel
   have e1:bP .i64 1 1=2:=by decide+kernel
   rw[e0,e1];unfold Lt;rw[e];simp only[bI,aU,aA,aC,bE,aH,dH,ab7];unfold YA;simp only[bI,aH];by_cases a:gW (aT (aD (aY xs 0) 0))=0<;>by_cases b:gW (aT (aD (aY xs 1) 0))=0<;>by_cases c:aT (aD (aY xs 0) 0)=aT (aD (aY xs 1) 0)
   all_goals simp[a,b,c]
end Nt.Ev.YtpbgegnlkdfjgaaGreatDoor.Lk
