/-
  Clock: equations of functions, as the evaluator prints them. Times of day: what the program's functions and the document's answer. ClockLaw: equations of functions, as the evaluator prints them. Times of day: the statements ClockTells and ClockBack.
-/
import Derived.Test.YtplklcejbmfgdaaGreatDoorMF
import Derived.Test.YtplklcejbmfgdaaGreatDoorME
import Derived.Shelf.Strings.SlTrimAscii
set_option linter.unusedVariables false
set_option linter.unusedSimpArgs false
set_option linter.unusedSectionVars false
namespace Nt.Ev.YtplklcejbmfgdaaGreatDoor
set_option maxRecDepth 100000
open Go Nt.Num Go.Proofs.YtplklcejbmfgdaaGreatDoor
variable [nP]
def Xc (s:List UInt8):Int:=(aF.read s).1
def EK (s:List UInt8):Int:=(aF.read s).2
def Z7 (n:Int):List UInt8:=(aF.text n).1
def txW (n:Int):Int:=(aF.text n).2
def mU (l:List UInt8):Bool:=l.all fun c=>decide (c.toNat<128)
def vk (s c:List UInt8):List UInt8:=Lib.trimRightS s c
noncomputable def cReadS:aG:=fun a=>match a with|[.str s]=>some (ak (au s) 1000,.tup [.int .i64 (Xc s),.int .i64 (EK s)])|_=>none
noncomputable def cTextS:aG:=fun a=>match a with|[.int .i64 n]=>some (ai (ak (-9223372036854775808) n) (ak n 9223372036854775807),.tup [.str (Z7 n),.int .i64 (txW n)])|_=>none
noncomputable def trimRS:aG:=fun a=>match a with|[.str s,.str c]=>some (ai (ak (au s) 1000) (ai (ak (au c) 1000) (mU c)),.str (vk s c))|_=>none
noncomputable def cS:List (Nat×aG):=(148,cReadS)::(60,cTextS)::(203,trimRS)::[]
def ng (x:Int):Int:=if x=119∨x=87 then 0 else if x=115∨x=83 then 1 else if x=117∨x=85∨x=103∨x=71∨x=122∨x=90 then 2 else 3
def bsP (s:List UInt8):List UInt8×Int:=match s.getLast? with|none=>(s,0)|some c=>if ng (c.toNat:Int)=3 then(s,0) else(s.dropLast,ng (c.toNat:Int))
def Dj (s:List UInt8):List UInt8:=(bsP s).1
def Fz (s:List UInt8):Int:=(bsP s).2
noncomputable def cBaseS:aG:=fun a=>match a with|[.str s]=>some (ak (au s) 1000,.tup [.str (Dj s),.int .i64 (Fz s)])|_=>none
noncomputable def cS2:List (Nat×aG):=(182,cBaseS)::cS
noncomputable def Hl (F:Nat) (ns:List Nat) (n:Nat) (x0 x2:List UInt8) (x3:Int) (SB SC SE:List UInt8) (x8:Int) (K:V→Option V):Option V:=
 iG aE cS F 2 182 [1,0,1,0] ns K n (mY 28 [(0,V.str x0),(2,V.str x2),(3,V.int .i64 x3),(7,V.agg [V.str SB,V.str SC,V.str SE]),(8,V.int .i64 x8)] [])
theorem YW (F:Nat) (s:List UInt8) (K:V→Option V):
 bW aE (bT aE cS F 2) F 182 [V.str s] K=
 Hl F [] F s [] 0 [119,87] [115,83] [117,85,103,71,122,90] 0 K:=by kernel_rfl
theorem mX (F n:Nat) (x0 x2:List UInt8) (x3:Int) (SB SC SE:List UInt8) (x8:Int) (K:V→Option V):
 Hl F [] (n+1) x0 x2 x3 SB SC SE x8 K=
 let B:=Hl F [] n x0 x2 x3 SB SC SE (eu .i64 x8 1) K;let C:=jN .i64 (au x0) 1;let D:=ak (au x0) 1000;let A:=sel (ai (ak 0 C) (ak C (au x0))) (K (V.tup [V.str (dG x0 0 C),V.int .i64 x8])) (none);sel (aU x8 3) (sel (ieq x8 0) (sel (ai D (ai (ak (au SB) 1000) (mU SB))) (sel (aU (au (vk x0 SB)) (au x0)) A B) none) (sel (ieq x8 1) (sel (ai D (ai (ak (au SC) 1000) (mU SC))) (sel (aU (au (vk x0 SC)) (au x0)) A B) none) (sel (ieq x8 2) (sel (ai D (ai (ak (au SE) 1000) (mU SE))) (sel (aU (au (vk x0 SE)) (au x0)) A B) none) none))) (K (V.tup [V.str x0,V.int .i64 0])):=by kernel_rfl
theorem UA (F:Nat) (n b:Int) (K:V→Option V):
 bW aE (bT aE cS F 2) F 40 [V.agg [V.int .i64 n,V.int .i64 b]] K=
 let B:=K (V.bool false);let A:=sel (ak 0 n) (K (V.bool (ak n 172800))) B;sel (ieq b 0) (sel (ieq b 0) A B) (sel (ieq b 1) (sel (ieq b 1) A B) (sel (ieq b 2) A B)):=by kernel_rfl
theorem Ru (F:Nat) (n b:Int) (K:V→Option V):
 bW aE (bT aE cS F 2) F 59 [V.agg [V.int .i64 n,V.int .i64 b]] K=
 let B:=K (V.tup [V.str [],V.int .i64 4]);let C:=V.int .i64 (txW n);let A:=sel (ak 0 n) (sel (aK (ak n 172800)) B (sel (ai (ak (-9223372036854775808) n) (ak n 9223372036854775807)) (sel (ieq b 0) (sel (gz (Z7 n) []) (K (V.tup [V.str (gy (Z7 n) []),C])) none) (sel (ieq b 1) (sel (gz (Z7 n) [115]) (K (V.tup [V.str (gy (Z7 n) [115]),C])) none) (sel (ieq b 2) (sel (gz (Z7 n) [117]) (K (V.tup [V.str (gy (Z7 n) [117]),C])) none) none))) none)) B;sel (ieq b 0) (sel (ieq b 0) A B) (sel (ieq b 1) (sel (ieq b 1) A B) (sel (ieq b 2) A B)):=by kernel_rfl
theorem YX (F:Nat) (s:List UInt8) (K:V→Option V):
 bW aE (bT aE cS2 F 3) F 161 [V.str s] K=
 let C:=V.int .i64 0;let D:=Xc (Dj s);let B:=K (V.tup [V.agg [C,C],V.int .i64 1]);let A:=sel (ak 0 D) (sel (aK (ak D 172800)) B (K (V.tup [V.agg [V.int .i64 D,V.int .i64 (Fz s)],C]))) B;sel (ak (au s) 1000) (sel (ak (au (Dj s)) 1000) (sel (aK (ieq (EK (Dj s)) 0)) (K (V.tup [V.agg [C,C],V.int .i64 (EK (Dj s))])) (sel (ieq (Fz s) 0) (sel (ieq (Fz s) 0) A B) (sel (ieq (Fz s) 1) (sel (ieq (Fz s) 1) A B) (sel (ieq (Fz s) 2) A B)))) none) none:=by kernel_rfl
open Nt
theorem toAk {f:Nat} {args:List V} {r:V} (h:af nE f args r):af aE f args r:=af.env (E:=nE) rfl (fun n v h=>by cases h) h
theorem lenA {s:List UInt8} (h:ak (au s) 1000=true):s.length≤1000:=by rw[ay,aC] at h;omega
theorem fitsA {m:Int} (h:ai (ak (-9223372036854775808) m) (ak m 9223372036854775807)=true):Fits m:=by rw[aJ,ay,ay] at h;exact h
open Go.Lib in
theorem trimR_c (s c:List UInt8) (hs:s.length≤1000) (hc:c.length≤1000) (ha:mU c=true):af nE 203 [.str s,.str c] (.str (vk s c)):=by
 refine bP fun G w vs hG hg hp=>?_
 obtain⟨x,y,rfl,hx,hy⟩:=jD hp;unfold aO at hx hy;subst hx;subst hy;have hasc: ∀(j:Nat) b,(⟨c.toArray⟩:ByteArray).data.toList[j]? =some b→b.toNat<128:=fun j b hb=>by
  unfold mU at ha;rw[List.all_eq_true] at ha;have:=ha b (List.mem_of_getElem? hb);simpa using this
 refine(Go.Proofs.Any.strings_TrimRight_laid Go.Proofs.Tryz.lays162 (by kernel_rfl) ⟨s.toArray⟩ ⟨c.toArray⟩ w (by rw[wG];omega) (by rw[wG];omega) hasc).mono ?_;rintro e w' ⟨rfl,hb⟩;exact⟨_,rfl,hb,M4 _⟩
theorem YY (s:List UInt8) (hc:ak (au s) 1000=true):af aE 148 [.str s] (.tup [.int .i64 (Xc s),.int .i64 (EK s)]):=P4 s (lenA hc)
theorem YZ (n:Int) (hc:ai (ak (-9223372036854775808) n) (ak n 9223372036854775807)=true):af aE 60 [.int .i64 n] (.tup [.str (Z7 n),.int .i64 (txW n)]):=P6 n (fitsA hc).1 (fitsA hc).2
theorem Y0 (s c:List UInt8) (hc:ai (ak (au s) 1000) (ai (ak (au c) 1000) (mU c))=true):af aE 203 [.str s,.str c] (.str (vk s c)):=by
 obtain⟨h1,h2⟩:=aR hc;obtain⟨h2,h3⟩:=aR h2;exact toAk (trimR_c s c (lenA h1) (lenA h2) h3)
theorem Vs:bn aE cS:=by
 unfold cS;refine bn.cons (fun args r h=>?_) (bn.cons (fun args r h=>?_) (bn.cons (fun args r h=>?_) bn.nil));all_goals (revert h;intro h;first|unfold cReadS at h|unfold cTextS at h|unfold trimRS at h)
 all_goals (split at h;rotate_left; · cases h)
 all_goals (simp only[Option.some.injEq,Prod.mk.injEq] at h;obtain⟨hc,rfl⟩:=h)
 ·exact YY _ hc
 ·exact YZ _ hc
 ·exact Y0 _ _ hc
theorem C6 (l:List UInt8) (c:UInt8) (cs:List UInt8):aU (au (vk (l++[c]) cs)) (au (l++[c]))=cs.contains c:=by
 unfold vk Lib.trimRightS;rw[List.reverse_append,List.reverse_singleton,List.singleton_append,List.dropWhile_cons]
 cases hc:cs.contains c with
 |true=>
  rw[if_pos rfl];refine bE ?_;rw[aC,aC,List.length_reverse,List.length_append];have:=(List.dropWhile_suffix (l:=l.reverse) fun x=>cs.contains x).sublist.length_le;rw[List.length_reverse] at this;simp only[List.length_singleton];omega
 |false=>
  rw[if_neg (by decide)];refine bD ?_;simp[au]
theorem Qf (l:List UInt8) (c:UInt8) (h:(l++[c]).length≤1000):jN .i64 (au (l++[c])) 1=(l.length:Int):=by
 rw[aC] at*;rw[vg (by omega)];simp
theorem Y1 (l:List UInt8) (c:UInt8):dG (l++[c]) 0 (l.length:Int)=l:=by
 unfold dG;simp
theorem Y2 (l:List UInt8) (c:UInt8):au (l++[c])=(l.length:Int)+1:=by unfold au;simp
theorem rM (l:List UInt8) (c:UInt8):bsP (l++[c])=if ng (c.toNat:Int)=3 then(l++[c],0) else(l,ng (c.toNat:Int)):=by
 unfold bsP;simp
theorem cont_cls (c:UInt8):([119,87]:List UInt8).contains c=decide (ng (c.toNat:Int)=0)∧([115,83]:List UInt8).contains c=decide (ng (c.toNat:Int)=1)∧([117,85,103,71,122,90]:List UInt8).contains c=decide (ng (c.toNat:Int)=2):=by
 have h: ∀n:Fin 256,([119,87]:List UInt8).contains (UInt8.ofNat n)=decide (ng ((n.val:Nat):Int)=0)∧([115,83]:List UInt8).contains (UInt8.ofNat n)=decide (ng ((n.val:Nat):Int)=1)∧([117,85,103,71,122,90]:List UInt8).contains (UInt8.ofNat n)=decide (ng ((n.val:Nat):Int)=2):=by decide+kernel
 have:=h ⟨c.toNat,c.toNat_lt⟩;simpa using this
theorem cls_le (x:Int):ng x=0∨ng x=1∨ng x=2∨ng x=3:=by
 unfold ng
 (repeat' split)<;>omega
theorem cBase_ev (s:List UInt8) (hs:s.length≤1000):af aE 182 [.str s] (.tup [.str (Dj s),.int .i64 (Fz s)]):=by
 refine aj AB Vs 5 2 ?_;rw[YW];have h1:ak (au s) 1000=true:=bB (by rw[aC];omega);have a0:ai (ak (au s) 1000) (ai (ak (au [119,87]) 1000) (mU [119,87]))=true:=by rw[h1];rfl
 have a1:ai (ak (au s) 1000) (ai (ak (au [115,83]) 1000) (mU [115,83]))=true:=by rw[h1];rfl
 have a2:ai (ak (au s) 1000) (ai (ak (au [117,85,103,71,122,90]) 1000) (mU [117,85,103,71,122,90]))=true:=by rw[h1];rfl
 have i1:eu .i64 0 1=1:=rfl;have i2:eu .i64 1 1=2:=rfl;have i3:eu .i64 2 1=3:=rfl;have st: ∀x y:Option V,sel true x y=x:=fun _ _=>rfl
 have sf: ∀x y:Option V,sel false x y=y:=fun _ _=>rfl
 have l0:aU 0 3=true:=rfl;have l1:aU 1 3=true:=rfl;have l2:aU 2 3=true:=rfl;have l3:aU 3 3=false:=rfl;have e00:ieq 0 0=true:=rfl;have e10:ieq 1 0=false:=rfl;have e11:ieq 1 1=true:=rfl;have e20:ieq 2 0=false:=rfl;have e21:ieq 2 1=false:=rfl;have e22:ieq 2 2=true:=rfl
 (rw[mX];(conv=>zeta);rw[mX];(conv=>zeta);rw[mX];(conv=>zeta);rw[mX];(conv=>zeta))
 simp only[a0,a1,a2,i1,i2,i3,l0,l1,l2,l3,e00,e10,e11,e20,e21,e22,st,sf];rcases List.eq_nil_or_concat s with rfl|⟨l,c,rfl⟩
 ·rfl
 ·rw[List.concat_eq_append] at*
  have b:ai (ak 0 (jN .i64 (au (l++[c])) 1)) (ak (jN .i64 (au (l++[c])) 1) (au (l++[c])))=true:=by
   rw[Qf l c hs,aJ,ay,ay,Y2];omega
  obtain⟨c0,c1,c2⟩:=cont_cls c;rw[C6,C6,C6,c0,c1,c2,b,Qf l c hs,Y1];unfold Dj Fz;rw[rM];have hcl:=cls_le (c.toNat:Int);generalize ng (c.toNat:Int)=q at*;rcases hcl with rfl|rfl|rfl|rfl<;>rfl
theorem Y3 (s:List UInt8) (hc:ak (au s) 1000=true):af aE 182 [.str s] (.tup [.str (Dj s),.int .i64 (Fz s)]):=cBase_ev s (lenA hc)
theorem cS2_ok:bn aE cS2:=by
 unfold cS2;refine bn.cons (fun args r h=>?_) Vs;all_goals (revert h;intro h;first|unfold cBaseS at h)
 all_goals (split at h;rotate_left; · cases h)
 all_goals (simp only[Option.some.injEq,Prod.mk.injEq] at h;obtain⟨hc,rfl⟩:=h)
 ·exact Y3 _ hc
def tT (s:List UInt8):Int×Int×Int:=if EK (Dj s)=0 then(if 0≤Xc (Dj s)∧Xc (Dj s)≤172800 then(Xc (Dj s),Fz s,0) else(0,0,1)) else(0,0,EK (Dj s))
def resC (p:Int×Int×Int):V:=.tup [.agg [.int .i64 p.1,.int .i64 p.2.1],.int .i64 p.2.2]
theorem bs_len (s:List UInt8):(Dj s).length≤s.length∧(Fz s=0∨Fz s=1∨Fz s=2):=by
 rcases List.eq_nil_or_concat s with rfl|⟨l,c,rfl⟩
 ·exact⟨by simp[Dj,bsP],.inl rfl⟩
 ·rw[List.concat_eq_append]
  unfold Dj Fz;rw[rM];have hcl:=cls_le (c.toNat:Int);split
  ·exact⟨by simp,.inl rfl⟩
  ·exact⟨by simp,by simp only;omega⟩
theorem cRead_ev (s:List UInt8) (hs:s.length≤1000):af aE 161 [.str s] (resC (tT s)):=by
 refine aj AB cS2_ok 5 3 ?_
 (rw[YX];(conv=>zeta))
 obtain⟨h1,h2⟩:=bs_len s;have h3:ak (au s) 1000=true:=bB (by rw[aC];omega);have h4:ak (au (Dj s)) 1000=true:=bB (by rw[aC];omega);unfold tT resC;simp only[h3,h4,bV,aJ,bZ,aL,ay,bf,if_true,and_self,Bool.false_eq_true,if_false];generalize Xc (Dj s)=a at*;generalize EK (Dj s)=b at*;generalize Fz s=q at*;repeat' split
 all_goals first|rfl|(exfalso;omega)
def iq (n b:Int):Bool:=decide (0≤n∧n≤172800∧0≤b∧b≤2)
theorem YD (n b:Int):af aE 40 [.agg [.int .i64 n,.int .i64 b]] (.bool (iq n b)):=by
 refine aj AB Vs 5 2 ?_
 (rw[UA];(conv=>zeta))
 unfold iq;simp only[bV,ay,aL];repeat' split
 all_goals first|(rw[decide_eq_false (by omega)];done)|(congr 2;unfold ak;rw[Bool.eq_iff_iff];simp;omega)
def letC (b:Int):List UInt8:=if b=0 then[] else if b=1 then[115] else[117]
def F6 (n b:Int):List UInt8×Int:=if iq n b=true then(Z7 n++letC b,0) else([],4)
theorem V4 (n:Int) (h:0≤n∧n≤172800):txW n=0∧(Z7 n).length≤10:=by
 unfold txW Z7 aF.text;rw[if_neg (by omega)];by_cases h0:n=0
 ·subst h0;exact⟨rfl,by decide⟩
 ·rw[if_neg h0]
  refine⟨rfl,?_⟩;have:=rH 3 (n.natAbs/3600) (by omega) (by decide);simp only[aF.two];split<;>split<;>simp<;>omega
theorem Ut (n b:Int):af aE 59 [.agg [.int .i64 n,.int .i64 b]] (.tup [.str (F6 n b).1,.int .i64 (F6 n b).2]):=by
 refine aj AB Vs 5 2 ?_
 (rw[Ru];(conv=>zeta))
 unfold F6;by_cases hr:iq n b=true
 ·rw[if_pos hr]
  unfold iq at hr;have hr:=of_decide_eq_true hr;obtain⟨h1,h2⟩:=V4 n (by omega);have f1:ak 0 n=true:=bB (by omega);have f2:ak n 172800=true:=bB (by omega);have f3:ai (ak (-9223372036854775808) n) (ak n 9223372036854775807)=true:=by rw[aJ,ay,ay];omega
  have f4: ∀p:List UInt8,p.length≤10→gz (Z7 n) p=true:=fun p hp=>by rw[eP];omega
  have g0:=f4 [] (by decide);have g1:=f4 [115] (by decide);have g2:=f4 [117] (by decide);have hb:b=0∨b=1∨b=2:=by omega
  rcases hb with rfl|rfl|rfl
  ·simp only[f1,f2,f3,g0,g1,g2,h1];rfl
  ·simp only[f1,f2,f3,g0,g1,g2,h1];rfl
  ·simp only[f1,f2,f3,g0,g1,g2,h1];rfl
 ·rw[if_neg hr]
  unfold iq at hr;have hr: ¬(0≤n∧n≤172800∧0≤b∧b≤2):=fun h=>hr (decide_eq_true h)
  simp only[bV,ay,aL,bZ];repeat' split
  all_goals first|rfl|(exfalso;omega)
theorem Uu (l:List UInt8) (x:UInt8) (n q:Int) (hx:ng (x.toNat:Int)=q) (hq:q≠3) (hr:aF.read l=(n,0)) (hn:0≤n∧n≤172800):tT (l++[x])=(n,q,0):=by
 have h1:Dj (l++[x])=l:=by unfold Dj;rw[rM,hx,if_neg hq]
 have h2:Fz (l++[x])=q:=by unfold Fz;rw[rM,hx,if_neg hq]
 have h3:Xc l=n:=by unfold Xc;rw[hr]
 have h4:EK l=0:=by unfold EK;rw[hr]
 unfold tT;rw[h1,h2,h3,h4,if_pos rfl,if_pos hn]
theorem Uv (l:List UInt8) (c:UInt8) (n:Int) (hx:ng (c.toNat:Int)=3) (hr:aF.read (l++[c])=(n,0)) (hn:0≤n∧n≤172800):tT (l++[c])=(n,0,0):=by
 have h1:Dj (l++[c])=l++[c]:=by unfold Dj;rw[rM,hx,if_pos rfl]
 have h2:Fz (l++[c])=0:=by unfold Fz;rw[rM,hx,if_pos rfl]
 have h3:Xc (l++[c])=n:=by unfold Xc;rw[hr]
 have h4:EK (l++[c])=0:=by unfold EK;rw[hr]
 unfold tT;rw[h1,h2,h3,h4,if_pos rfl,if_pos hn]
end Nt.Ev.YtplklcejbmfgdaaGreatDoor
