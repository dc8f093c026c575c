/-
  Clock: equations of functions, as the evaluator prints them. Times of day: what the program's functions and the document's answer. ClockLaw: equations of functions, as the evaluator prints them. Times of day: the statements ClockTells and ClockBack.
-/
import Derived.Test.YtplklcejbmfgdaaGreatDoorMF
import Derived.Test.YtplklcejbmfgdaaGreatDoorME
import Derived.Shelf.Strings.SlTrimAscii
set_option linter.unusedVariables false
set_option linter.unusedSimpArgs false
set_option linter.unusedSectionVars false
namespace Nt.Ev.YtplklcejbmfgdaaGreatDoor
set_option maxRecDepth 100000
open Go Nt.Num Go.Proofs.YtplklcejbmfgdaaGreatDoor
variable [mJ]
def rdI (s:List UInt8):Int:=(aO.read s).1
def Lt (s:List UInt8):Int:=(aO.read s).2
def V9 (n:Int):List UInt8:=(aO.text n).1
def txW (n:Int):Int:=(aO.text n).2
def mr (l:List UInt8):Bool:=l.all fun c=>decide (c.toNat<128)
def tZ (s c:List UInt8):List UInt8:=Lib.trimRightS s c
noncomputable def X5:aF:=fun a=>match a with|[.str s]=>some (ai (aj s) 1000,.tup [.int .i64 (rdI s),.int .i64 (Lt s)])|_=>none
noncomputable def X6:aF:=fun a=>match a with|[.int .i64 n]=>some (ak (ai (-9223372036854775808) n) (ai n 9223372036854775807),.tup [.str (V9 n),.int .i64 (txW n)])|_=>none
noncomputable def X7:aF:=fun a=>match a with|[.str s,.str c]=>some (ak (ai (aj s) 1000) (ak (ai (aj c) 1000) (mr c)),.str (tZ s c))|_=>none
noncomputable def cS:List (Nat×aF):=(148,X5)::(60,X6)::(203,X7)::[]
def pZ (x:Int):Int:=if x=119∨x=87 then 0 else if x=115∨x=83 then 1 else if x=117∨x=85∨x=103∨x=71∨x=122∨x=90 then 2 else 3
def bsP (s:List UInt8):List UInt8×Int:=match s.getLast? with|none=>(s,0)|some c=>if pZ (c.toNat:Int)=3 then(s,0) else(s.dropLast,pZ (c.toNat:Int))
def F5 (s:List UInt8):List UInt8:=(bsP s).1
def I9 (s:List UInt8):Int:=(bsP s).2
noncomputable def X8:aF:=fun a=>match a with|[.str s]=>some (ai (aj s) 1000,.tup [.str (F5 s),.int .i64 (I9 s)])|_=>none
noncomputable def cS2:List (Nat×aF):=(182,X8)::cS
noncomputable def ES (F:Nat) (ns:List Nat) (n:Nat) (x0 x2:List UInt8) (x3:Int) (O8 O9 Pb:List UInt8) (x8:Int) (K:V→Option V):Option V:=
 iA aE cS F 2 182 [1,0,1,0] ns K n (mH 28 [(0,V.str x0),(2,V.str x2),(3,V.int .i64 x3),(7,V.agg [V.str O8,V.str O9,V.str Pb]),(8,V.int .i64 x8)] [])
theorem Vd (F:Nat) (s:List UInt8) (K:V→Option V):
 cr aE (bV aE cS F 2) F 182 [V.str s] K=
 ES F [] F s [] 0 [119,87] [115,83] [117,85,103,71,122,90] 0 K:=by kernel_rfl
theorem mG (F n:Nat) (x0 x2:List UInt8) (x3:Int) (O8 O9 Pb:List UInt8) (x8:Int) (K:V→Option V):
 ES F [] (n+1) x0 x2 x3 O8 O9 Pb x8 K=
 let B:=ES F [] n x0 x2 x3 O8 O9 Pb (fB .i64 x8 1) K;let C:=iX .i64 (aj x0) 1;let D:=ai (aj x0) 1000;let A:=sel (ak (ai 0 C) (ai C (aj x0))) (K (V.tup [V.str (dF x0 0 C),V.int .i64 x8])) (none);sel (aT x8 3) (sel (ieq x8 0) (sel (ak D (ak (ai (aj O8) 1000) (mr O8))) (sel (aT (aj (tZ x0 O8)) (aj x0)) A B) none) (sel (ieq x8 1) (sel (ak D (ak (ai (aj O9) 1000) (mr O9))) (sel (aT (aj (tZ x0 O9)) (aj x0)) A B) none) (sel (ieq x8 2) (sel (ak D (ak (ai (aj Pb) 1000) (mr Pb))) (sel (aT (aj (tZ x0 Pb)) (aj x0)) A B) none) none))) (K (V.tup [V.str x0,V.int .i64 0])):=by kernel_rfl
theorem QH (F:Nat) (n b:Int) (K:V→Option V):
 cr aE (bV aE cS F 2) F 40 [V.agg [V.int .i64 n,V.int .i64 b]] K=
 let B:=K (V.bool false);let A:=sel (ai 0 n) (K (V.bool (ai n 172800))) B;sel (ieq b 0) (sel (ieq b 0) A B) (sel (ieq b 1) (sel (ieq b 1) A B) (sel (ieq b 2) A B)):=by kernel_rfl
theorem Oe (F:Nat) (n b:Int) (K:V→Option V):
 cr aE (bV aE cS F 2) F 59 [V.agg [V.int .i64 n,V.int .i64 b]] K=
 let B:=K (V.tup [V.str [],V.int .i64 4]);let C:=V.int .i64 (txW n);let A:=sel (ai 0 n) (sel (aG (ai n 172800)) B (sel (ak (ai (-9223372036854775808) n) (ai n 9223372036854775807)) (sel (ieq b 0) (sel (kS (V9 n) []) (K (V.tup [V.str (jX (V9 n) []),C])) none) (sel (ieq b 1) (sel (kS (V9 n) [115]) (K (V.tup [V.str (jX (V9 n) [115]),C])) none) (sel (ieq b 2) (sel (kS (V9 n) [117]) (K (V.tup [V.str (jX (V9 n) [117]),C])) none) none))) none)) B;sel (ieq b 0) (sel (ieq b 0) A B) (sel (ieq b 1) (sel (ieq b 1) A B) (sel (ieq b 2) A B)):=by kernel_rfl
theorem Ve (F:Nat) (s:List UInt8) (K:V→Option V):
 cr aE (bV aE cS2 F 3) F 161 [V.str s] K=
 let C:=V.int .i64 0;let D:=rdI (F5 s);let B:=K (V.tup [V.agg [C,C],V.int .i64 1]);let A:=sel (ai 0 D) (sel (aG (ai D 172800)) B (K (V.tup [V.agg [V.int .i64 D,V.int .i64 (I9 s)],C]))) B;sel (ai (aj s) 1000) (sel (ai (aj (F5 s)) 1000) (sel (aG (ieq (Lt (F5 s)) 0)) (K (V.tup [V.agg [C,C],V.int .i64 (Lt (F5 s))])) (sel (ieq (I9 s) 0) (sel (ieq (I9 s) 0) A B) (sel (ieq (I9 s) 1) (sel (ieq (I9 s) 1) A B) (sel (ieq (I9 s) 2) A B)))) none) none:=by kernel_rfl
open Nt
theorem toAk {f:Nat} {args:List V} {r:V} (h:af nE f args r):af aE f args r:=af.env (E:=nE) rfl (fun n v h=>by cases h) h
theorem lenA {s:List UInt8} (h:ai (aj s) 1000=true):s.length≤1000:=by rw[aA,aB] at h;omega
theorem fitsA {m:Int} (h:ak (ai (-9223372036854775808) m) (ai m 9223372036854775807)=true):Fits m:=by rw[aH,aA,aA] at h;exact h
open Go.Lib in
theorem trimR_c (s c:List UInt8) (hs:s.length≤1000) (hc:c.length≤1000) (ha:mr c=true):af nE 203 [.str s,.str c] (.str (tZ s c)):=by
 refine bU fun G w vs hG hg hp=>?_
 obtain⟨x,y,rfl,hx,hy⟩:=kJ hp;unfold aN at hx hy;subst hx;subst hy;have hasc: ∀(j:Nat) b,(⟨c.toArray⟩:ByteArray).data.toList[j]? =some b→b.toNat<128:=fun j b hb=>by
  unfold mr at ha;rw[List.all_eq_true] at ha;have:=ha b (List.mem_of_getElem? hb);simpa using this
 refine(Go.Proofs.Any.strings_TrimRight_laid Go.Proofs.Tryz.lays162 (by kernel_rfl) ⟨s.toArray⟩ ⟨c.toArray⟩ w (by rw[uZ];omega) (by rw[uZ];omega) hasc).mono ?_;rintro e w' ⟨rfl,hb⟩;exact⟨_,rfl,hb,J4 _⟩
theorem Vf (s:List UInt8) (hc:ai (aj s) 1000=true):af aE 148 [.str s] (.tup [.int .i64 (rdI s),.int .i64 (Lt s)]):=MJ s (lenA hc)
theorem Vg (n:Int) (hc:ak (ai (-9223372036854775808) n) (ai n 9223372036854775807)=true):af aE 60 [.int .i64 n] (.tup [.str (V9 n),.int .i64 (txW n)]):=MN n (fitsA hc).1 (fitsA hc).2
theorem Vh (s c:List UInt8) (hc:ak (ai (aj s) 1000) (ak (ai (aj c) 1000) (mr c))=true):af aE 203 [.str s,.str c] (.str (tZ s c)):=by
 obtain⟨h1,h2⟩:=aY hc;obtain⟨h2,h3⟩:=aY h2;exact toAk (trimR_c s c (lenA h1) (lenA h2) h3)
theorem RB:bq aE cS:=by
 unfold cS;refine bq.cons (fun args r h=>?_) (bq.cons (fun args r h=>?_) (bq.cons (fun args r h=>?_) bq.nil));all_goals (revert h;intro h;first|unfold X5 at h|unfold X6 at h|unfold X7 at h)
 all_goals (split at h;rotate_left; · cases h)
 all_goals (simp only[Option.some.injEq,Prod.mk.injEq] at h;obtain⟨hc,rfl⟩:=h)
 ·exact Vf _ hc
 ·exact Vg _ hc
 ·exact Vh _ _ hc
theorem Bg (l:List UInt8) (c:UInt8) (cs:List UInt8):aT (aj (tZ (l++[c]) cs)) (aj (l++[c]))=cs.contains c:=by
 unfold tZ Lib.trimRightS;rw[List.reverse_append,List.reverse_singleton,List.singleton_append,List.dropWhile_cons]
 cases hc:cs.contains c with
 |true=>
  rw[if_pos rfl];refine bD ?_;rw[aB,aB,List.length_reverse,List.length_append];have:=(List.dropWhile_suffix (l:=l.reverse) fun x=>cs.contains x).sublist.length_le;rw[List.length_reverse] at this;simp only[List.length_singleton];omega
 |false=>
  rw[if_neg (by decide)];refine bB ?_;simp[aj]
theorem MS (l:List UInt8) (c:UInt8) (h:(l++[c]).length≤1000):iX .i64 (aj (l++[c])) 1=(l.length:Int):=by
 rw[aB] at*;rw[qY (by omega)];simp
theorem Vi (l:List UInt8) (c:UInt8):dF (l++[c]) 0 (l.length:Int)=l:=by
 unfold dF;simp
theorem Vj (l:List UInt8) (c:UInt8):aj (l++[c])=(l.length:Int)+1:=by unfold aj;simp
theorem MU (l:List UInt8) (c:UInt8):bsP (l++[c])=if pZ (c.toNat:Int)=3 then(l++[c],0) else(l,pZ (c.toNat:Int)):=by
 unfold bsP;simp
theorem Zt (c:UInt8):([119,87]:List UInt8).contains c=decide (pZ (c.toNat:Int)=0)∧([115,83]:List UInt8).contains c=decide (pZ (c.toNat:Int)=1)∧([117,85,103,71,122,90]:List UInt8).contains c=decide (pZ (c.toNat:Int)=2):=by
 have h: ∀n:Fin 256,([119,87]:List UInt8).contains (UInt8.ofNat n)=decide (pZ ((n.val:Nat):Int)=0)∧([115,83]:List UInt8).contains (UInt8.ofNat n)=decide (pZ ((n.val:Nat):Int)=1)∧([117,85,103,71,122,90]:List UInt8).contains (UInt8.ofNat n)=decide (pZ ((n.val:Nat):Int)=2):=by decide+kernel
 have:=h ⟨c.toNat,c.toNat_lt⟩;simpa using this
theorem X9 (x:Int):pZ x=0∨pZ x=1∨pZ x=2∨pZ x=3:=by
 unfold pZ
 (repeat' split)<;>omega
theorem Zu (s:List UInt8) (hs:s.length≤1000):af aE 182 [.str s] (.tup [.str (F5 s),.int .i64 (I9 s)]):=by
 refine ah yD RB 5 2 ?_;rw[Vd];have h1:ai (aj s) 1000=true:=bF (by rw[aB];omega);have a0:ak (ai (aj s) 1000) (ak (ai (aj [119,87]) 1000) (mr [119,87]))=true:=by rw[h1];rfl
 have a1:ak (ai (aj s) 1000) (ak (ai (aj [115,83]) 1000) (mr [115,83]))=true:=by rw[h1];rfl
 have a2:ak (ai (aj s) 1000) (ak (ai (aj [117,85,103,71,122,90]) 1000) (mr [117,85,103,71,122,90]))=true:=by rw[h1];rfl
 have i1:fB .i64 0 1=1:=rfl;have i2:fB .i64 1 1=2:=rfl;have i3:fB .i64 2 1=3:=rfl;have st: ∀x y:Option V,sel true x y=x:=fun _ _=>rfl
 have sf: ∀x y:Option V,sel false x y=y:=fun _ _=>rfl
 have l0:aT 0 3=true:=rfl;have l1:aT 1 3=true:=rfl;have l2:aT 2 3=true:=rfl;have l3:aT 3 3=false:=rfl;have e00:ieq 0 0=true:=rfl;have e10:ieq 1 0=false:=rfl;have e11:ieq 1 1=true:=rfl;have e20:ieq 2 0=false:=rfl;have e21:ieq 2 1=false:=rfl;have e22:ieq 2 2=true:=rfl
 (rw[mG];(conv=>zeta);rw[mG];(conv=>zeta);rw[mG];(conv=>zeta);rw[mG];(conv=>zeta))
 simp only[a0,a1,a2,i1,i2,i3,l0,l1,l2,l3,e00,e10,e11,e20,e21,e22,st,sf];rcases List.eq_nil_or_concat s with rfl|⟨l,c,rfl⟩
 ·rfl
 ·rw[List.concat_eq_append] at*
  have b:ak (ai 0 (iX .i64 (aj (l++[c])) 1)) (ai (iX .i64 (aj (l++[c])) 1) (aj (l++[c])))=true:=by
   rw[MS l c hs,aH,aA,aA,Vj];omega
  obtain⟨c0,c1,c2⟩:=Zt c;rw[Bg,Bg,Bg,c0,c1,c2,b,MS l c hs,Vi];unfold F5 I9;rw[MU];have hcl:=X9 (c.toNat:Int);generalize pZ (c.toNat:Int)=q at*;rcases hcl with rfl|rfl|rfl|rfl<;>rfl
theorem Vk (s:List UInt8) (hc:ai (aj s) 1000=true):af aE 182 [.str s] (.tup [.str (F5 s),.int .i64 (I9 s)]):=Zu s (lenA hc)
theorem cS2_ok:bq aE cS2:=by
 unfold cS2;refine bq.cons (fun args r h=>?_) RB;all_goals (revert h;intro h;first|unfold X8 at h)
 all_goals (split at h;rotate_left; · cases h)
 all_goals (simp only[Option.some.injEq,Prod.mk.injEq] at h;obtain⟨hc,rfl⟩:=h)
 ·exact Vk _ hc
def D4 (s:List UInt8):Int×Int×Int:=if Lt (F5 s)=0 then(if 0≤rdI (F5 s)∧rdI (F5 s)≤172800 then(rdI (F5 s),I9 s,0) else(0,0,1)) else(0,0,Lt (F5 s))
def resC (p:Int×Int×Int):V:=.tup [.agg [.int .i64 p.1,.int .i64 p.2.1],.int .i64 p.2.2]
theorem bs_len (s:List UInt8):(F5 s).length≤s.length∧(I9 s=0∨I9 s=1∨I9 s=2):=by
 rcases List.eq_nil_or_concat s with rfl|⟨l,c,rfl⟩
 ·exact⟨by simp[F5,bsP],.inl rfl⟩
 ·rw[List.concat_eq_append]
  unfold F5 I9;rw[MU];have hcl:=X9 (c.toNat:Int);split
  ·exact⟨by simp,.inl rfl⟩
  ·exact⟨by simp,by simp only;omega⟩
theorem Zh (s:List UInt8) (hs:s.length≤1000):af aE 161 [.str s] (resC (D4 s)):=by
 refine ah yD cS2_ok 5 3 ?_
 (rw[Ve];(conv=>zeta))
 obtain⟨h1,h2⟩:=bs_len s;have h3:ai (aj s) 1000=true:=bF (by rw[aB];omega);have h4:ai (aj (F5 s)) 1000=true:=bF (by rw[aB];omega);unfold D4 resC;simp only[h3,h4,bJ,aH,bP,aK,aA,bf,if_true,and_self,Bool.false_eq_true,if_false];generalize rdI (F5 s)=a at*;generalize Lt (F5 s)=b at*;generalize I9 s=q at*;repeat' split
 all_goals first|rfl|(exfalso;omega)
def iP (n b:Int):Bool:=decide (0≤n∧n≤172800∧0≤b∧b≤2)
theorem UX (n b:Int):af aE 40 [.agg [.int .i64 n,.int .i64 b]] (.bool (iP n b)):=by
 refine ah yD RB 5 2 ?_
 (rw[QH];(conv=>zeta))
 unfold iP;simp only[bJ,aA,aK];repeat' split
 all_goals first|(rw[decide_eq_false (by omega)];done)|(congr 2;unfold ai;rw[Bool.eq_iff_iff];simp;omega)
def letC (b:Int):List UInt8:=if b=0 then[] else if b=1 then[115] else[117]
def LU (n b:Int):List UInt8×Int:=if iP n b=true then(V9 n++letC b,0) else([],4)
theorem tx_week (n:Int) (h:0≤n∧n≤172800):txW n=0∧(V9 n).length≤10:=by
 unfold txW V9 aO.text;rw[if_neg (by omega)];by_cases h0:n=0
 ·subst h0;exact⟨rfl,by decide⟩
 ·rw[if_neg h0]
  refine⟨rfl,?_⟩;have:=y7 3 (n.natAbs/3600) (by omega) (by decide);simp only[aO.two];split<;>split<;>simp<;>omega
theorem QE (n b:Int):af aE 59 [.agg [.int .i64 n,.int .i64 b]] (.tup [.str (LU n b).1,.int .i64 (LU n b).2]):=by
 refine ah yD RB 5 2 ?_
 (rw[Oe];(conv=>zeta))
 unfold LU;by_cases hr:iP n b=true
 ·rw[if_pos hr]
  unfold iP at hr;have hr:=of_decide_eq_true hr;obtain⟨h1,h2⟩:=tx_week n (by omega);have f1:ai 0 n=true:=bF (by omega);have f2:ai n 172800=true:=bF (by omega);have f3:ak (ai (-9223372036854775808) n) (ai n 9223372036854775807)=true:=by rw[aH,aA,aA];omega
  have f4: ∀p:List UInt8,p.length≤10→kS (V9 n) p=true:=fun p hp=>by rw[iG];omega
  have g0:=f4 [] (by decide);have g1:=f4 [115] (by decide);have g2:=f4 [117] (by decide);have hb:b=0∨b=1∨b=2:=by omega
  rcases hb with rfl|rfl|rfl
  ·simp only[f1,f2,f3,g0,g1,g2,h1];rfl
  ·simp only[f1,f2,f3,g0,g1,g2,h1];rfl
  ·simp only[f1,f2,f3,g0,g1,g2,h1];rfl
 ·rw[if_neg hr]
  unfold iP at hr;have hr: ¬(0≤n∧n≤172800∧0≤b∧b≤2):=fun h=>hr (decide_eq_true h)
  simp only[bJ,aA,aK,bP];repeat' split
  all_goals first|rfl|(exfalso;omega)
end Nt.Ev.YtplklcejbmfgdaaGreatDoor
