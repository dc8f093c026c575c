/-
  Leaps: their text, both sides. Lines that tell leaps: what is read.
-/
import Derived.Test.YtcmockbdkppglaaDoorMXS
set_option linter.all false
set_option maxRecDepth 100000
namespace Nt.Ev.YtcmockbdkppglaaDoor.Lp
open Go Go.RowKit Nt Nt.Num Nt.Civil Nt.Fld Nt.Lin Go.Proofs.YtcmockbdkppglaaDoor Nt.Ev.YtcmockbdkppglaaDoor
theorem fitB {t:Int} (h:av (aH (-9223372036854775808) t) (aH t 9223372036854775807)=true):Fits t:=by
 rw[ay,ax,ax] at h;unfold Fits;omega
theorem Um (t:Int):IL (Fp t)=.tup [.agg [.int .i64 (kV 0 t),.int .i64 (kV 1 t),.int .i64 (kV 2 t),.int .i64 (kV 3 t),.int .i64 (kV 4 t),.int .i64 (kV 5 t)],.int .i64 (Z7 t)]:=by
 unfold kV Z7 IL Fp;by_cases h:fo (t/86400)=true
 ·rw[if_pos h];rfl
 ·rw[if_neg h];rfl
theorem RA (t:Int) (a:av (aH (-9223372036854775808) t) (aH t 9223372036854775807)=true):ak fu 14 [.int .i64 t] (.tup [.agg [.int .i64 (kV 0 t),.int .i64 (kV 1 t),.int .i64 (kV 2 t),.int .i64 (kV 3 t),.int .i64 (kV 4 t),.int .i64 (kV 5 t)],.int .i64 (Z7 t)]):=Um t▸Z8 (toU (TQ t (fitB a)))
theorem RB (y m d h i s:Int) (a:true=true):ak fu 16 [.agg [.int .i64 y,.int .i64 m,.int .i64 d,.int .i64 h,.int .i64 i,.int .i64 s]] (.str (kC y m d h i s)):=Z8 (QW y m d h i s)
theorem Ey (x b:V) (a:Fx x=true):qb fu 27 [.bxa 0 [x,b]] (.out false (.tup []) [[.box HL 0,b]]):=qb.env (E:=oE) rfl (fun n v h=>by cases h) (Nt.Ev.YtcmockbdkppglaaDoor.Ey x b a)
theorem Ez (x b:V) (a:av (Fx x) (SK b)=true):qb fu 17 [.bxa 0 [x,b]] (.out false (.str (bbS b)) [[x,bbN b]]):=qb.env (E:=oE) rfl (fun n v h=>by cases h) (Nt.Ev.YtcmockbdkppglaaDoor.Ez x b a)
theorem WZ:dP fu Yh:=by
 unfold Yh;refine dP.cons (fun args r h=>?_) (dP.cons (fun args r h=>?_) (dP.zC (fun args r h=>?_) (dP.zC (fun args r h=>?_) Jk)));all_goals (revert h;intro h;first|unfold Vr at h|unfold Vs at h|unfold YM at h|unfold YN at h)
 all_goals (split at h;rotate_left; · cases h)
 all_goals (simp only[aF,bP] at h;obtain⟨a,rfl⟩:=h)
 ·exact RA _ a
 ·exact RB _ _ _ _ _ _ rfl
 ·exact Ey _ _ a
 ·exact Ez _ _ a
theorem Un (y m d h i s:Int):(kC y m d h i s).length≤400:=by
 unfold kC;split
 ·rename_i hB
  obtain⟨c,o⟩:=qw.1 hB;obtain⟨k,q,a⟩:=iL.1 c;have b:=jZ a;have f:1≤d∧d≤31:=⟨a.1,by have:=qp y m b.1 b.2;have:=a.2;omega⟩
  have r:=dB m 2 (by omega) (by omega);have n:=dB d 2 (by omega) (by omega);have j:=dB h 2 (by omega) (by omega);have g:=dB i 2 (by omega) (by omega);have l:=dB s 2 (by omega) (by omega);have p:=dB y 4 (by omega) (by omega);have e:=dB (-y) 4 (by omega) (by omega);split<;>(simp only[nY,iy];omega)
 ·simp
def Ot (n:Int):ah:=if n<0 then[45] else[43]
theorem y7 (n:Int):(Ot n).length=1:=by unfold Ot;split<;>rfl
noncomputable def vz (t:Int):ah:=kC (kV 0 t) (kV 1 t) (kV 2 t) (kV 3 t) (kV 4 t) (kV 5 t)
noncomputable def RZ (xs:af) (i:Nat):ah:=fw (fw (fw (vz (lA xs i)) [32]) (Ot (lT xs i))) [10]
noncomputable def Ki (xs:af):Nat→Nat→ah
 |_,0=>[]
 |i,k+1=>RZ xs i++Ki xs (i+1) k
noncomputable def qM (xs:af):ah:=if kU xs=true then Ki xs 0 xs.length else[]
noncomputable def IG (xs:af):Int:=if kU xs=true then 0 else 4
theorem EC (t:Int):(vz t).length≤400:=Un _ _ _ _ _ _
theorem ED (xs:af) (i:Nat):(RZ xs i).length≤500:=by
 unfold RZ fw;have:=EC (lA xs i);have:=y7 (lT xs i);simp only[nY,Mc];omega
theorem XA {a b:ah} (h:a.length+b.length≤2000000000):jC a b=true:=by rw[Df];omega
abbrev mp:af:=[V.agg [V.int .i64 (-1),V.str [45]],V.agg [V.int .i64 1,V.str [43]]]
theorem LP {n:Int} (h:n=1∨n= -1):BH mp n=true∧jL mp n=Ot n:=by
 rcases h with rfl|rfl<;>exact⟨rfl,rfl⟩
theorem GK (F:Nat) (xs:af) (h:Nt.Leap.fA (lA xs) (lT xs) xs.length) (hl:xs.length≤1000) (K:V→Option V): ∀(k i n:Nat) (a:ah),i+k=xs.length→k<n→a.length≤i*500→
  mK F [] n xs xs (aQ xs) (i:Int) (aC a) K=K (.tup [.str (a++Ki xs i k),.int .i64 0])
 |0,i,n,a,d,e,g=>by
  obtain⟨n,rfl⟩: ∃m,n=m+1:=⟨n-1,by omega⟩
  (rw[uZ];(conv=>zeta);rw[EB (by omega),gf,bvb])
  unfold Ki;rw[Oa]
 |k+1,i,n,a,d,e,g=>by
  obtain⟨n,rfl⟩: ∃m,n=m+1:=⟨n-1,by omega⟩
  obtain⟨f,i2,i3⟩:=Ec (xs:=xs) (i:=i) (by omega) (by omega);have b:=h i (by omega);obtain⟨m1,c⟩:=LP b.2.2.1;have l:=ED xs i;have o:=EC (lA xs i);have p:=y7 (lT xs i)
  (rw[uZ];(conv=>zeta);rw[i2,f,gt,gt,i3,show asInt (aN (bq xs (i:Int)) 0)=lA xs i from rfl,show asInt (aN (bq xs (i:Int)) 1)=lT xs i from rfl])
  change sel _ (sel (jC (vz (lA xs i)) [32]) (sel (BH mp (lT xs i)) (sel (jC (fw (vz (lA xs i)) [32]) (jL mp (lT xs i))) (sel (jC (fw (fw (vz (lA xs i)) [32]) (jL mp (lT xs i))) [10]) (sel (fO (aC a) (aC (fw (fw (fw (vz (lA xs i)) [32]) (jL mp (lT xs i))) [10]))) (mK F [] n xs xs (aQ xs) ((i+1:Nat):Int) (bT (aC a) (aC (fw (fw (fw (vz (lA xs i)) [32]) (jL mp (lT xs i))) [10]))) K) none) none) none) none) none) none=_
  rw[m1,c,show av (aH (-9223372036854775808) (lA xs i)) (aH (lA xs i) 9223372036854775807)=true from by rw[ay,ax,ax];have:=b.1;have:=b.2.1;omega,gt,
   XA (by simp only[Mc];omega),gt,gt,XA (by unfold fw;simp only[nY,Mc];omega),gt,XA (by unfold fw;simp only[nY,Mc];omega),gt]
  change sel (fO (aC a) (aC (RZ xs i))) (mK F [] n xs xs (aQ xs) ((i+1:Nat):Int) (bT (aC a) (aC (RZ xs i))) K) none=_
  have j:i*500≤1000*500:=J9 _ (by omega);rw[bapp _ _ (by omega),gt,bcat,GK F xs h hl K k (i+1) n _ (by omega) (by omega) (by rw[nY,vo];omega),Iz];rfl
theorem RD (F:Nat) (xs:af) (h:Nt.Leap.fA (lA xs) (lT xs) xs.length) (hl:xs.length≤1000) (K:V→Option V) (n:Nat) (l:xs.length<n):
  EA F [] n xs xs (aQ xs) 0 K=K (.tup [.str (Ki xs 0 xs.length),.int .i64 0]):=by
 obtain⟨n,rfl⟩: ∃m,n=m+1:=⟨n-1,by omega⟩
 by_cases c:xs.length=0
 ·(rw[uY];(conv=>zeta);rw[show aZ 0 (aQ xs)=false from bC (by rw[aM];omega),gf,c]);rfl
 obtain⟨k,e⟩: ∃k,xs.length=k+1:=⟨xs.length-1,by omega⟩
 obtain⟨d,i2,i3⟩:=Ec (xs:=xs) (i:=0) (by omega) (by omega);have a:=h 0 (by omega);obtain⟨m1,b⟩:=LP a.2.2.1;have f:=ED xs 0;have g:=EC (lA xs 0);have j:=y7 (lT xs 0)
 (rw[uY];(conv=>zeta);rw[show aZ 0 (aQ xs)=true from d,show av (aH 0 0) true=true from rfl,gt,gt,show aY .i64 0 1=((0+1:Nat):Int) from i3,show asInt (aN (bq xs 0) 0)=lA xs 0 from rfl,show asInt (aN (bq xs 0) 1)=lT xs 0 from rfl])
 change sel _ (sel (jC (vz (lA xs 0)) [32]) (sel (BH mp (lT xs 0)) (sel (jC (fw (vz (lA xs 0)) [32]) (jL mp (lT xs 0))) (sel (jC (fw (fw (vz (lA xs 0)) [32]) (jL mp (lT xs 0))) [10]) (sel (oV (aC (fw (fw (fw (vz (lA xs 0)) [32]) (jL mp (lT xs 0))) [10]))) (mK F [] n xs xs (aQ xs) ((0+1:Nat):Int) (aC (fw (fw (fw (vz (lA xs 0)) [32]) (jL mp (lT xs 0))) [10])) K) none) none) none) none) none) none=_
 rw[m1,b,show av (aH (-9223372036854775808) (lA xs 0)) (aH (lA xs 0) 9223372036854775807)=true from by rw[ay,ax,ax];have:=a.1;have:=a.2.1;omega,gt,
  XA (by simp only[Mc];omega),gt,gt,XA (by unfold fw;simp only[nY,Mc];omega),gt,XA (by unfold fw;simp only[nY,Mc];omega),gt]
 change sel (oV (aC (RZ xs 0))) (mK F [] n xs xs (aQ xs) ((0+1:Nat):Int) (aC (RZ xs 0)) K) none=_
 rw[bnew _ (by omega),gt,GK F xs h hl K k 1 n _ (by omega) (by omega) (by omega),e];rfl
theorem Uo (xs:af) (hl:xs.length≤1000000):ak fu 7 [.sl 30 [.int .i64,.int .i64] none xs] (.tup [.str (qM xs),.int .i64 (IG xs)]):=by
 refine aG jG WZ (xs.length+1) 2 ?_;rw[Rv,show aH (aQ xs) 1000000=true from fU (by rw[aM];omega)];unfold qM IG
 cases hB:kU xs with
 |false=>rfl
 |true=>
  obtain⟨b,a⟩:=iq.1 hB;rw[gB,gt,gn,gf,if_pos rfl,if_pos rfl];exact RD _ xs b a some _ (by omega)
end Nt.Ev.YtcmockbdkppglaaDoor.Lp
namespace Nt.Fld
open Go Nt.Ev
theorem oC (N:Nat): ∀(s:ah) (out:List (ah)) (f:ah) (a e:Bool),(∀x∈out,x.length≤N)→f.length+s.length≤N→ ∀x∈(nu s out f a e).1,x.length≤N
 |[],out,f,a,e,b,g=>by
  have g:f.length≤N:=by simpa using g
  have d: ∀x∈tu a out f,x.length≤N:=by
   intro x hx
   cases a with
   |false=>exact b x hx
   |true=>
    have hx:x∈out++[f]:=hx;rw[R9,N7] at hx;rcases hx with hx|rfl
    ·exact b x hx
    ·exact g
  cases e with
  |true=>intro x hx;cases hx
  |false=>
   show∀x∈(BK (tu a out f)).1,_;unfold BK;split
   ·intro x hx;cases hx
   ·exact d
 |c::t,out,f,a,e,b,g=>by
  rw[iy] at g;have d: ∀x∈tu a out f,x.length≤N:=by
   intro x hx
   cases a with
   |false=>exact b x hx
   |true=>
    have hx:x∈out++[f]:=hx;rw[R9,N7] at hx;rcases hx with hx|rfl
    ·exact b x hx
    ·omega
  have i: ∀x∈(BK (tu a out f)).1,x.length≤N:=by
   unfold BK;split
   ·intro x hx;cases hx
   ·exact d
  have k:(f++[c]).length+t.length≤N:=by rw[nY,Mc];omega
  have j:f.length+t.length≤N:=by omega
  have h:([]:ah).length+t.length≤N:=by rw[o5];omega
  unfold nu
  cases e with
  |true=>
   cases l:c==34 with
   |true=>exact oC N t out f a false b j
   |false=>exact oC N t out (f++[c]) a true b k
  |false=>
   cases n:c==35 with
   |true=>exact i
   |false=>
    cases m:c==9 with
    |true=>exact oC N t _ [] false false d h
    |false=>
     cases h3:c==32 with
     |true=>exact oC N t _ [] false false d h
     |false=>
      cases l:c==34 with
      |true=>exact oC N t out f true true b j
      |false=>exact oC N t out (f++[c]) true false b k
end Nt.Fld
namespace Nt.Lin
open Go Nt.Ev
theorem Aw: ∀(s a:ah),∀l∈qI s a,l.length≤a.length+s.length
 |[],a,l,h=>by
  unfold qI at h
  cases a with
  |nil=>cases h
  |cons c t=>simp only[N7] at h;subst h;simp
 |c::t,a,l,h=>by
  unfold qI at h
  cases b:c==10 with
  |true=>
   rw[b,gY,Xr] at h;rcases h with rfl|h
   ·rw[iy];omega
   ·have:=Aw t [] l h
    rw[o5] at this;rw[iy];omega
  |false=>
   rw[b,fQ] at h;have:=Aw t (a++[c]) l h;rw[nY,Mc] at this;rw[iy];omega
end Nt.Lin
namespace Nt.Ev.YtcmockbdkppglaaDoor.Lp
open Go Go.RowKit Nt Nt.Num Nt.Civil Nt.Fld Nt.Lin Go.Proofs.YtcmockbdkppglaaDoor Nt.Ev.YtcmockbdkppglaaDoor
theorem NW (s:ah) {N:Nat} (a:s.length≤N): ∀x∈eu s,(eO (aN x 0)).length≤N:=by
 intro x hx;unfold eu Nt.Ev.fP at hx;obtain⟨l,hl,rfl⟩:=List.mem_map.1 hx;have:=Nt.Lin.Aw s [] l hl;rw[o5] at this;show l.length≤N;omega
theorem RE (s:ah):(eu s).length≤s.length:=by
 unfold eu;rw[wE,Nt.Lin.Jh (s.length+1) s (by omega),vk];exact Nt.Lin.Ji (s.length+1) s (by omega)
theorem Ao {xs:af} {i:Nat} (h:i<xs.length):xs.drop i=bq xs (i:Int)::xs.drop (i+1):=by
 rw[ab5 h,uo];congr 1
 simp[h]
theorem get_mem {xs:af} {i:Nat} (h:i<xs.length):bq xs (i:Int)∈xs:=by
 rw[uo];simp[h]
def mV (k:Nat) (s:ah):Int:=(Sr s).1.getD k 0
def R3 (s:ah):Int:=(Sr s).2
def VI (y m d h i s:Int):Int:=(Cq y m d h i s).1
def scW (y m d h i s:Int):Int:=(Cq y m d h i s).2
abbrev kP:List Kd:=[Kd.int .i64,Kd.int .i64]
def xL:V→af
 | .sl _ _ _ xs=>xs
 |_=>[]
def Z9:V→Bool
 | .sl e k (some L) _=>(L==1000001001&&e==30)&&Kd.zn kP k
 | .nilsl=>true
 |_=>false
abbrev lU (a e:Int):V:=.iface 61 (.agg [.int .i64 a,.int .i64 e])
noncomputable abbrev f0 (s:ah):ah:=eO (aN (bq (sO s) 0) 0)
noncomputable abbrev f1 (s:ah):ah:=eO (aN (bq (sO s) 1) 0)
noncomputable def mW (s:ah):Int:=
 if Kh s≠0 then Kh s else if Og s≠0 then Og s else if aQ (sO s)=0 then 0 else if aQ (sO s)<2 then 5 else if 2<aQ (sO s) then 6 else if R3 (f0 s)≠0 then R3 (f0 s) else if f1 s=[43] then 0 else if f1 s=[45] then 0 else 3
noncomputable def Yi (s:ah):Bool:=decide (mW s=0)&&decide (aQ (sO s)≠0)
noncomputable def lfA (s:ah):Int:=VI (mV 0 (f0 s)) (mV 1 (f0 s)) (mV 2 (f0 s)) (mV 3 (f0 s)) (mV 4 (f0 s)) (mV 5 (f0 s))
noncomputable def UZ (s:ah):Int:=if f1 s=[45] then -1 else 1
noncomputable def Fb (xs:af) (s:ah):af:=if Yi s=true then bT xs [.agg [.int .i64 (lfA s),.int .i64 (UZ s)]] else xs
theorem W9 {s:ah} (h:Kh s=0):s.length≤511:=by
 unfold Kh at h;rcases ZN 511 s.length with hl|hl
 ·rw[ai (bV (by rw[aA];omega))] at h;cases h
 ·exact hl
theorem RF {s:ah} (h:Kh s=0) (b:aQ (sO s)≠0):(f0 s).length≤511:=by
 rw[aM] at b;have hl:0<(sO s).length:=by omega
 have a:=get_mem (xs:=sO s) (i:=0) hl;show(eO (aN (bq (sO s) ((0:Nat):Int)) 0)).length≤511;generalize bq (sO s) ((0:Nat):Int)=v at a;unfold sO fP at a;obtain⟨l,hl,rfl⟩:=List.mem_map.1 a;exact oC 511 s [] [] false false (fun x hx=>nomatch hx) (by have:=W9 h;simpa using this) l hl
noncomputable def jc:af→Int→af→af×Int×Int
 |[],a,t=>(t,0,0)
 |x::xs,a,t=>if mW (eO (aN x 0))=0 then jc xs (a+1) (Fb t (eO (aN x 0))) else([],a+1,mW (eO (aN x 0)))
noncomputable def Kj (s:ah):af×Int×Int:=if 1048576<s.length then([],0,9) else
 if(jc (eu s) 0 []).2.2≠0 then jc (eu s) 0 [] else if kU (jc (eu s) 0 []).1=true then jc (eu s) 0 [] else([],0,4)
noncomputable def SL:aO:=fun a=>match a with|[.bxa 0 [c0,.int .i64 ln],.int .i64 e]=>some (true,.qD (ieq e 0) (.keep false (.tup [])) (.keep true (lU ln e)))|_=>none
noncomputable def YR:aO:=fun a=>match a with|[.str s]=>some (aH (aK s) 4000000,.int .i64 (Kh s))|_=>none
noncomputable def YS:aO:=fun a=>match a with|[.str s]=>some (aH (aK s) 4000000,.tup [.sl 9 [.str] none (sO s),.int .i64 (Og s)])|_=>none
noncomputable def YT:aO:=fun a=>match a with|[.str s]=>some (aH (aK s) 1000,.tup [.agg [.int .i64 (mV 0 s),.int .i64 (mV 1 s),.int .i64 (mV 2 s),.int .i64 (mV 3 s),.int .i64 (mV 4 s),.int .i64 (mV 5 s)],.int .i64 (R3 s)])|_=>none
noncomputable def YU:aO:=fun a=>match a with|[.agg [.int .i64 y,.int .i64 m,.int .i64 d,.int .i64 h,.int .i64 i,.int .i64 s]]=>some (true,.tup [.int .i64 (VI y m d h i s),.int .i64 (scW y m d h i s)])|_=>none
noncomputable def lp4:List (Nat×aO):=(KX+19,SL)::(32,YR)::(33,YS)::(34,YT)::(35,YU)::[]
noncomputable def Vt:aO:=fun a=>match a with|[.bxa 0 [c0,.int .i64 ln],.str s]=>some (bif Z9 c0 then av (aH (aK s) 4000000) (aH (aQ (xL c0)) 3000000) else false,.qD (ieq (mW s) 0) (.out false (.tup []) [[V.sl 30 kP (some 1000001001) (Fb (xL c0) s),.int .i64 ln]]) (.out true (lU ln (mW s)) [[V.sl 30 kP (some 1000001001) (xL c0),.int .i64 ln]]))|_=>none
noncomputable def YV:aO:=fun a=>match a with|[.str s]=>some (aH (aK s) 4000000,.sl 9 [.str] none (eu s))|_=>none
noncomputable def VJ:List (Nat×aO):=(GX+21,Vt)::(KX+19,SL)::(20,YV)::(9,zF)::[]
theorem RG (F xs a s) (K:V→Option V):
 gF fu (fK fu lp4 F 3) F 21 [V.bxa 0 [V.sl 30 [Kd.int .i64,Kd.int .i64] (some 1000001001) xs,V.int .i64 a],V.str s] K=
 let C:=eO (aN (bq (sO s) 0) 0);let G:=V.int .i64 a;let I:=eO (aN (bq (sO s) 1) 0);let J:=Kd.int .i64;let M:=aQ (sO s);let P:=aH (aK s) 4000000;let Q:=V.tup [];let A:=V.int .i64 (VI (mV 0 C) (mV 1 C) (mV 2 C) (mV 3 C) (mV 4 C) (mV 5 C));let B:=[[V.sl 30 [J,J] (some 1000001001) xs,G]];let H:=av (aH 0 1) (aZ 1 M);let L:=K (V.out true (V.iface 61 (V.agg [G,V.int .i64 3])) B);let N:=[V.agg [A,V.int .i64 (-1)]];let O:=[V.agg [A,V.int .i64 1]];let D:=sel (fO xs N) (K (V.out false Q [[V.sl 30 [J,J] (some 1000001001) (bT xs N),G]])) (none);let E:=sel (fO xs O) (K (V.out false Q [[V.sl 30 [J,J] (some 1000001001) (bT xs O),G]])) (none);sel P (sel (ieq (Kh s) 0) (sel P (sel (ieq (Og s) 0) (sel (ieq M 0) (K (V.out false Q B)) (sel (aZ M 2) (K (V.out true (V.iface 61 (V.agg [G,V.int .i64 5])) B)) (sel (aZ 2 M) (K (V.out true (V.iface 61 (V.agg [G,V.int .i64 6])) B)) (sel (av (aH 0 0) (aZ 0 M)) (sel (aH (aK C) 1000) (sel (ieq (R3 C) 0) (both (sel H (sel (seq I [45]) D (sel H (sel (seq I [43]) E L) none)) none) (sel H (sel (seq I [43]) E (sel H (sel (seq I [45]) D L) none)) none)) (K (V.out true (V.iface 61 (V.agg [G,V.int .i64 (R3 C)])) B))) none) none)))) (K (V.out true (V.iface 61 (V.agg [G,V.int .i64 (Og s)])) B))) none) (K (V.out true (V.iface 61 (V.agg [G,V.int .i64 (Kh s)])) B))) none:=by kernel_rfl
noncomputable def LQ:=fun F h n g f d e c b a K=>(yM fu VJ F 3 8 18 [V.box 1000005000 0,V.box 1000005001 0] [] [1,1,1,1,0,1,0] h K n (ny 35 [(0,V.str g),(2,V.box 1000005000 0),(3,V.box 1000005001 0),(4,V.box 4 0),(13,V.sl 9 [Kd.str] none f),(14,V.int .i64 d),(15,V.int .i64 e)] [(4,[V.nilsl,V.int .i64 c]),(1000005001,[V.int .i64 b,V.int .i64 a]),(1000005000,[V.nilsl])]):Option V)
noncomputable def y8:=fun F i n h g e f d c b a K=>(yM fu VJ F 3 8 18 [V.box 1000005000 0,V.box 1000005001 0] [] [1,1,1,1,0,1,0] i K n (ny 35 [(0,V.str h),(2,V.box 1000005000 0),(3,V.box 1000005001 0),(4,V.box 4 0),(13,V.sl 9 [Kd.str] none g),(14,V.int .i64 e),(15,V.int .i64 f)] [(4,[V.sl 30 [Kd.int .i64,Kd.int .i64] (some 50000) d,V.int .i64 c]),(1000005001,[V.int .i64 b,V.int .i64 a]),(1000005000,[V.nilsl])]):Option V)
theorem RH (F s) (K:V→Option V):
 gF fu (fK fu VJ F 3) F 8 [V.str s] K=
 sel (aZ 1048576 (aK s)) (K (V.tup [V.nilsl,V.agg [V.int .i64 0,V.int .i64 9]])) (sel (aH (aK s) 4000000) (LQ F [] F s (eu s) (aQ (eu s)) 0 0 0 0 K) none):=by kernel_rfl
theorem E7 (F n g d f c e b a K):
 LQ F [] (n+1) g d f c e b a K=
 let A:=K (V.tup [V.nilsl,V.agg [V.int .i64 b,V.int .i64 a]]);let B:=eO (aN (bq d c) 0);let C:=aY .i64 e 1;sel (aZ c f) (sel (av (aH 0 c) (aZ c (aQ d))) (sel (av (aH (aK B) 4000000) (aH (aQ []) 3000000)) (sel (ieq (mW B) 0) (y8 F [] n g d f (aY .i64 c 1) (Fb [] B) C b a K) (K (V.tup [V.nilsl,V.agg [V.int .i64 C,V.int .i64 (mW B)]]))) none) none) (sel (av true (aH (aQ []) 1000000)) (sel (aS (kU [])) (K (V.tup [V.nilsl,V.agg [V.int .i64 0,V.int .i64 4]])) (both (both A A) A)) none):=by kernel_rfl
theorem u6 (F n h e g d c f b a K):
 y8 F [] (n+1) h e g d c f b a K=
 let A:=K (V.tup [V.sl 30 [Kd.int .i64,Kd.int .i64] none c,V.agg [V.int .i64 b,V.int .i64 a]]);let B:=eO (aN (bq e d) 0);let C:=aY .i64 f 1;sel (aZ d g) (sel (av (aH 0 d) (aZ d (aQ e))) (sel (av (aH (aK B) 4000000) (aH (aQ c) 3000000)) (sel (ieq (mW B) 0) (y8 F [] n h e g (aY .i64 d 1) (Fb c B) C b a K) (K (V.tup [V.nilsl,V.agg [V.int .i64 C,V.int .i64 (mW B)]]))) none) none) (sel (av true (aH (aQ c) 1000000)) (sel (aS (kU c)) (K (V.tup [V.nilsl,V.agg [V.int .i64 0,V.int .i64 4]])) (both (both A A) A)) none):=by kernel_rfl
noncomputable def y9:=fun F e n c f d a b K=>(jP fu Ss F 2 10 [1,1,0,1,0] e K n (ny 26 [(0,V.sl 30 [Kd.int .i64,Kd.int .i64] none c),(1,V.sl 30 [Kd.int .i64,Kd.int .i64] none f),(4,V.bool d),(12,V.int .i64 a),(13,V.int .i64 b)] []):Option V)
theorem RI (F xs ys) (K:V→Option V):
 gF fu (fK fu Ss F 2) F 10 [V.sl 30 [Kd.int .i64,Kd.int .i64] none xs,V.sl 30 [Kd.int .i64,Kd.int .i64] none ys] K=
 sel (aS (ieq (aQ xs) (aQ ys))) (K (V.bool false)) (y9 F [] F xs ys false (aQ xs) 0 K):=by kernel_rfl
theorem u7 (F n c d e b a K):
 y9 F [] (n+1) c d e b a K=
 sel (aZ a b) (sel (av (aH 0 a) (aZ a (aQ c))) (sel (av (aH 0 a) (aZ a (aQ d))) (sel (aS (av (ieq (asInt (aN (bq c a) 0)) (asInt (aN (bq d a) 0))) (ieq (asInt (aN (bq c a) 1)) (asInt (aN (bq d a) 1))))) (K (V.bool false)) (y9 F [] n c d e b (aY .i64 a 1) K)) none) none) (K (V.bool true)):=by kernel_rfl
end Nt.Ev.YtcmockbdkppglaaDoor.Lp
namespace Go.Proofs.YtcmockbdkppglaaDoor
open Go Go.RowKit Go.Shelf Nt Nt.Ev
set_option maxRecDepth 100000 in
set_option maxHeartbeats 2000000 in
theorem Ir (g:Nat) (w:World):Calls Tryd.prog 19 #[.pointer (some ⟨g,0,none⟩),.int .i64 0] w fun ex w'=>ex=.returned (.tuple #[])∧Below w.heap.size w w':=by
 go_enter Tryd.func19,Tryd.ntmps19
 go_wp2
 exact⟨rfl,.tuple #[],by kernel_rfl,rfl,Below.refl _ _⟩
set_option maxRecDepth 100000 in
set_option maxHeartbeats 2000000 in
theorem Iu (g:Nat) (w:World) (ln e:Int) (he:e≠0) (h6:w.cell? ⟨g,1,none⟩=some (.int .i64 ln)):Calls Tryd.prog 19 #[.pointer (some ⟨g,0,none⟩),.int .i64 e] w fun ex w'=>ex=.panicked [{v:=.iface 61 (.agg #[.int .i64 ln,.int .i64 e]),recovered:=false}]∧Below w.heap.size w w':=by
 go_enter Tryd.func19,Tryd.ntmps19
 go_wp2
 exact⟨rfl,rfl,Below.refl _ _⟩
end Go.Proofs.YtcmockbdkppglaaDoor
namespace Nt.Ev.YtcmockbdkppglaaDoor.Lp
open Go Go.RowKit Nt Nt.Num Nt.Civil Nt.Fld Nt.Lin Go.Proofs.YtcmockbdkppglaaDoor Nt.Ev Nt.Ev.YtcmockbdkppglaaDoor
theorem GL {E:Env} {B:Own} {G0:aI} {w0 w:World} {s:St} {g:Gh} {a:Act} (h:Inv E B G0 w0 s g a w) {k i:Nat} {l:af} {n:Int} (hl:aj s.bx k=some l) (o:l[i]? =some (.int .i64 n)) {v:Value} (j:aB g (.box k 0) v):
  ∃b,v=.pointer (some ⟨b,0,none⟩)∧w.cell? ⟨b,i,none⟩=some (.int .i64 n):=by
 obtain⟨b,q,j⟩:=cu.1 j;obtain⟨r,c,e,d,_,p,m,_⟩:=h.bxs.1 k l hl;rw[q] at d;simp only[aF] at d;subst d;refine⟨b,j,?_⟩;rw[Lib.cell_of_heap p];have f:i<c.toList.length:=by rw[←m.1];exact(List.getElem?_eq_some_iff.1 o).1
 have:=m.2 i (.int .i64 n) c.toList[i] o (gQ f);simp only[aB,aX] at this;unfold aJ at this;rw[←aci,gQ f,this]
theorem PS {g:Gh} {n:Int} {v:Value} (h:aB g (.int .i64 n) v):v=.int .i64 n:=by
 simp only[aB,aX] at h;unfold aJ at h;exact h
theorem LU (k:V) (c e:Int) (C:true=true): ∃p x,mY (.qD (ieq e 0) (.keep false (.tup [])) (.keep true (lU c e)))=.keep p x∧KC fu 19 [.bxa 0 [k,.int .i64 c],.int .i64 e] p x:=by
 have d:bg 0 [.bxa 0 [k,.int .i64 c],.int .i64 e]=[.box HL 0,.int .i64 e]:=rfl;have f:aj (bZ 0 [.bxa 0 [k,.int .i64 c],.int .i64 e]) HL=some [k,.int .i64 c]:=rfl;by_cases u:e=0
 ·subst u
  refine⟨false,.tup [],rfl,fun B g w vs o j=>?_⟩;have a:=j.fr;rw[d] at a;obtain⟨r,y,h,l,a⟩:=a.cons_inv;obtain⟨s,z,t,q,a⟩:=a.cons_inv;obtain rfl:=a.bH;subst t;have h:vs=[r,s]:=h;subst h;obtain⟨b,m,_⟩:=GL j f (i:=1) (n:=c) rfl l;rw[m,PS q];refine(Ir b w).mono ?_;rintro v w' ⟨rfl,hB⟩;exact⟨_,rfl,⟨rfl,rfl⟩,hB⟩
 ·refine⟨true,lU c e,by rw[show ieq e 0=false from by unfold ieq;simpa using u];rfl,fun B g w vs o j=>?_⟩
  have a:=j.fr;rw[d] at a;obtain⟨r,y,h,l,a⟩:=a.cons_inv;obtain⟨s,z,t,q,a⟩:=a.cons_inv;obtain rfl:=a.bH;subst t;have h:vs=[r,s]:=h;subst h;obtain⟨b,m,A⟩:=GL j f (i:=1) (n:=c) rfl l;rw[m,PS q];refine(Iu b w c e u A).mono ?_;rintro v w' ⟨rfl,hB⟩;exact⟨_,rfl,rfl,hB⟩
theorem oL {f:Nat} {args:af} {r:V} (h:ak oE f args r):ak fu f args r:=ak.env (E:=oE) rfl (fun n v h=>by cases h) h
theorem hL {f:Nat} {args:af} {r:V} (h:ak hE f args r):ak fu f args r:=ak.env (E:=hE) rfl (fun n v h=>by cases h) h
theorem Up (s:ah) (a:aH (aK s) 4000000=true):ak fu 32 [.str s] (.int .i64 (Kh s)):=oL (Ug s a)
theorem Uq (s:ah) (a:aH (aK s) 4000000=true):ak fu 33 [.str s] (.tup [.sl 9 [.str] none (sO s),.int .i64 (Og s)]):=hL (Ua s a)
theorem Ur (s:ah) (a:aH (aK s) 4000000=true):ak fu 20 [.str s] (.sl 9 [.str] none (eu s)):=oL (LD s a)
theorem Us (s:ah):IL (Sr s)=(.tup [.agg [.int .i64 (mV 0 s),.int .i64 (mV 1 s),.int .i64 (mV 2 s),.int .i64 (mV 3 s),.int .i64 (mV 4 s),.int .i64 (mV 5 s)],.int .i64 (R3 s)]):=by
 have k: ∀p:List Int×Int,(∃a b c d e f w,p=([a,b,c,d,e,f],w))→IL p=.tup [.agg [.int .i64 (p.1.getD 0 0),.int .i64 (p.1.getD 1 0),.int .i64 (p.1.getD 2 0),.int .i64 (p.1.getD 3 0),.int .i64 (p.1.getD 4 0),.int .i64 (p.1.getD 5 0)],.int .i64 p.2]:=by
  rintro p ⟨a,b,c,d,e,f,w,rfl⟩;rfl
 refine k _ ?_;unfold Sr Z5 z6;repeat' split
 all_goals exact⟨_,_,_,_,_,_,_,rfl⟩
theorem Ut (s:ah) (a:aH (aK s) 1000=true):ak fu 34 [.str s] (.tup [.agg [.int .i64 (mV 0 s),.int .i64 (mV 1 s),.int .i64 (mV 2 s),.int .i64 (mV 3 s),.int .i64 (mV 4 s),.int .i64 (mV 5 s)],.int .i64 (R3 s)]):=Us s▸Z8 (Q8 s (FP a))
theorem Uu (y m d h i s:Int) (a:true=true):ak fu 35 [.agg [.int .i64 y,.int .i64 m,.int .i64 d,.int .i64 h,.int .i64 i,.int .i64 s]] (.tup [.int .i64 (VI y m d h i s),.int .i64 (scW y m d h i s)]):=Z8 (toU (NB y m d h i s))
theorem PT:dP fu lp4:=by
 unfold lp4;refine dP.Va (fun args r h=>?_) (dP.cons (fun args r h=>?_) (dP.cons (fun args r h=>?_) (dP.cons (fun args r h=>?_) (dP.cons (fun args r h=>?_) dP.nil))));all_goals (revert h;intro h;first|unfold SL at h|unfold YR at h|unfold YS at h|unfold YT at h|unfold YU at h)
 all_goals (split at h;rotate_left; · cases h)
 all_goals (simp only[aF,bP] at h;obtain⟨a,rfl⟩:=h)
 ·exact LU _ _ _ rfl
 ·exact Up _ a
 ·exact Uq _ a
 ·exact Ut _ a
 ·exact Uu _ _ _ _ _ _ rfl
theorem app1 {xs:af} {y:V} (h:xs.length≤16000000):fO xs [y]=true:=by rw[dH,Mc];omega
theorem V9 {a b:ah} (h:a=b):seq a b=true:=by rw[tO];exact h
theorem SN {a b:ah} (h: ¬a=b):seq a b=false:=by
 cases c:seq a b with
 |false=>rfl
 |true=>exact absurd ((tO a b).mp c) h
noncomputable def XB (xs:af) (a:Int) (s:ah):V:=sel (ieq (mW s) 0) (.out false (.tup []) [[.sl 30 kP (some 1000001001) (Fb xs s),.int .i64 a]]) (.out true (lU a (mW s)) [[.sl 30 kP (some 1000001001) xs,.int .i64 a]])
theorem vN {xs:af} {a:Int} {s:ah} {e:Int} (h:mW s=e) (b:e≠0):XB xs a s=.out true (lU a e) [[.sl 30 kP (some 1000001001) xs,.int .i64 a]]:=by
 subst h;unfold XB;rw[aD (bJ b)]
theorem Jl {xs:af} {a:Int} {s:ah} (h:mW s=0):XB xs a s=.out false (.tup []) [[.sl 30 kP (some 1000001001) (Fb xs s),.int .i64 a]]:=by
 unfold XB;rw[ai (cZ h)]
theorem Uv (F:Nat) (xs:af) (o:Int) (s:ah) (t:s.length≤4000000) (hx:xs.length≤3000000):gF fu (fK fu lp4 F 3) F 21 [V.bxa 0 [V.sl 30 kP (some 1000001001) xs,V.int .i64 o],V.str s] some=some (XB xs o s):=by
 have hl:aH (aK s) 4000000=true:=fU (by rw[aA];omega)
 (rw[RG];(conv=>zeta);rw[ai hl])
 by_cases a:Kh s=0;rotate_left
 ·rw[aD (bJ a),vN (by unfold mW;rw[if_pos a]) a]
 rw[ai (cZ a),ai hl];by_cases c:Og s=0;rotate_left
 ·rw[aD (bJ c),vN (by unfold mW;rw[if_neg (not_not_intro a),if_pos c]) c]
 rw[ai (cZ c)];by_cases b:aQ (sO s)=0
 ·have e:mW s=0:=by unfold mW;rw[if_neg (not_not_intro a),if_neg (not_not_intro c),if_pos b]
  rw[ai (cZ b),Jl e];unfold Fb Yi;rw[if_neg (by simp[b])]
 rw[aD (bJ b)];by_cases i:aQ (sO s)<2
 ·rw[ai (bV i),vN (e:=5) (by unfold mW;rw[if_neg (not_not_intro a),if_neg (not_not_intro c),if_neg b,if_pos i]) (by decide)]
 rw[aD (bC (by omega))];by_cases j:2<aQ (sO s)
 ·rw[ai (bV j),vN (e:=6) (by unfold mW;rw[if_neg (not_not_intro a),if_neg (not_not_intro c),if_neg b,if_neg i,if_pos j]) (by decide)]
 have g0:av (aH 0 0) (aZ 0 (aQ (sO s)))=true:=by rw[ay,ax,aU];omega
 have g1:av (aH 0 1) (aZ 1 (aQ (sO s)))=true:=by rw[ay,ax,aU];omega
 have q:aH (aK (f0 s)) 1000=true:=fU (by rw[aA];have:=RF a b;omega);have m: ∀y:V,fO xs [y]=true:=fun y=>app1 (by omega)
 rw[aD (bC (by omega)),ai g0,ai q];by_cases g:R3 (f0 s)=0;rotate_left
 ·rw[aD (bJ g),vN (by unfold mW;rw[if_neg (not_not_intro a),if_neg (not_not_intro c),if_neg b,if_neg i,if_neg j,if_pos g]) g]
 rw[ai (cZ g),ai g1,ai g1,ai g1];have eq:mW s=if f1 s=[43] then 0 else if f1 s=[45] then 0 else 3:=by unfold mW;rw[if_neg (not_not_intro a),if_neg (not_not_intro c),if_neg b,if_neg i,if_neg j,if_neg (not_not_intro g)]
 have l: ∀n:Int,mW s=0→UZ s=n→Fb xs s=bT xs [.agg [.int .i64 (VI (mV 0 (f0 s)) (mV 1 (f0 s)) (mV 2 (f0 s)) (mV 3 (f0 s)) (mV 4 (f0 s)) (mV 5 (f0 s))),.int .i64 n]]:=fun n h p=>by
  unfold Fb Yi;rw[if_pos (by simp[h,b]),p];rfl
 by_cases d:f1 s=[43]
 ·have e:mW s=0:=by rw[eq,if_pos d]
  have k:UZ s=1:=by unfold UZ;rw[if_neg (by rw[d];decide)]
  have r:seq (f1 s) [45]=false:=SN (by rw[d];decide);rw[aD r,ai (V9 d),ai (V9 d),ai (m _),Jl e,l 1 e k];exact jX _
 ·rw[aD (SN d),aD (SN d)]
  by_cases f:f1 s=[45]
  ·have e:mW s=0:=by rw[eq,if_neg d,if_pos f]
   have k:UZ s= -1:=by unfold UZ;rw[if_pos f]
   rw[ai (V9 f),ai (m _),ai g1,Jl e,l (-1) e k];exact jX _
  ·rw[aD (SN f),ai g1,vN (e:=3) (by rw[eq,if_neg d,if_neg f]) (by decide)]
   exact jX _
theorem GM (xs:af) (a:Int) (s:ah) (c:s.length≤4000000) (hx:xs.length≤3000000):qb fu 21 [V.bxa 0 [V.sl 30 kP (some 1000001001) xs,V.int .i64 a],V.str s]
  (.qD (ieq (mW s) 0) (.out false (.tup []) [[.sl 30 kP (some 1000001001) (Fb xs s),.int .i64 a]]) (.out true (lU a (mW s)) [[.sl 30 kP (some 1000001001) xs,.int .i64 a]])):=by
 have h:=Uv 3 xs a s c hx;unfold XB at h;refine qb.qD (fun b=>qb.out (l7 jG PT 3 3 ?_)) fun b=>qb.out (l7 jG PT 3 3 ?_)
 ·rw[h,ai b]
 ·rw[h,aD b]
def bare:V→Bool
 | .box _ _=>true
 | .str _=>true
 | .int _ _=>true
 |_=>false
theorem Dv {g g':Gh} (a:g'.G=g.G) (hβ:g'.β=g.β) {x:V} (hx:bare x=true) {v:Value} (h:aB g x v):aB g' x v:=by
 cases x with
 |box k off=>
  rw[cu] at h⊢;rw[hβ];exact h
 |str l=>simp only[aB,aX] at h⊢;rw[a];exact h
 |int k n=>simp only[aB,aX] at h⊢;rw[a];exact h
 |_=>cases hx
def nT (L:Nat):Option (Value×Nat×Nat):=if L=1000001001 then some (.slice none 0 0,30,2) else none
theorem Jm {L:Nat} {v:Value} {e a:Nat} (h:nT L=some (v,e,a)):v=.slice none 0 0∧0<a:=by
 unfold nT at h;split at h
 ·simp only[aF,bP] at h;obtain⟨rfl,_,rfl⟩:=h;exact⟨rfl,by decide⟩
 ·cases h
theorem Uw {B:Own} {g:Gh} {w:World} {a:Act} {fr r:af} (p: ∀x∈fr,bare x=true) (F: ∀x∈r,bare x=true) (h:Inv fu B g.G w ⟨fr,[(HL,.nilsl::r)]⟩ g a w): ∃g',g'.G=g.G∧Inv fu B g'.G w ⟨fr,[(HL,.sl 30 kP (some 1000001001) []::r)]⟩ g' a w:=by
 refine⟨{g with O:=nT},rfl,⟨h.fr.mono fun x hx v n=>Dv (g:=g) (by rfl) (by rfl) (p x hx) n,h.df,h.gok,⟨fun L v e z hL=>?_,fun L L' v K e N z H b m y l _=>?_⟩,⟨fun k o j=>?_,fun k P o E j q _=>?_⟩,h.gN,h.hB,h.ext,h.glob,h.g1,fun k o L v e z b j hL l=>?_⟩⟩
 ·obtain⟨m,y⟩:=Jm hL
  exact⟨y,.inl m⟩
 ·obtain⟨m,_⟩:=Jm m
  rw[m] at l;cases l
 ·have i:aj [(HL,.sl 30 kP (some 1000001001) []::r)] k=some o:=j
  unfold aj at i
  cases d:HL==k with
  |false=>rw[d] at i;cases i
  |true=>
   rw[d,gY] at i;obtain rfl:=Option.some.inj i;obtain rfl:HL=k:=by simpa using d
   obtain⟨b,c,e,l,s,u,t,D,I,M⟩:=h.bxs.1 HL (.nilsl::r) (by unfold aj;rw[E8,gY]);refine⟨b,c,e,l,s,u,?_,D,I,fun u=>by cases u⟩;obtain⟨R,Q,A,C,t⟩:=PW.cons_inv t;have J: ∀{v:Value},aB g .nilsl v→v=.slice none 0 0:=fun {v} n=>by
    simp only[aB,aX] at n;unfold aJ at n;exact n
   rw[A,J C];exact .cons ⟨rfl,.inl ⟨rfl,rfl⟩⟩ (t.mono fun x hx v n=>Dv (g:=g) (by rfl) (by rfl) (F x hx) n)
 ·have f: ∀{k:Nat} {o:af},aj [(HL,.sl 30 kP (some 1000001001) []::r)] k=some o→k=HL:=fun {k o} j=>by
   unfold aj at j
   cases d:HL==k with
   |false=>rw[d] at j;cases j
   |true=>exact(by simpa using d:HL=k).symm
  rw[f j,f q]
 ·obtain⟨m,_⟩:=Jm hL
  rw[m] at l;cases l
theorem LV: ∀(ys:af) (j:Nat),(∀y∈ys,bare y=true∧ ∀k off,y≠.box k off)→bg j ys=ys∧bZ j ys=[]
 |[],_,_=>⟨rfl,rfl⟩
 |y::ys,j,h=>by
  obtain⟨d,c⟩:=h y sS;obtain⟨a,b⟩:=LV ys (j+1) fun z e=>h z (vg _ e)
  cases y with
  |str l=>unfold bg bZ;rw[a,b];exact⟨rfl,rfl⟩
  |int k n=>unfold bg bZ;rw[a,b];exact⟨rfl,rfl⟩
  |box k off=>exact absurd rfl (c k off)
  |_=>cases d
theorem Zk {f:Nat} {r ys:af} {v:V} (j: ∀x∈r,bare x=true) (d: ∀y∈ys,bare y=true∧ ∀k off,y≠.box k off) (h:qb fu f (.bxa 0 (.sl 30 kP (some 1000001001) []::r)::ys) v):qb fu f (.bxa 0 (.nilsl::r)::ys) v:=by
 intro p x bs n B g w vs b e;obtain⟨m,o⟩:=LV ys 1 d;have f1: ∀a:af,bg 0 (.bxa 0 a::ys)=.box HL 0::ys:=fun a=>by
  show V.box HL 0::bg 1 ys=_;rw[m]
 have i: ∀a:af,bZ 0 (.bxa 0 a::ys)=[(HL,a)]:=fun a=>by
  show(HL+0,a)::bZ 1 ys=_;rw[o];rfl
 rw[f1,i] at e;obtain⟨g',l,c⟩:=Uw (by
  intro x hx;rcases List.mem_cons.1 hx with rfl|hx
  ·rfl
  ·exact(d x hx).1) j e
 have:=h p x bs n B g' w vs b (by rw[f1,i];exact c);rw[l,show dW 0 (V.bxa 0 (.sl 30 kP (some 1000001001) []::r)::ys) bs=dW 0 (V.bxa 0 (.nilsl::r)::ys) bs by cases bs<;>rfl] at this;exact this
theorem RJ (c0:V) (ln:Int) (s:ah) (hc:(bif Z9 c0 then av (aH (aK s) 4000000) (aH (aQ (xL c0)) 3000000) else false)=true):qb fu 21 [.bxa 0 [c0,.int .i64 ln],.str s] (.qD (ieq (mW s) 0) (.out false (.tup []) [[V.sl 30 kP (some 1000001001) (Fb (xL c0) s),.int .i64 ln]]) (.out true (lU ln (mW s)) [[V.sl 30 kP (some 1000001001) (xL c0),.int .i64 ln]])):=by
 cases hk:Z9 c0 with
 |false=>rw[hk] at hc;cases hc
 |true=>
  rw[hk,gY,ay,ax,ax,aA,aM] at hc;unfold Z9 at hk;split at hk
  ·rename_i e k L xs
   simp only[bB,fT] at hk;obtain⟨⟨rfl,rfl⟩,h3⟩:=hk;obtain rfl:=Kd.fD _ _ h3;exact GM xs ln s (by omega) (by
    have:xs.length≤3000000:=by have:=hc.2;simp only[xL] at this;omega
    exact this)
  ·exact Zk (r:=[.int .i64 ln]) (ys:=[.str s]) (by simp[bare]) (by simp[bare]) (GM [] ln s (by omega) (by simp))
  ·cases hk
theorem PU:dP fu VJ:=by
 unfold VJ;refine dP.zC (fun args r h=>?_) (dP.Va (fun args r h=>?_) (dP.cons (fun args r h=>?_) (dP.cons (fun args r h=>?_) dP.nil)));all_goals (revert h;intro h;first|unfold Vt at h|unfold SL at h|unfold YV at h|unfold zF at h)
 all_goals (split at h;rotate_left; · cases h)
 all_goals (simp only[aF,bP] at h;obtain⟨a,rfl⟩:=h)
 ·exact RJ _ _ _ a
 ·exact LU _ _ _ rfl
 ·exact Ur _ a
 ·exact Av _ a
end Nt.Ev.YtcmockbdkppglaaDoor.Lp
