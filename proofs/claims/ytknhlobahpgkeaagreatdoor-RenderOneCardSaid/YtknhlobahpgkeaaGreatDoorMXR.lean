/-
  What a source of few bytes tells is a small table: the plain law.
-/
import Derived.Test.YtknhlobahpgkeaaGreatDoorMXQ
import Derived.Test.YtknhlobahpgkeaaGreatDoorMXH
set_option linter.all false
set_option maxRecDepth 100000
namespace Nt.Fld
open Go Nt.Ev
theorem Yn (o:List (af)):(uQ o).1.length≤o.length:=by
 unfold uQ;split
 ·simp
 exact lg _
theorem Rz (op:Bool) (o:List (af)) (f:af):2*(kQ op o f).length+1=2*o.length+(if op=true then 3 else 1):=by
 cases op with
 |false=>rfl
 |true=>show 2*(o++[f]).length+1=_;rw[iH,vg,if_pos rfl];omega
theorem sD: ∀(s:af) (out:List (af)) (f:af) (op a:Bool),2*(nk s out f op a).1.length≤2*out.length+(if op=true then 2 else 1)+s.length
 |[],out,f,op,a=>by
  have g:=Rz op out f;have h:=Yn (kQ op out f)
  cases a with
  |true=>show 2*([]:List (af)).length≤_;simp
  |false=>show 2*(uQ (kQ op out f)).1.length≤_;rw[qz];split at g<;>simp_all<;>omega
 |c::t,out,f,op,a=>by
  have g:=Rz op out f;have h:=Yn (kQ op out f);have k:=sD t out f op false;have i:=sD t out (f++[c]) op true;have b:=sD t (kQ op out f) [] false false;have d:=sD t out f true true;have e:=sD t out (f++[c]) true false;rw[if_pos rfl] at d e;rw[if_neg (by decide)] at b;rw[fI];have j:1≤(if op=true then 2 else 1)∧(if op=true then 3 else 1)≤(if op=true then 2 else 1)+1∧(if op=true then 3 else 1)+1≥(if op=true then 2 else 1):=by cases op<;>decide
  generalize (if op=true then 2 else 1)=A at*;generalize (if op=true then 3 else 1)=B at*;unfold nk
  cases a with
  |true=>
   cases l:c==34 with
   |true=>exact Cr k (by omega)
   |false=>exact Cr i (by omega)
  |false=>
   cases o:c==35 with
   |true=>show 2*(uQ (kQ op out f)).1.length≤_;omega
   |false=>
    cases n:c==9 with
    |true=>exact Cr b (by omega)
    |false=>
     cases m:c==32 with
     |true=>exact Cr b (by omega)
     |false=>
      cases l:c==34 with
      |true=>exact Cr d (by omega)
      |false=>exact Cr e (by omega)
end Nt.Fld
namespace Nt.Lin
open Go Nt.Ev
def byL:List (af)→Nat
 |[]=>0
 |x::l=>x.length+1+byL l
theorem DR: ∀(s a:af),byL (tK s a)≤a.length+s.length+1
 |[],a=>by
  unfold tK
  cases a with
  |nil=>exact JS _
  |cons c t=>show(c::t).length+1+0≤_;omega
 |c::t,a=>by
  unfold tK;rw[fI]
  cases b:c==10 with
  |true=>have:=DR t [];rw[qz] at this;rw[lm];show a.length+1+byL (tK t [])≤_;omega
  |false=>have:=DR t (a++[c]);rw[iH,vg] at this;rw[jW];omega
end Nt.Lin
namespace Nt.Ev.YtknhlobahpgkeaaGreatDoor.Rr
open Go Nt Nt.Num Nt.Civil Nt.Fld Nt.Lin Go.Proofs.YtknhlobahpgkeaaGreatDoor Nt.Ev.YtknhlobahpgkeaaGreatDoor Nt.Ev.YtknhlobahpgkeaaGreatDoor.Lk
variable [kM]
noncomputable def bL:ah→Nat
 |[]=>0
 |x::xs=>(Gl x).length+1+bL xs
theorem Yo: ∀l:List (af),bL (l.map V.str)=byL l
 |[]=>rfl
 |x::l=>by show x.length+1+bL (l.map V.str)=x.length+1+byL l;rw[Yo l]
theorem bL_lin (s:af):bL (iN s)≤s.length+1:=by have h:iN s=(Gs s).map V.str:=rfl;rw[h,Yo];have:=DR s [];rw[qz] at this;exact Cr this (by omega)
noncomputable def nD:ah→Nat
 |[]=>0
 |z::l=>(Ap (ai z 1)).length+nD l
theorem BO: ∀a b:ah,nD (a++b)=nD a+nD b
 |[],b=>by show nD b=0+nD b;omega
 |z::a,b=>by show(Ap (ai z 1)).length+nD (a++b)=(Ap (ai z 1)).length+nD a+nD b;rw[BO a b];omega
theorem IK (n:af) (a:ah):nD [zV n a]=a.length:=by show a.length+0=_;omega
noncomputable def wt (t:mD):Nat:=20*t.rs.length+6*nD t.zs+6*t.ks.length
theorem aeF (s:af):2*(bY s).length≤s.length+1:=by
 have h:=sD s [] [] false false;rw[if_neg (by decide),qz] at h;have e:(bY s).length=(Nt.Fld.vo s).1.length:=by unfold bY bE;rw[kJ]
 rw[e];show 2*(nk s [] [] false false).1.length≤_;omega
theorem Yp (xs:ah):(tl1 xs).length=xs.length-1:=by
 cases xs with
 |nil=>rfl
 |cons x l=>rw[kV];rfl
theorem Yq {xs:ah} (h:kK xs=0):3≤xs.length:=by
 by_cases e:3≤xs.length
 ·exact e
 unfold kK at h;rw[ax (bH (by rw[aD];omega))] at h;cases h
theorem ruE_len {xs:ah} (h:Mx xs=0):xs.length=9:=by
 cases hB:EZ xs with
 |false=>exact absurd h (by unfold Mx;rw[hB];exact rdE_ne xs hB)
 |true=>unfold EZ at hB;rw[bC,aN,aD] at hB;omega
theorem lrE_len {xs:ah} (h:Pq xs=0):2≤xs.length:=by
 by_cases e:2≤xs.length
 ·exact e
 unfold Pq at h;rw[if_pos (by rw[aD];omega)] at h;cases h
theorem wt_step {t:mD} {k:Int} (h:yo t k) (g:0<t.op→t.zs≠[]) {s:af} (p:t.err s=0):wt (t.step (k+1) s)≤wt t+(s.length+1):=by
 obtain⟨z,y,r,j,f⟩:=h;obtain⟨l,q,o⟩:=WC p;have D:=aeF s;have B:=Yp (bY s);have l2:=Yp (tl1 (bY s));rcases l with a|⟨a,c,b⟩|⟨c,a,b⟩|⟨c,a,b⟩|⟨c,a,b⟩
 ·rw[gq a]
  show wt t≤_;omega
 ·rw[gq a]
  have d:=Yq (jO b).1;rcases f with⟨f,_⟩|⟨zs,we,n,i,w,A,C,u⟩
  ·exact absurd f (g c)
  have e:mG t.zs t.yz (bY s)=zs++[zV n (aX t.yz [qh (bY s)])]:=by
   unfold mG;rw[i,sS];have:aG (zs++[zV n t.yz]) (ay (zs++[zV n t.yz])-1)=zV n t.yz:=by rw[aD,iH,vg,show((zs.length+1:Nat):Int)-1=(zs.length:Int) from by omega,gu]
   rw[this];rfl
  show 20*t.rs.length+6*nD (mG t.zs t.yz (bY s))+6*t.ks.length≤20*t.rs.length+6*nD t.zs+6*t.ks.length+(s.length+1)
  rw[e,i,BO,BO,IK,IK];unfold aX;rw[iH,vg];omega
 ·rw[gq a]
  have d:=ruE_len (jO b).1;show 20*(aX t.rs [MG (tl1 (bY s))]).length+6*nD t.zs+6*t.ks.length≤20*t.rs.length+6*nD t.zs+6*t.ks.length+(s.length+1)
  unfold aX;rw[iH,vg];omega
 ·rw[gq a]
  obtain⟨v,E,m,x⟩:=Uw b;have d:=Yq m;show 20*t.rs.length+6*nD (t.zs++[zV (aH (ai (aG (tl1 (bY s)) 0) 0)) [qh (tl1 (tl1 (bY s)))]])+6*t.ks.length≤20*t.rs.length+6*nD t.zs+6*t.ks.length+(s.length+1)
  rw[BO,IK,vg];omega
 rw[gq a];have d:=lrE_len (jO b).1;show 20*t.rs.length+6*nD t.zs+6*(aX t.ks [Te (tl1 (bY s))]).length≤20*t.rs.length+6*nD t.zs+6*t.ks.length+(s.length+1)
 unfold aX;rw[iH,vg];omega
theorem Yr: ∀(xs:ah) (k:Int) (t:mD),0≤k→Good t→yo t k→(iI xs k t).2.2=0→wt (iI xs k t).1≤wt t+bL xs
 |[],k,t,_,_,h,_=>Nat.le_add_right _ _
 |x::xs,k,t,f,d,h,c=>by
  by_cases e:t.err (Gl x)=0
  ·rw[iF e] at c⊢
   have a:=Yr xs (k+1) _ (by omega) (d.step e) (h.step f d.nz e) c;have b:=wt_step h d.nz e;show _≤wt t+((Gl x).length+1+bL xs)
   omega
  rw[kg e] at c;exact absurd c e
theorem al_few (s:af) (d:s.length≤8000) (h:(oV s).2.2=0):20*(oV s).1.rs.length+6*nD (oV s).1.zs+6*(oV s).1.ks.length≤8001:=by have a:=Yr (iN s) 0 r0 (by omega) xk Ro h;have b:=bL_lin s;have c:wt r0=0:=rfl;exact Cr a (by omega)
noncomputable abbrev bQ:V→ah:=Rx.bQ
noncomputable abbrev TL (x y z:V):Bool:=Rx.TL x y z
noncomputable abbrev YE (x y z:ah):Bool:=Rx.YE x y z
noncomputable abbrev Kw (x y z:ah):Bool:=Rx.Kw x y z
noncomputable abbrev Tj (x y z:ah):af:=Rx.Tj x y z
noncomputable abbrev E5 (x y z:ah):Int:=Rx.E5 x y z
noncomputable def sm3 (x y z b c a:V):Bool:=ak (ak (Rx.JN x y z) (Rx.JN b c a)) (ak (av (ay (bQ x)) 2000) (ak (Rx.e12 (bQ y)) (av (ay (bQ z)) 2000)))
noncomputable def eq3 (x y z b c a:ah):Bool:=ak (Rx.J4 x b) (ak (Rx.Gv y c) (Rx.MS z a))
def zNs:Int→ah→ah
 |_,[]=>[]
 |k,z::l=>V.sl 3 kI none (nums k (Ap (ai z 1)).length)::zNs (k+((Ap (ai z 1)).length:Int)) l
def zTot:Int→ah→Int
 |k,[]=>k
 |k,z::l=>zTot (k+((Ap (ai z 1)).length:Int)) l
def plR (xs:ah):ah:=nums 0 xs.length
def plZ (xs zs:ah):ah:=zNs (xs.length:Int) zs
def plL (xs zs a:ah):ah:=nums (zTot (xs.length:Int) zs) a.length
noncomputable def bTxS:aC:=fun a=>match a with|[.agg [x,y,z]]=>some (TL x y z,.tup [.str (Tj (bQ x) (bQ y) (bQ z)),.int .i64 (E5 (bQ x) (bQ y) (bQ z))])|_=>none
noncomputable def bRgS:aC:=fun a=>match a with|[.agg [x,y,z]]=>some (TL x y z,.bool (Kw (bQ x) (bQ y) (bQ z)))|_=>none
noncomputable def bSmS:aC:=fun a=>match a with|[.agg [x,y,z],.agg [x2,y2,z2]]=>some (sm3 x y z x2 y2 z2,.bool (eq3 (bQ x) (bQ y) (bQ z) (bQ x2) (bQ y2) (bQ z2)))|_=>none
noncomputable def bLvS:aC:=fun a=>match a with|[]=>some (true,.bool true)|_=>none
theorem eRx {f:Nat} {args:ah} {r:V} (h:aj Rx.rE f args r):aj eE f args r:=h
theorem bTxS_ok (x y z:V) (a:TL x y z=true):aj eE 7 [.agg [x,y,z]] (.tup [.str (Rx.Tj (bQ x) (bQ y) (bQ z)),.int .i64 (Rx.E5 (bQ x) (bQ y) (bQ z))]):=eRx (Rx.Yh x y z a)
theorem bRgS_ok (x y z:V) (a:TL x y z=true):aj eE 10 [.agg [x,y,z]] (.bool (Rx.Kw (bQ x) (bQ y) (bQ z))):=eRx (Rx.Yi x y z a)
theorem bSmS_ok (x y z a c b:V) (d:sm3 x y z a c b=true):aj eE 8 [.agg [x,y,z],.agg [a,c,b]] (.bool (eq3 (bQ x) (bQ y) (bQ z) (bQ a) (bQ c) (bQ b))):=eRx (Rx.Ym x y z a c b d)
abbrev Al (x:V):V:=.agg [.int .i64 (asInt (ai x 0)),.int .i64 (asInt (ai x 1)),.int .i64 (asInt (ai x 2)),.str (aH (ai x 3)),.str (aH (ai x 4)),.bool (asBool (ai x 5)),.int .i64 (asInt (ai x 6)),.int .i64 (asInt (ai x 7)),.int .i64 (asInt (ai x 8)),.int .i64 (asInt (ai x 9)),.int .i64 (asInt (ai x 10)),.int .i64 (asInt (ai x 11)),.int .i64 (asInt (ai x 12))]
abbrev MH (x:V):V:=.agg [.str (aH (ai x 0)),.str (aH (ai x 1))]
abbrev DZ (z:V):af:=aH (ai z 0)
abbrev lQ (z:V):ah:=Ap (ai z 1)
noncomputable def MI (z:V):V:=zV (DZ z) ((lQ z).map Al)
noncomputable def fvX (x:V):ah:=efV (asInt (ai x 0)) (asInt (ai x 1)) (asInt (ai x 2)) (aH (ai x 3)) (aH (ai x 4)) (asBool (ai x 5)) (asInt (ai x 6)) (asInt (ai x 7)) (asInt (ai x 8)) (asInt (ai x 9)) (asInt (ai x 10)) (asInt (ai x 11)) (asInt (ai x 12))
noncomputable def z0S (n:af) (x:V):af:=dU (dU (dU [90,111,110,101,32] n) [32]) (tF (fvX x))
noncomputable def z1S (x:V):af:=dU (dU [] [32]) (tF (fvX x))
noncomputable def je (z:V):Zn:=match lQ z with
 |[]=>⟨DZ z,[],.any,[]⟩
 |e::r=>⟨DZ z,z0S (DZ z) e,Al e,r.map fun x=>(z1S x,Al x)⟩
theorem F6 (f:V→af) (l:ah): ∀(d a:ah),a++d=l→Rx.cT f l d.length a.length=(d.map f).flatten
 |[],a,_=>rfl
 |x::d,a,h=>by
  have c:aG l (a.length:Int)=x:=by rw[eX,←h,mg,abk (by omega),Yz];rfl
  have b:=F6 f l d (a++[x]) (by rw[←h];simp);rw[iH] at b;show f (aG l (a.length:Int))++Rx.cT f l d.length (a.length+1)=_;rw[c,qA,abO];exact congrArg _ b
theorem Yt (n:af) (l:ah): ∀(d a:ah),a++d=l→a≠[]→Rx.eT n l d.length a.length=(d.map fun x=>z1S x++[10]).flatten
 |[],a,_,_=>rfl
 |x::d,a,h,f=>by
  have g:aG l (a.length:Int)=x:=by rw[eX,←h,mg,abk (by omega),Yz];rfl
  have b:=Yt n l d (a++[x]) (by rw[←h];simp) (by simp);rw[iH] at b;have c:a.length≠0:=fun e=>f (Yv e)
  show Rx.ve (Rx.Ak n a.length) (Rx.ou (aG l (a.length:Int)))++Rx.eT n l d.length (a.length+1)=_;rw[g,qA,abO];have e:Rx.ve (Rx.Ak n a.length) (Rx.ou x)=z1S x++[10]:=by unfold Rx.ve Rx.Ak;rw[if_neg c];rfl
  rw[e];exact congrArg _ b
theorem C8 (l:List (af)):xO l=(l.map fun x=>x++[10]).flatten:=rfl
theorem Oz (a b:List (af)):xO (a++b)=xO a++xO b:=by rw[C8,C8,C8,aci,List.flatten_append]
theorem tZ_lines (z:V) (h:lQ z≠[]):Rx.tZ z=xO (je z).lines:=by
 show Rx.eT (DZ z) (lQ z) (lQ z).length 0=_;unfold je
 cases a:lQ z with
 |nil=>exact absurd a h
 |cons e r=>have:=Yt (DZ z) (e::r) r [e] rfl (by simp);show Rx.ve (Rx.Ak (DZ z) 0) (Rx.ou e)++Rx.eT (DZ z) (e::r) r.length 1=xO (z0S (DZ z) e::(r.map fun x=>(z1S x,Al x)).map (·.1));rw[show Rx.eT (DZ z) (e::r) r.length 1=_ from this,C8,qA,abO,Fy,Fy];rfl
theorem RA: ∀(l:List (List (af))),xO l.flatten=(l.map xO).flatten
 |[]=>rfl
 |x::l=>by rw[abO,Oz,RA l];rfl
noncomputable def q9 (xs zs a:ah):List (af):=xs.map Ar++(ji (zs.map je)++a.map zk)
theorem tx_lines (xs zs a:ah) (i: ∀z∈zs,lQ z≠[]):Rx.txA xs zs a=xO (q9 xs zs a):=by
 unfold Rx.txA q9;rw[Oz,Oz];have d:=F6 Rx.tR xs xs [] rfl;have g:=F6 Rx.tZ zs zs [] rfl;have e:=F6 Rx.tL a a [] rfl;rw[show Rx.cT Rx.tR xs xs.length 0=_ from d,show Rx.cT Rx.tZ zs zs.length 0=_ from g,show Rx.cT Rx.tL a a.length 0=_ from e];have b:(xs.map Rx.tR).flatten=xO (xs.map Ar):=by rw[C8,Fy];rfl
 have f:(a.map Rx.tL).flatten=xO (a.map zk):=by rw[C8,Fy];rfl
 have c:(zs.map Rx.tZ).flatten=xO (ji (zs.map je)):=by
  unfold ji;rw[RA,Fy,Fy];congr 1;exact abe (fun z h=>tZ_lines z (i z h))
 rw[b,c,f]
structure Rgt (xs zs ls:ah):Prop where
 r: ∀x∈xs,TU x=true
 l: ∀x∈ls,rgtL x=true
 n: ∀z∈zs,dG (DZ z)=0
 e: ∀z∈zs,lQ z≠[]
 h: ∀z∈zs,∀i,i<(lQ z).length→AJ (aG (lQ z) (i:Int))=true∧vB (aG (lQ z) (i:Int))=decide (i+1<(lQ z).length)
theorem zB_get (b:ah) (a:Int): ∀(k i:Nat),Rx.zB b a k i=true→ ∀j,i≤j→j<i+k→Rx.Ti (aG b (j:Int))=true∧asBool (ai (aG b (j:Int)) 5)=aW (j:Int) a
 |0,i,_,j,d,c=>by omega
 |k+1,i,h,j,d,c=>by
  have h:((Rx.Ti (aG b (i:Int))&&beq (asBool (ai (aG b (i:Int)) 5)) (aW (i:Int) a))&&Rx.zB b a k (i+1))=true:=h;rw[bC,bC] at h;by_cases e:j=i
  ·subst e
   exact⟨h.1.1,(beq_iff _ _).mp h.1.2⟩
  exact zB_get b a k (i+1) h.2 j (by omega) (by omega)
theorem rgt_of {xs zs f:ah} (h:Rx.Kw xs zs f=true):Rgt xs zs f:=by
 unfold Rx.Kw at h;rw[bC,bC] at h;obtain⟨k,g,j⟩:=h;have l: ∀z∈zs,Rx.zP z=true:=Rx.IJ g;have d: ∀z∈zs,dG (DZ z)=0∧Rx.zB (lQ z) (((lQ z).length:Int)-1) (lQ z).length 0=true∧0<(lQ z).length:=by intro z c;have:=l z c;unfold Rx.zP Rx.zoB at this;rw[bC,bC,aN,bq,aD] at this;exact⟨this.1,this.2.1,by have:(0:Int)<((lQ z).length:Int):=this.2.2;omega⟩
 refine⟨Rx.IJ k,Rx.IJ j,fun z c=>(d z c).1,fun z c e=>?_,fun z c i m=>?_⟩
 ·have:=(d z c).2.2
  rw[e] at this;cases this
 obtain⟨a,b⟩:=zB_get _ _ _ 0 (d z c).2.1 i (by omega) (by omega);refine⟨a,b.trans ?_⟩;unfold aW;exact decide_eq_decide.2 (by omega)
theorem eraX {x:V} (h:AJ x=true): ∃a:List (af),a≠[]∧fvX x=a.map V.str∧(∀y∈a,Gd y)∧a.length≤7∧Pr (dZ a).1∧(dZ a).1.length≤430∧kK (a.map V.str)=0∧qh (a.map V.str)=Al x:=(era_line (asInt (ai x 0)) (asInt (ai x 1)) (asInt (ai x 2)) (aH (ai x 3)) (aH (ai x 4)) (asBool (ai x 5)) (asInt (ai x 6)) (asInt (ai x 7)) (asInt (ai x 8)) (asInt (ai x 9)) (asInt (ai x 10)) (asInt (ai x 11)) (asInt (ai x 12)) h).1
theorem z1_ok {x:V} (h:AJ x=true):EraL (z1S x) (Al x)∧Fe (z1S x):=by
 obtain⟨c,d,i,e,k,g,l,j,f⟩:=eraX h;have b:z1S x=[32]++(dZ c).1:=by unfold z1S;rw[i,(GI _).1];rfl
 have a:Fe (z1S x):=by rw[b];refine⟨mH (by decide) g,?_⟩;simp only[iH,fI,qz];omega
 exact⟨⟨c,d,by rw[b];exact O7 d (by omega) e,FV _ a.1 a.2,j,f⟩,a⟩
theorem z0_ok {n:af} {x:V} (c:dG n=0) (h:AJ x=true):ZoneL n (z0S n x) (Al x)∧Fe (z0S n x):=by
 obtain⟨b,f,k,g,o,j,l,e,i⟩:=eraX h;obtain⟨_,_,_,_,_,g1,m⟩:=Ns c;have d:z0S n x=Ef++([32]++n)++([32]++(dZ b).1):=by unfold z0S;rw[k,(GI _).1];show(([90,111,110,101,32]++n)++[32])++(dZ b).1=_;rw[DX];rfl
 have a:Fe (z0S n x):=by rw[d];refine⟨mH (mH (by decide) (mH (by decide) (gd_pr g1))) (mH (by decide) j),?_⟩;simp only[iH,fI,qz];omega
 exact⟨⟨b,by rw[d];exact of_zone c f (by omega) g,FV _ a.1 a.2,c,e,i⟩,a⟩
theorem zn_ok {xs zs u:ah} (h:Rgt xs zs u) (w: ∀z∈zs,(lQ z).length≤256) {z:V} (f:z∈zs):(je z).ok∧(je z).v=MI z∧(je z).lines.length=(lQ z).length∧ ∀s∈(je z).lines,Fe s:=by
 have o:=h.n z f;have j:=h.h z f;have l:=w z f;have y:=h.e z f;unfold MI;unfold je
 cases q:lQ z with
 |nil=>exact absurd q y
 |cons e r=>
  rw[q] at j l;rw[fI] at l;have a:=j 0 (by simp);have k: ∀i (b:i<r.length),AJ r[i]=true∧vB r[i]=decide (i+1<r.length):=by
   intro i b;have:=j (i+1) (by rw[fI];omega);have g:aG (e::r) ((i+1:Nat):Int)=r[i]:=by rw[eX,mg,abB,iZ b];rfl
   rw[g] at this;refine⟨this.1,this.2.trans (decide_eq_decide.2 (by rw[fI];omega))⟩
  have m: ∀x∈r,AJ x=true:=by intro x d;obtain⟨i,b,rfl⟩:=List.mem_iff_getElem.1 d;exact(k i b).1
  refine⟨⟨(z0_ok o a.1).1,?_,by simp only[kJ];omega,?_,?_⟩,?_,by simp[Zn.lines],?_⟩
  ·intro p t
   obtain⟨x,d,rfl⟩:=List.mem_map.1 t;exact(z1_ok (m x d)).1
  ·show vB e=_
   rw[show vB e=vB (aG (e::r) ((0:Nat):Int)) from rfl,a.2];simp only[kJ,fI];exact decide_eq_decide.2 (by omega)
  ·intro i b
   rw[kJ] at b;have:=(k i b).2;simp only[acn,kJ];exact this
  ·show zV (DZ z) (Al e::(r.map fun x=>(z1S x,Al x)).map (·.2))=zV (DZ z) ((e::r).map Al)
   rw[Fy];rfl
  intro s c;have c:s∈z0S (DZ z) e::(r.map fun x=>(z1S x,Al x)).map (·.1):=c;rw[Yy,Fy] at c;rcases c with rfl|c
  ·exact(z0_ok o a.1).2
  obtain⟨x,d,rfl⟩:=List.mem_map.1 c;exact(z1_ok (m x d)).2
theorem RB: ∀(zs:ah) (k:Int),(∀z∈zs,(je z).lines.length=(lQ z).length)→AV k (zs.map je)=zNs k zs∧k+((ji (zs.map je)).length:Int)=zTot k zs
 |[],k,_=>⟨rfl,by show k+0=k;omega⟩
 |z::l,k,h=>by
  obtain⟨a,b⟩:=RB l (k+((lQ z).length:Int)) (fun y d=>h y (wN _ d));have c:=h z uY;constructor
  ·show V.sl _ kI none (nums k (je z).lines.length)::AV (k+((je z).lines.length:Int)) (l.map je)=_
   rw[c,a];rfl
  show k+(((je z).lines++(((l.map je).map Zn.lines).flatten)).length:Int)=zTot (k+((lQ z).length:Int)) l;rw[←b,iH,c];show _=k+((lQ z).length:Int)+((((l.map je).map Zn.lines).flatten).length:Int)
  omega
theorem src_read {xs zs c:ah} (h:Rgt xs zs c) (i:xs.length≤4096) (H:zs.length≤1024) (o:c.length≤1024) (E: ∀z∈zs,(lQ z).length≤256) (I:xs.length+nD zs+c.length≤2000):
  Gm (xO (q9 xs zs c))=0∧JN (xO (q9 xs zs c))=0∧qZ (xO (q9 xs zs c))=xs.map Ps∧qy (xO (q9 xs zs c))=zs.map MI∧q8 (xO (q9 xs zs c))=c.map MH∧YW (xO (q9 xs zs c))=plR xs∧YX (xO (q9 xs zs c))=plZ xs zs∧YY (xO (q9 xs zs c))=plL xs zs c:=by
 have d: ∀z∈zs,(je z).ok∧(je z).v=MI z∧(je z).lines.length=(lQ z).length∧ ∀s∈(je z).lines,Fe s:=fun z g=>zn_ok h E g
 obtain⟨n1,G⟩:=RB zs (xs.length:Int) (fun z g=>(d z g).2.2.1);have n: ∀(l:ah),(∀z∈l,(je z).lines.length=(lQ z).length)→(ji (l.map je)).length=nD l:=by
  intro l;induction l with
  |nil=>intro _;rfl
  |cons z l F=>intro A;have a:=A z uY;have b:=F (fun y t=>A y (wN _ t));show((je z).lines++ji (l.map je)).length=(lQ z).length+nD l;rw[iH];omega
 have D:=n zs (fun z g=>(d z g).2.2.1);have j: ∀s∈q9 xs zs c,Fe s:=by
  intro s f;unfold q9 ji at f;rw[aby,aby] at f;rcases f with f|f|f
  ·obtain⟨x,i,rfl⟩:=List.mem_map.1 f
   exact(rlS_ok (h.r x i)).2.1
  ·obtain⟨l,o,f⟩:=List.mem_flatten.1 f
   rw[Fy] at o;obtain⟨z,g,rfl⟩:=List.mem_map.1 o;exact(d z g).2.2.2 s f
  obtain⟨x,i,rfl⟩:=List.mem_map.1 f;exact(lkS_ok (h.l x i)).2.1
 have w:(xO (q9 xs zs c)).length≤1048576:=by
  have:=X8 _ j;have e:(q9 xs zs c).length=xs.length+((ji (zs.map je)).length+c.length):=by unfold q9;rw[iH,iH,kJ,kJ]
  omega
 have k:=Mq (xs.map fun x=>(Ar x,Ps x)) 0 r0 (by intro p m;obtain⟨x,i,rfl⟩:=List.mem_map.1 m;exact(rlS_ok (h.r x i)).1) (by decide) (by rw[kJ];show 0+_≤_;omega);rw[Fy,Fy,kJ] at k;obtain⟨iz,yz,ie,ye,B⟩:=Ms (zs.map je) (0+(xs.length:Int)) {r0 with rs:=r0.rs++xs.map (Prod.snd ∘ fun x=>(Ar x,Ps x)),wr:=r0.wr++nums 0 xs.length} (by omega) (by intro z g;obtain⟨y,t,rfl⟩:=List.mem_map.1 g;exact(d y t).1) rfl (by rw[kJ];show 0+_≤_;omega);have u:=Mr (c.map fun x=>(zk x,MH x)) (0+(xs.length:Int)+((ji (zs.map je)).length:Int)) {r0 with rs:=r0.rs++xs.map (Prod.snd ∘ fun x=>(Ar x,Ps x)),wr:=r0.wr++nums 0 xs.length,zs:=r0.zs++(zs.map je).map Zn.v,we:=r0.we++AV (0+(xs.length:Int)) (zs.map je),iz:=iz,yz:=yz,ie:=ie,ye:=ye,op:=0} (by intro p m;obtain⟨x,i,rfl⟩:=List.mem_map.1 m;exact(lkS_ok (h.l x i)).1) (show¬(0:Int)<0 by decide) (by rw[kJ];show 0+_≤_;omega)
 rw[show(c.map fun x=>(zk x,MH x)).map (fun p=>V.str p.1)=c.map ((fun p=>V.str p.1) ∘ fun x=>(zk x,MH x)) from Fy,show(c.map fun x=>(zk x,MH x)).map (·.2)=c.map (Prod.snd ∘ fun x=>(zk x,MH x)) from Fy,show(c.map fun x=>(zk x,MH x)).length=c.length from kJ _] at u;have C:(q9 xs zs c).map V.str=xs.map ((fun p=>V.str p.1) ∘ fun x=>(Ar x,Ps x))++((ji (zs.map je)).map V.str++c.map ((fun p=>V.str p.1) ∘ fun x=>(zk x,MH x))):=by unfold q9;rw[aci,aci,Fy,Fy];rfl
 have q:oV (xO (q9 xs zs c))=({r0 with rs:=r0.rs++xs.map (Prod.snd ∘ fun x=>(Ar x,Ps x)),wr:=r0.wr++nums 0 xs.length,zs:=r0.zs++(zs.map je).map Zn.v,we:=r0.we++AV (0+(xs.length:Int)) (zs.map je),iz:=iz,yz:=yz,ie:=ie,ye:=ye,op:=0,ks:=r0.ks++c.map (Prod.snd ∘ fun x=>(zk x,MH x)),wl:=r0.wl++nums (0+(xs.length:Int)+((ji (zs.map je)).length:Int)) c.length},0+(xs.length:Int)+((ji (zs.map je)).length:Int)+(c.length:Int),0):=by show iI ((Gs (xO (q9 xs zs c))).map V.str) 0 r0=_;rw[Rf _ (fun x i=>pr_ten (j x i).1),C,Bg _ _ _ _ (by rw[k]),k];show iI _ (0+(xs.length:Int)) _=_;rw[Bg _ _ _ _ (by rw[B]),B];exact u
 have hE:Gm (xO (q9 xs zs c))=0:=by unfold Gm;rw[if_neg (by omega)];show MO (oV _)=0;rw[q];rfl
 refine⟨hE,?_,?_,?_,?_,?_,?_,?_⟩
 ·unfold JN
  rw[if_neg (by omega),if_pos];unfold Gm at hE;rw[if_neg (by omega)] at hE;exact hE
 ·unfold qZ MP;rw[if_pos hE,q];exact Fx _
 ·unfold qy MQ;rw[if_pos hE,q]
  show[]++(zs.map je).map Zn.v=_;rw[Fx,Fy];exact abe (fun z g=>(d z g).2.1)
 ·unfold q8 MR;rw[if_pos hE,q];exact Fx _
 ·unfold YW PR;rw[if_pos hE,q];exact Fx _
 ·unfold YX PS;rw[if_pos hE,q]
  show[]++AV (0+(xs.length:Int)) (zs.map je)=_;rw[Fx,Int.zero_add];exact n1
 unfold YY PT;rw[if_pos hE,q];show[]++nums (0+(xs.length:Int)+((ji (zs.map je)).length:Int)) c.length=_;rw[Fx,Int.zero_add,G];rfl
theorem get_map (g:V→V) (l:ah) {i:Nat} (h:i<l.length):aG (l.map g) (i:Int)=g (aG l (i:Int)):=by rw[eX,eX,mg,mg,sW,iZ h];rfl
theorem NA (f:V→af) (g:V→V) (a: ∀x,f (g x)=f x) (l:ah): ∀(k i:Nat),i+k≤l.length→Rx.cT f (l.map g) k i=Rx.cT f l k i
 |0,_,_=>rfl
 |k+1,i,h=>by show f (aG (l.map g) (i:Int))++_=f (aG l (i:Int))++_;rw[NA f g a l k (i+1) (by omega),get_map g l (by omega),a]
theorem BP (p:V→Bool) (g:V→V) (a: ∀x,p (g x)=p x) (l:ah): ∀(k i:Nat),i+k≤l.length→Rx.allI p (l.map g) k i=Rx.allI p l k i
 |0,_,_=>rfl
 |k+1,i,h=>by
  show(p (aG (l.map g) (i:Int))&&_)=(p (aG l (i:Int))&&_)
  rw[BP p g a l k (i+1) (by omega),get_map g l (by omega),a]
theorem zB_map (l:ah) (a:Int): ∀(k i:Nat),i+k≤l.length→Rx.zB (l.map Al) a k i=Rx.zB l a k i
 |0,_,_=>rfl
 |k+1,i,h=>by
  show((Rx.Ti (aG (l.map Al) (i:Int))&&beq (asBool (ai (aG (l.map Al) (i:Int)) 5)) (aW (i:Int) a))&&_)=((Rx.Ti (aG l (i:Int))&&beq (asBool (ai (aG l (i:Int)) 5)) (aW (i:Int) a))&&_)
  rw[zB_map l a k (i+1) (by omega),get_map Al l (by omega)];rfl
theorem eT_map (n:af) (l:ah): ∀(k i:Nat),i+k≤l.length→Rx.eT n (l.map Al) k i=Rx.eT n l k i
 |0,_,_=>rfl
 |k+1,i,h=>by show Rx.ve (Rx.Ak n i) (Rx.ou (aG (l.map Al) (i:Int)))++_=Rx.ve (Rx.Ak n i) (Rx.ou (aG l (i:Int)))++_;rw[eT_map n l k (i+1) (by omega),get_map Al l (by omega)];rfl
theorem tZ_agZ (z:V):Rx.tZ (MI z)=Rx.tZ z:=by show Rx.eT (DZ z) ((lQ z).map Al) ((lQ z).map Al).length 0=Rx.eT (DZ z) (lQ z) (lQ z).length 0;rw[kJ,eT_map _ _ _ _ (by omega)]
theorem zP_agZ (z:V):Rx.zP (MI z)=Rx.zP z:=by
 show(ieq (dG (DZ z)) 0&&(Rx.zB ((lQ z).map Al) ((((lQ z).map Al).length:Int)-1) ((lQ z).map Al).length 0&&aW 0 (ay ((lQ z).map Al))))=(ieq (dG (DZ z)) 0&&(Rx.zB (lQ z) (((lQ z).length:Int)-1) (lQ z).length 0&&aW 0 (ay (lQ z))))
 rw[kJ,zB_map _ _ _ _ (by omega),aD,aD,kJ]
theorem rgT_map (xs zs a:ah):Rx.Kw (xs.map Ps) (zs.map MI) (a.map MH)=Rx.Kw xs zs a:=by unfold Rx.Kw;rw[kJ,kJ,kJ,BP Rx.rrR Ps (fun _=>rfl) xs _ _ (by omega),BP Rx.zP MI zP_agZ zs _ _ (by omega),BP Rx.rrL MH (fun _=>rfl) a _ _ (by omega)]
theorem txT_map (xs zs a:ah):Rx.Tj (xs.map Ps) (zs.map MI) (a.map MH)=Rx.Tj xs zs a∧Rx.E5 (xs.map Ps) (zs.map MI) (a.map MH)=Rx.E5 xs zs a:=by unfold Rx.Tj Rx.E5;rw[rgT_map];unfold Rx.txA;rw[kJ,kJ,kJ,NA Rx.tR Ps (fun _=>rfl) xs _ _ (by omega),NA Rx.tZ MI tZ_agZ zs _ _ (by omega),NA Rx.tL MH (fun _=>rfl) a _ _ (by omega)];exact⟨rfl,rfl⟩
theorem gZ_agZ (z:V):Rx.gZ (MI z)=Rx.gZ z:=by show ak (av (aA (DZ z)) 900) (ak (av (ay ((lQ z).map Al)) 256) (((lQ z).map Al).all Rx.gE))=ak (av (aA (DZ z)) 900) (ak (av (ay (lQ z)) 256) ((lQ z).all Rx.gE));rw[aD,aD,kJ,List.all_map];rfl
theorem Yu (zs:ah): ∀(k i:Nat),i+k≤zs.length→Rx.rD (zs.map MI) k i=Rx.rD zs k i
 |0,_,_=>rfl
 |k+1,i,h=>by rw[Rx.wu,Rx.wu,Yu zs k (i+1) (by omega),get_map MI zs (by omega)];show((lQ (aG zs (i:Int))).map Al).length+_=_;rw[kJ];rfl
theorem rgK_map (xs zs a:ah):Rx.YE (xs.map Ps) (zs.map MI) (a.map MH)=Rx.YE xs zs a:=by unfold Rx.YE;rw[aD,aD,aD,aD,aD,aD,kJ,kJ,kJ,Yu zs _ _ (by omega),List.all_map,List.all_map,show(Rx.gR ∘ Ps)=Rx.gR from rfl,show(Rx.gZ ∘ MI)=Rx.gZ from funext gZ_agZ]
theorem RD (p:V→V→Bool) (g:V→V) (a: ∀x,p x (g x)=true) (l:ah): ∀(k i:Nat),i+k≤l.length→Rx.all2 p l (l.map g) k i=true
 |0,_,_=>rfl
 |k+1,i,h=>by show(p (aG l (i:Int)) (aG (l.map g) (i:Int))&&_)=true;rw[RD p g a l k (i+1) (by omega),get_map g l (by omega),a];rfl
theorem F7 (p:V→V→Bool) (g:V→V) (a: ∀x,p x (g x)=true) (l:ah):Rx.eqs p l (l.map g)=true:=by unfold Rx.eqs;rw[RD p g a l _ _ (by omega),bn (by rw[aD,aD,kJ])];rfl
theorem sU (a:af):seq a a=true:=by rw[cK]
theorem eqR_ag (x:V):Rx.eqR x (Ps x)=true:=by unfold Rx.eqR;show ak (seq (aH (ai x 0)) (aH (ai x 0))) _=true;simp only[ai,Ps,abQ,acv,aH,asInt,IG,sU,gB]
theorem eqE_ag (x:V):Rx.eqE x (Al x)=true:=by unfold Rx.eqE;simp only[ai,Al,abQ,acv,aH,asInt,asBool,IG,sU,gb,gB]
theorem eqL_ag (x:V):Rx.Y3 x (MH x)=true:=by unfold Rx.Y3;simp only[ai,MH,abQ,acv,aH,sU,gB]
theorem eqZ_ag (z:V):Rx.eqZ z (MI z)=true:=by unfold Rx.eqZ;show ak (seq (DZ z) (DZ z)) (Rx.eqs Rx.eqE (lQ z) ((lQ z).map Al))=true;rw[sU,F7 _ _ eqE_ag];rfl
theorem eq3_ag (xs zs a:ah):eq3 xs zs a (xs.map Ps) (zs.map MI) (a.map MH)=true:=by unfold eq3 Rx.J4 Rx.Gv Rx.MS;rw[F7 _ _ eqR_ag,F7 _ _ eqZ_ag,F7 _ _ eqL_ag];rfl
theorem tb_sl (a b c:ah):Rx.JN (V.sl 50 kR none a) (V.sl 54 kZ none b) (V.sl 56 kL none c)=true:=by rfl
noncomputable def bO0:List (Nat×aC):=(7,bTxS)::(10,bRgS)::(8,bSmS)::(6,lTbS)::[]
noncomputable def bO1:List (Nat×aC):=(4,bLvS)::bO0
theorem b31O_top (F s) (K:V→Option V):
 bA eE (bu eE bO1 F 3) F 3 [V.str s] K=
 let A:=Tj (qZ s) (qy s) (q8 s);let B:=K (V.bool false);let C:=V.sl 50 kR none (qZ s);let D:=V.sl 54 kZ none (qy s);let E:=V.sl 56 kL none (q8 s);let J:=K (V.bool true);let G:=V.sl 50 kR none (qZ A);let H:=V.sl 54 kZ none (qy A);let I:=V.sl 56 kL none (q8 A);sel (aL (av (aA s) 8000)) J (sel (aL (ieq (Gm s) 0)) J (sel (TL C D E) (sel (TL G H I) (sel (ieq (E5 (qZ s) (qy s) (q8 s)) 0) (sel (ak (ieq (JN A) 0) (ieq (Gm A) 0)) (sel (sm3 C D E G H I) (sel (eq3 (qZ s) (qy s) (q8 s) (qZ A) (qy A) (q8 A)) (sel (ieq (E5 (qZ A) (qy A) (q8 A)) 0) (K (V.bool (seq (Tj (qZ A) (qy A) (q8 A)) A))) B) B) none) B) B) none) none)):=by kernel_rfl
theorem bLvS_ok (a:true=true):aj eE 4 [] (.bool true):=eRx Rx.lives_ev
theorem bO0_ok:bf eE bO0:=by
 unfold bO0;refine bf.cons (fun args r h=>?_) (bf.cons (fun args r h=>?_) (bf.cons (fun args r h=>?_) (bf.cons (fun args r h=>?_) bf.nil)));all_goals (revert h;intro h;first|unfold bTxS at h|unfold bRgS at h|unfold bSmS at h|unfold lTbS at h)
 all_goals (split at h;rotate_left; · cases h)
 all_goals (simp only[aR,bM] at h;obtain⟨a,rfl⟩:=h)
 ·exact bTxS_ok _ _ _ a
 ·exact bRgS_ok _ _ _ a
 ·exact bSmS_ok _ _ _ _ _ _ a
 exact lTbS_ok _ rfl
theorem bO1_ok:bf eE bO1:=by
 unfold bO1;refine bf.cons (fun args r h=>?_) bO0_ok;all_goals (revert h;intro h;first|unfold bLvS at h)
 all_goals (split at h;rotate_left; · cases h)
 all_goals (simp only[aR,bM] at h;obtain⟨a,rfl⟩:=h)
 ·exact bLvS_ok rfl
theorem l9' {s:af} {k:Nat} (h:s.length≤k) (a:k≤900):av (aA s) 900=true:=bg (by rw[aI];omega)
theorem ft' {a:Int} (b: -1000000≤a) (c:a≤1000000):ak (av (-9223372036854775808) a) (av a 9223372036854775807)=true:=by rw[aM,aB,aB];omega
theorem gR_of {x:V} (h:TU x=true):Rx.gR x=true:=by unfold TU at h;rw[FK] at h;obtain⟨c,e,a,f,g,b⟩:=h;have n1:=oh _ c;have d:=(Oa _ b).2;unfold oQ at a;rw[bC,lG] at a;unfold Rx.gR;exact Rx.bd (Rx.bd (l9' n1 (by decide)) (l9' d (by decide))) (Rx.bd (ft' (by omega) (by omega)) (ft' (by omega) (by omega)))
theorem gE_of {x:V} (h:AJ x=true):Rx.gE x=true:=by
 unfold AJ at h;rw[FP] at h;obtain⟨⟨q,p⟩,k,hE,b⟩:=h;have l:=FN _ k;have j:(aH (ai x 3)).length≤64∧-10800≤asInt (ai x 2)∧asInt (ai x 2)≤10800:=by
  cases d:ieq (asInt (ai x 1)) 0 with
  |true=>rw[d] at b;have a:(ieq (asInt (ai x 2)) 0&&seq (aH (ai x 3)) [])=true:=b;rw[bC,aN,cK] at a;rw[a.2,a.1];decide
  |false=>
  cases g:ieq (asInt (ai x 1)) 1 with
  |true=>rw[d,g] at b;have a:(av (-10800) (asInt (ai x 2))&&(av (asInt (ai x 2)) 10800&&seq (aH (ai x 3)) []))=true:=b;rw[bC,bC,aB,aB,cK] at a;rw[a.2.2];exact⟨by decide,a.1,a.2.1⟩
  |false=>
   rw[d,g] at b
   cases i:ieq (asInt (ai x 1)) 2 with
   |false=>rw[i] at b;exact absurd (show false=true from b) (by decide)
   |true=>rw[i] at b;have a:(ieq (asInt (ai x 2)) 0&&ieq (dG (aH (ai x 3))) 0)=true:=b;rw[bC,aN,aN] at a;rw[a.1];exact⟨oh _ a.2,by decide,by decide⟩
 have c:(-1000000≤asInt (ai x 6)∧asInt (ai x 6)≤1000000)∧-1000000≤asInt (ai x 7)∧asInt (ai x 7)≤1000000:=by
  cases f:asBool (ai x 5) with
  |true=>rw[f,Bf] at hE;obtain⟨⟨n,m⟩,e,o⟩:=hE;unfold oQ at e;rw[bC,lG] at e;omega
  |false=>rw[f] at hE;have hE:ak (ieq (asInt (ai x 6)) 0) (ak (ieq (asInt (ai x 7)) 0) (ak (ak (ieq (asInt (ai x 8)) 0) (ak (ieq (asInt (ai x 9)) 0) (ieq (asInt (ai x 10)) 0))) (ak (ieq (asInt (ai x 11)) 0) (ieq (asInt (ai x 12)) 0))))=true:=hE;rw[aM,aM,aN,aN] at hE;omega
 unfold Rx.gE;exact Rx.bd (Rx.bd (l9' j.1 (by decide)) (l9' l (by decide))) (Rx.bd (Rx.bd (ft' (by omega) (by omega)) (ft' (by omega) (by omega))) (Rx.bd (ft' c.1.1 c.1.2) (ft' c.2.1 c.2.2)))
theorem F8 (p:V→Bool) (l:ah) (h: ∀x∈l,p x=true): ∀(k i:Nat),i+k≤l.length→Rx.allI p l k i=true
 |0,_,_=>rfl
 |k+1,i,a=>by show(p (aG l (i:Int))&&Rx.allI p l k (i+1))=true;rw[h _ (get_mem (by omega)),F8 p l h k (i+1) (by omega)];rfl
theorem zB_of (d:ah) (c:Int) (h: ∀j,j<d.length→AJ (aG d (j:Int))=true∧vB (aG d (j:Int))=aW (j:Int) c): ∀(k i:Nat),i+k≤d.length→Rx.zB d c k i=true
 |0,_,_=>rfl
 |k+1,i,e=>by
  obtain⟨a,b⟩:=h i (by omega);show((Rx.Ti (aG d (i:Int))&&beq (vB (aG d (i:Int))) (aW (i:Int) c))&&Rx.zB d c k (i+1))=true;rw[show Rx.Ti (aG d (i:Int))=true from a,b,zB_of d c h k (i+1) (by omega)]
  cases aW (i:Int) c<;>rfl
theorem RE (zs:ah): ∀(d a:ah),a++d=zs→Rx.rD zs d.length a.length=nD d
 |[],a,_=>rfl
 |z::d,a,h=>by
  have e:=RE zs d (a++[z]) (by rw[←h];simp);rw[iH,vg] at e;have g:aG zs (a.length:Int)=z:=by rw[←h,eX,mg,abk (by omega),Yz];rfl
  rw[fI,Rx.wu,e,g];rfl
theorem few_all (s:af) (v:s.length≤8000) (h:Gm s=0):
  Rx.Kw (qZ s) (qy s) (q8 s)=true∧Rx.YE (qZ s) (qy s) (q8 s)=true∧(qZ s).length≤450∧(qy s).length≤1024∧(q8 s).length≤1024∧(∀z∈qy s,(lQ z).length≤256)∧(qZ s).length+nD (qy s)+(q8 s).length≤2000:=by
 obtain⟨C,A,J,t,m⟩:=rR_good s v h;have P:=al_few s v C;have K:qZ s=(oV s).1.rs:=by unfold qZ MP;rw[if_pos h]
 have D:qy s=(oV s).1.zs:=by unfold qy MQ;rw[if_pos h]
 have L:q8 s=(oV s).1.ks:=by unfold q8 MR;rw[if_pos h]
 rw[K,D,L];have q:=rR_zones m A;have u: ∀z∈(oV s).1.zs,dG (DZ z)=0∧lQ z≠[]∧(∀e∈lQ z,AJ e=true)∧ ∀j,j<(lQ z).length→vB (aG (lQ z) (j:Int))=decide (j+1<(lQ z).length):=by
  intro z f;obtain⟨i,w,rfl⟩:=List.mem_iff_getElem.1 f;obtain⟨n,S,O,a,b,c⟩:=q i w;have g:aG (oV s).1.zs (i:Int)=(oV s).1.zs[i]:=by rw[eX,mg,iZ w];rfl
  rw[←g,a];obtain⟨E,F,R,N,G,V⟩:=c;exact⟨E,F,N,fun j k=>(G j k).trans (ac6 _)⟩
 have p: ∀z∈(oV s).1.zs,Rx.zP z=true:=by intro z f;obtain⟨a,b,c,d⟩:=u z f;have Q:=List.length_pos_iff.2 b;show(ieq (dG (DZ z)) 0&&(Rx.zB (lQ z) (((lQ z).length:Int)-1) (lQ z).length 0&&aW 0 (ay (lQ z))))=true;rw[bn a,zB_of (lQ z) _ (fun j k=>⟨c _ (get_mem k),(d j k).trans (by unfold aW;exact decide_eq_decide.2 (by omega))⟩) _ _ (by omega),bH (by rw[aD];omega)];rfl
 have o: ∀z∈(oV s).1.zs,Rx.gZ z=true:=by intro z f;obtain⟨a,b,c,d⟩:=u z f;have l:=t.1 z f;have I:=oh _ a;show ak (av (aA (DZ z)) 900) (ak (av (ay (lQ z)) 256) ((lQ z).all Rx.gE))=true;exact Rx.bd (l9' I (by decide)) (Rx.bd (bg (by rw[aD];exact Int.ofNat_le.2 l)) (List.all_eq_true.2 fun e M=>gE_of (c e M)))
 have T:Rx.rD (oV s).1.zs (oV s).1.zs.length 0=nD (oV s).1.zs:=RE (oV s).1.zs (oV s).1.zs [] rfl;obtain⟨y,_,_,_,U,_,B,_,_,_⟩:=J;refine⟨?_,?_,by omega,y,B,fun z f=>t.1 z f,by omega⟩
 ·unfold Rx.Kw
  rw[F8 Rx.rrR _ m.r _ _ (by omega),F8 Rx.zP _ p _ _ (by omega),F8 Rx.rrL _ m.l _ _ (by omega)];rfl
 unfold Rx.YE;exact Rx.bd (bg (by rw[aD];omega)) (Rx.bd (Rx.bd (bg (by rw[aD];omega)) (u6 (by omega))) (Rx.bd (bg (by rw[aD];omega)) (Rx.bd (List.all_eq_true.2 fun x H=>gR_of (m.r x H)) (List.all_eq_true.2 o))))
theorem ro_ev (s:af):aj eE 3 [.str s] (.bool true):=by
 refine au jL bO1_ok 5 3 ?_
 (rw[b31O_top];(conv=>zeta))
 by_cases q:s.length≤8000
 case neg=>rw[ax (show aL (av (aA s) 8000)=true by rw[mr (by rw[aI];omega)];rfl)]
 rw[aK (show aL (av (aA s) 8000)=false by rw[bg (by rw[aI];omega)];rfl)];by_cases h:Gm s=0
 case neg=>rw[ax (show aL (ieq (Gm s) 0)=true by rw[bD h];rfl)]
 rw[aK (show aL (ieq (Gm s) 0)=false by rw[bn h];rfl)];obtain⟨f,u,y,l2,x,i,w⟩:=few_all s q h;generalize qZ s=xs at*;generalize qy s=zs at*;generalize q8 s=ls at*;have n:=rgt_of f;have g:Rx.E5 xs zs ls=0:=by unfold Rx.E5;rw[f];rfl
 have v:Rx.Tj xs zs ls=xO (q9 xs zs ls):=by unfold Rx.Tj;rw[f];exact tx_lines xs zs ls n.e
 obtain⟨k,m,l,j,o,_,_,_⟩:=src_read n (by omega) l2 x i w;obtain⟨m1,p⟩:=txT_map xs zs ls;rw[←v] at k m l j o;have d: ∀a b c:ah,TL (V.sl 50 kR none a) (V.sl 54 kZ none b) (V.sl 56 kL none c)=Rx.YE a b c:=by intro a b c;unfold TL Rx.TL;rw[tb_sl];rfl
 unfold E5 Tj;rw[g,k,m,l,j,o,d,d,rgK_map,u,m1,p,g,eq3_ag,sU,IG];have r:sm3 (V.sl 50 kR none xs) (V.sl 54 kZ none zs) (V.sl 56 kL none ls) (V.sl 50 kR none (xs.map Ps)) (V.sl 54 kZ none (zs.map MI)) (V.sl 56 kL none (ls.map MH))=true:=by unfold sm3;rw[tb_sl,tb_sl];show ak (ak true true) (ak (av (ay xs) 2000) (ak (Rx.e12 zs) (av (ay ls) 2000)))=true;refine Rx.bd rfl (Rx.bd (bg (by rw[aD];omega)) (Rx.bd ?_ (bg (by rw[aD];omega))));unfold Rx.e12;exact Rx.bd (bg (by rw[aD];omega)) (List.all_eq_true.2 fun z t=>bg (by rw[aD];exact Int.ofNat_le.2 (i z t)))
 rw[r];rfl
end Nt.Ev.YtknhlobahpgkeaaGreatDoor.Rr
