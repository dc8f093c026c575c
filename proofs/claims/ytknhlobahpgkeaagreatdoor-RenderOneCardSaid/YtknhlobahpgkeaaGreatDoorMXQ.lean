/-
  Lines of rules, zones, eras and links, as they are written, are read so: the plain law of the reader's run.
-/
import Derived.Test.YtknhlobahpgkeaaGreatDoorMXP
set_option linter.all false
set_option maxRecDepth 100000
namespace Nt.Ev.YtknhlobahpgkeaaGreatDoor.Rr
open Go Nt Nt.Num Nt.Civil Nt.Fld Nt.Lin Go.Proofs.YtknhlobahpgkeaaGreatDoor Nt.Ev.YtknhlobahpgkeaaGreatDoor Nt.Ev.YtknhlobahpgkeaaGreatDoor.Lk
variable [kM]
abbrev KT:af:=[82,117,108,101]
abbrev Ef:af:=[90,111,110,101]
abbrev KU:af:=[76,105,110,107]
theorem X5 {a:af} (b:a.contains 34=false) (h:a.any wO=false) (g:a≠[]) {l:List (af)} (i:l.length≤15) (e:(bU l).2=0):vo (a++(bU l).1)=(a::l,0):=by
 unfold vo;rw[Iu _ _ a [] false b h,Fx];have f:(false|| !a.isEmpty)=true:=by cases a with
  |nil=>exact absurd rfl g
  |cons c t=>rfl
 rw[f];have:=Iv [] l [] a e;rw[JQ,Fx] at this;rw[this];show uQ (kQ true ((a::l).dropLast) ((a::l).getLast _))=_;have d:kQ true ((a::l).dropLast) ((a::l).getLast (by simp))=a::l:=by show((a::l).dropLast)++[(a::l).getLast _]=_;rw[acK]
 rw[d];unfold uQ;rw[if_neg (by simp only[fI];omega)]
theorem X6 {a:List (af)} (f:a≠[]) (g:a.length≤16) (b:(bU a).2=0):(bU a).1=[32]++(dZ a).1:=by
 have e:dZ a=((bU a).1.drop 1,0):=by unfold dZ;rw[if_neg (by omega),if_pos b]
 rw[e]
 cases a with
 |nil=>exact absurd rfl f
 |cons x l=>
  unfold bU at b⊢;by_cases c:(oq x).2=0
  ·rw[if_pos c] at b⊢
   by_cases d:(bU l).2=0
   ·rw[if_pos d];simp
   rw[if_neg d] at b;exact absurd b d
  rw[if_neg c] at b;exact absurd b c
theorem X7 {a:af} (c:a.contains 34=false) (i:a.any wO=false) (e:a≠[]) {b:List (af)} (h:b≠[]) (f:b.length≤15) (j: ∀x∈b,Gd x):vo (a++([32]++(dZ b).1))=(a::b,0):=by
 have d:=sw b fun y g=>GH (j y g)
 rw[←X6 h (by omega) d];exact X5 c i e f d
theorem O7 {a:List (af)} (g:a≠[]) (f:a.length≤16) (e: ∀x∈a,Gd x):vo ([32]++(dZ a).1)=(a,0):=by
 have b:=sw a fun y c=>GH (e y c)
 have d:(dZ a).2=0:=by unfold dZ;rw[if_neg (by omega),if_pos b]
 exact XA a d
theorem nm_sp: ∀(s:af) (k:Nat),Nt.Ev.YtknhlobahpgkeaaGreatDoor.xV k s=true→s.any wO=false
 |[],_,_=>rfl
 |c::t,k,h=>by
  unfold xV at h;rw[bC] at h;rw[abM,nm_sp t (k+1) h.2,ac6];have h:=h.1;unfold JU TQ TR at h;simp only[JR,bC,lG,iM] at h;unfold wO;have a:c.toNat≠9∧c.toNat≠32∧c.toNat≠35:=by
   rcases h with((h|h)|h)|⟨_,(((h|h)|h)|h)|h⟩
   all_goals first|omega|(rw[h];decide)
  rw[EY,EY,uE,uE,uE];refine⟨⟨?_,?_⟩,?_⟩<;>(rintro rfl;revert a;decide)
theorem Ns {n:af} (h:dG n=0):n≠[]∧n.any wO=false∧n.contains 34=false∧(oq n).1=n∧(oq n).2=0∧Gd n∧n.length≤64:=by
 have g:=Qe n h;have l:=oh n h;unfold dG at h;by_cases c:64<n.length
 ·rw[if_pos c] at h;cases h
 rw[if_neg c] at h;by_cases a:xV 0 n=true∧n≠[]
 ·have d:=nm_sp n 0 a.1
  have b:=GH g;refine⟨a.2,d,b,?_,Oh b,g,l⟩;unfold oq;rw[b,if_neg (by decide),if_neg (fun e=>e.elim a.2 (fun e=>by rw[d] at e;cases e))]
 rw[if_neg a] at h;cases h
theorem of_zone {n:af} (i:dG n=0) {a:List (af)} (g:a≠[]) (j:a.length≤14) (h: ∀x∈a,Gd x):vo (Ef++([32]++n)++([32]++(dZ a).1))=(Ef::n::a,0):=by
 have b:=sw a fun y c=>GH (h y c)
 obtain⟨_,_,_,f,d,_⟩:=Ns i;have e:(bU (n::a)).1=[32]++n++([32]++(dZ a).1)∧(bU (n::a)).2=0:=by unfold bU;rw[if_pos d,if_pos b,f,X6 g (by omega) b];exact⟨rfl,rfl⟩
 rw[DX,←e.1];exact X5 (by decide) (by decide) (by decide) (by simp only[fI];omega) e.2
section
variable {t:mD} {k:Int} {s:af} {fs:List (af)}
theorem Nu {p:List (af)×Int} (h:vo s=p):bY s=p.1.map V.str∧MF s=p.2:=by unfold bY MF;rw[h];exact⟨rfl,rfl⟩
theorem kV (x:V) (l:ah):tl1 (x::l)=l:=by show fo (x::l) 1 (ay (x::l))=l;show List.take ((x::l).length-1) l=l;rw[fI,Nat.add_sub_cancel,abJ]
theorem lM (x:V) (l:ah): ¬ay (x::l)=0:=by rw[aD,fI];omega
theorem Ot:mo KT E7=0∧oP KT E7=0:=⟨by kernel_rfl,by kernel_rfl⟩
theorem Ou:mo Ef E7=1∧oP Ef E7=0:=⟨by kernel_rfl,by kernel_rfl⟩
theorem Ov:mo KU E7=2∧oP KU E7=0:=⟨by kernel_rfl,by kernel_rfl⟩
theorem xJ {e n m:Int} (h:e=0) (a:n<m):lX e n m=0:=by unfold lX;rw[if_neg (fun g=>g h),if_pos a]
theorem aeo (c:vo s=(KT::fs,0)) (g:Ai s=0) (a: ¬0<t.op) (hE:Mx (fs.map V.str)=0) (i:t.rs.length<4096):
  t.err s=0∧t.step k s={t with rs:=t.rs++[MG (fs.map V.str)],wr:=t.wr++[.int .i64 k]}:=by
 obtain⟨b,d⟩:=Nu c;simp only[qA] at b;have f:gz t.op s=0:=by unfold gz;rw[b,if_neg (lM _ _),if_neg a];exact congrArg Int.toNat Ot.1
 constructor
 ·unfold mD.err kN
  have e:mo (aH (ai (aG (V.str KT::fs.map V.str) 0) 0)) E7=0:=Ot.1;rw[b,d,g,if_neg (fun h=>h rfl),if_neg (fun h=>h rfl),if_neg (lM _ _),if_neg a,if_neg (fun h=>h Ot.2),e,if_pos rfl,kV];exact xJ hE (by rw[aD];omega)
 rw[gq f,b,kV];rfl
theorem aep (c:vo s=(KU::fs,0)) (g:Ai s=0) (a: ¬0<t.op) (hE:Pq (fs.map V.str)=0) (i:t.ks.length<1024):
  t.err s=0∧t.step k s={t with ks:=t.ks++[Te (fs.map V.str)],wl:=t.wl++[.int .i64 k]}:=by
 obtain⟨b,d⟩:=Nu c;simp only[qA] at b;have f:gz t.op s=2:=by unfold gz;rw[b,if_neg (lM _ _),if_neg a];exact congrArg Int.toNat Ov.1
 constructor
 ·unfold mD.err kN
  have e:mo (aH (ai (aG (V.str KU::fs.map V.str) 0) 0)) E7=2:=Ov.1;rw[b,d,g,if_neg (fun h=>h rfl),if_neg (fun h=>h rfl),if_neg (lM _ _),if_neg a,if_neg (fun h=>h Ov.2),e,if_neg (by decide),if_neg (by decide),kV];exact xJ hE (by rw[aD];omega)
 rw[gq f,b,kV];rfl
theorem aer {n:af} (c:vo s=(Ef::n::fs,0)) (g:Ai s=0) (a: ¬0<t.op) (j:dG n=0) (hE:kK (fs.map V.str)=0) (l:t.zs.length<1024):
  t.err s=0∧t.step k s={t with zs:=t.zs++[zV n [qh (fs.map V.str)]],we:=t.we++[wV [.int .i64 k]],iz:=ay t.zs,yz:=[qh (fs.map V.str)],ie:=ay t.we,ye:=[.int .i64 k],op:=jB (fs.map V.str) k}:=by
 obtain⟨b,d⟩:=Nu c;simp only[qA] at b;have f:gz t.op s=1:=by unfold gz;rw[b,if_neg (lM _ _),if_neg a];exact congrArg Int.toNat Ou.1
 constructor
 ·unfold mD.err kN
  have e:mo (aH (ai (aG (V.str Ef::V.str n::fs.map V.str) 0) 0)) E7=1:=Ou.1;rw[b,d,g,if_neg (fun h=>h rfl),if_neg (fun h=>h rfl),if_neg (lM _ _),if_neg a,if_neg (fun h=>h Ou.2),e,if_neg (by decide),if_pos rfl,kV];unfold vz;have i:dG (aH (ai (aG (V.str n::fs.map V.str) 0) 0))=0:=j;rw[if_neg (lM _ _),if_neg (fun h=>h i),kV];exact xJ hE (by rw[aD];omega)
 rw[gq f,b,kV,kV];show mD.mk _ _ _ _ _ _ _ _ _ _ _=_;unfold tN;rw[kV];rfl
theorem era_step {zs we:ah} {n:af} (e:vo s=(fs,0)) (g:fs≠[]) (m:Ai s=0) (a:0<t.op) (hE:kK (fs.map V.str)=0) (q:t.yz.length<256) (p:t.zs=zs++[zV n t.yz]) (d:t.we=we++[wV t.ye]):
  t.err s=0∧t.step k s={t with zs:=zs++[zV n (t.yz++[qh (fs.map V.str)])],we:=we++[wV (t.ye++[.int .i64 k])],yz:=t.yz++[qh (fs.map V.str)],ye:=t.ye++[.int .i64 k],op:=jB (fs.map V.str) k}:=by
 obtain⟨b,f⟩:=Nu e;have c: ¬ay (bY s)=0:=by
  rw[b]
  cases fs with
  |nil=>exact absurd rfl g
  |cons x l=>exact lM _ _
 have i:gz t.op s=3:=by unfold gz;rw[if_neg c,if_pos a]
 constructor
 ·unfold mD.err kN
  rw[f,m,if_neg (fun h=>h rfl),if_neg (fun h=>h rfl),if_neg c,if_pos a,b];exact xJ hE (by rw[aD];omega)
 rw[gq i,b];have j:mG t.zs t.yz (fs.map V.str)=zs++[zV n (t.yz++[qh (fs.map V.str)])]:=by
  unfold mG;rw[p,sS];have:aG (zs++[zV n t.yz]) (ay (zs++[zV n t.yz])-1)=zV n t.yz:=by rw[aD,iH,vg,show((zs.length+1:Nat):Int)-1=(zs.length:Int) from by omega,gu]
  rw[this];rfl
 have o:rM t.we t.ye k=we++[wV (t.ye++[.int .i64 k])]:=by unfold rM;rw[d,sS];rfl
 show mD.mk _ _ _ _ _ _ _ _ _ _ _=_;rw[j,o];rfl
end
theorem Bg: ∀(xs ys:ah) (k:Int) (t:mD),(iI xs k t).2.2=0→iI (xs++ys) k t=iI ys (iI xs k t).2.1 (iI xs k t).1
 |[],ys,k,t,_=>rfl
 |x::xs,ys,k,t,h=>by
  by_cases e:t.err (Gl x)=0
  ·rw[iF e] at h⊢
   rw[Py,iF e];exact Bg xs ys (k+1) _ h
  rw[kg e] at h;exact absurd h e
theorem BL {s:af} {ys:ah} {k:Int} {t u:mD} (h:t.err s=0∧t.step (k+1) s=u):iI (.str s::ys) k t=iI ys (k+1) u:=by rw[iF (x:=.str s) h.1];show iI ys (k+1) (t.step (k+1) s)=_;rw[h.2]
def nums (k:Int):Nat→ah
 |0=>[]
 |n+1=> .int .i64 (k+1)::nums (k+1) n
def RuleL (s:af) (x:V):Prop:=∃a:List (af),vo s=(KT::a,0)∧Ai s=0∧Mx (a.map V.str)=0∧MG (a.map V.str)=x
def LinkL (s:af) (x:V):Prop:=∃a:List (af),vo s=(KU::a,0)∧Ai s=0∧Pq (a.map V.str)=0∧Te (a.map V.str)=x
def EraL (s:af) (x:V):Prop:=∃a:List (af),a≠[]∧vo s=(a,0)∧Ai s=0∧kK (a.map V.str)=0∧qh (a.map V.str)=x
def ZoneL (n s:af) (x:V):Prop:=∃a:List (af),vo s=(Ef::n::a,0)∧Ai s=0∧dG n=0∧kK (a.map V.str)=0∧qh (a.map V.str)=x
theorem Mq: ∀(L:List (af×V)) (k:Int) (t:mD),(∀p∈L,RuleL p.1 p.2)→ ¬0<t.op→t.rs.length+L.length≤4096→
  iI (L.map fun p=>V.str p.1) k t=({t with rs:=t.rs++L.map (·.2),wr:=t.wr++nums k L.length},k+(L.length:Int),0)
 |[],k,t,_,_,_=>by show(t,k,(0:Int))=_;simp[nums]
 |(s,x)::L,k,t,hL,e,f=>by
  obtain⟨h,a,b,c,d⟩:=hL _ uY;have i:=aeo (t:=t) (k:=k+1) a b e c (by simp only[fI] at f;omega);rw[qA,BL i,Mq L (k+1) {t with rs:=t.rs++[MG (h.map V.str)],wr:=t.wr++[.int .i64 (k+1)]} (fun p g=>hL p (wN _ g)) e (by simp only[fI,iH,qz] at f⊢;omega)];simp only[d,nums,qA,DX,abH,fI];congr 1;congr 1
  omega
theorem Mr: ∀(L:List (af×V)) (k:Int) (t:mD),(∀p∈L,LinkL p.1 p.2)→ ¬0<t.op→t.ks.length+L.length≤1024→
  iI (L.map fun p=>V.str p.1) k t=({t with ks:=t.ks++L.map (·.2),wl:=t.wl++nums k L.length},k+(L.length:Int),0)
 |[],k,t,_,_,_=>by show(t,k,(0:Int))=_;simp[nums]
 |(s,x)::L,k,t,hL,e,f=>by
  obtain⟨h,a,b,c,d⟩:=hL _ uY;have i:=aep (t:=t) (k:=k+1) a b e c (by simp only[fI] at f;omega);rw[qA,BL i,Mr L (k+1) {t with ks:=t.ks++[Te (h.map V.str)],wl:=t.wl++[.int .i64 (k+1)]} (fun p g=>hL p (wN _ g)) e (by simp only[fI,iH,qz] at f⊢;omega)];simp only[d,nums,qA,DX,abH,fI];congr 1;congr 1
  omega
theorem Rp {zs we:ah} {n:af}: ∀(L:List (af×V)) (k:Int) (t:mD),0≤k→(∀p∈L,EraL p.1 p.2)→(0<t.op∨L=[])→(∀i (h:i<L.length),vB (L[i]).2=decide (i+1<L.length))→t.yz.length+L.length≤256→t.zs=zs++[zV n t.yz]→t.we=we++[wV t.ye]→(L=[]→t.op=0)→
  ∃iz ie,iI (L.map fun p=>V.str p.1) k t=({t with zs:=zs++[zV n (t.yz++L.map (·.2))],we:=we++[wV (t.ye++nums k L.length)],iz:=iz,yz:=t.yz++L.map (·.2),ie:=ie,ye:=t.ye++nums k L.length,op:=0},k+(L.length:Int),0)
 |[],k,t,_,_,_,_,_,j,l,e=>by refine⟨t.iz,t.ie,?_⟩;show(t,k,(0:Int))=_;have e:=e rfl;obtain⟨M,N,G,I,H,K,E,D,J,v,z⟩:=t;simp only at j l e;simp[nums,j,l,e]
 |(s,x)::L,k,t,F,hL,e,q,r,j,l,_=>by
  obtain⟨f,B,a,b,c,d⟩:=hL _ uY;have e:0<t.op:=e.elim id (fun h=>nomatch h);have A:=era_step (t:=t) (k:=k+1) a B b e c (by simp only[fI] at r;omega) j l;have o:E6 (f.map V.str)=decide (0+1<((s,x)::L).length):=by have:=q 0 (by simp);rw[←this];have u:qh (f.map V.str)=x:=d;show _=vB x;rw[←u];rfl
  have m:0<jB (f.map V.str) (k+1)∨L=[]:=by
   unfold jB;rw[o]
   cases L with
   |nil=>exact .inr rfl
   |cons y L=>left;rw[if_pos (by simp)];omega
  have g:L=[]→jB (f.map V.str) (k+1)=0:=by rintro rfl;unfold jB;rw[o,if_neg (by simp)]
  obtain⟨iz,ie,C⟩:=Rp (zs:=zs) (we:=we) (n:=n) L (k+1) {t with zs:=zs++[zV n (t.yz++[qh (f.map V.str)])],we:=we++[wV (t.ye++[.int .i64 (k+1)])],yz:=t.yz++[qh (f.map V.str)],ye:=t.ye++[.int .i64 (k+1)],op:=jB (f.map V.str) (k+1)} (by omega) (fun p w=>hL p (wN _ w)) m (fun i h=>by have:=q (i+1) (by simp only[fI];omega);simp only[List.getElem_cons_succ,fI] at this;rw[this];exact decide_eq_decide.2 (by omega)) (by simp only[fI,iH,qz] at r⊢;omega) rfl rfl g;refine⟨iz,ie,?_⟩;rw[qA,BL A,C];simp only[d,nums,qA,DX,abH,fI];congr 1;congr 1
  omega
structure Zn where
 n:af
 s:af
 x:V
 L:List (af×V)
def Zn.ok (z:Zn):Prop:=ZoneL z.n z.s z.x∧(∀p∈z.L,EraL p.1 p.2)∧z.L.length+1≤256∧vB z.x=decide (0<z.L.length)∧ ∀i (h:i<z.L.length),vB (z.L[i]).2=decide (i+1<z.L.length)
def Zn.lines (z:Zn):List (af):=z.s::z.L.map (·.1)
def Zn.v (z:Zn):V:=zV z.n (z.x::z.L.map (·.2))
theorem run_zone {z:Zn} (w:z.ok) (k:Int) (t:mD) (A:0≤k) (l: ¬0<t.op) (o:t.zs.length<1024):
  ∃iz yz ie ye,iI (z.lines.map V.str) k t=({t with zs:=t.zs++[z.v],we:=t.we++[wV (nums k z.lines.length)],iz:=iz,yz:=yz,ie:=ie,ye:=ye,op:=0},k+(z.lines.length:Int),0):=by
 obtain⟨⟨f,a,b,c,d,e⟩,m,y,s,u⟩:=w;have q:=aer (t:=t) (k:=k+1) a b l c d o;have j:E6 (f.map V.str)=decide (0<z.L.length):=by rw[←s];show _=vB z.x;rw[←e];rfl
 have i:0<jB (f.map V.str) (k+1)∨z.L=[]:=by
  unfold jB;rw[j];by_cases h:0<z.L.length
  ·left;rw[if_pos (u6 h)];omega
  exact .inr (Yv (by omega))
 have g:z.L=[]→jB (f.map V.str) (k+1)=0:=by intro h;unfold jB;rw[j,h,if_neg (by decide)]
 obtain⟨iz,ie,r⟩:=Rp (zs:=t.zs) (we:=t.we) (n:=z.n) z.L (k+1) {t with zs:=t.zs++[zV z.n [qh (f.map V.str)]],we:=t.we++[wV [.int .i64 (k+1)]],iz:=ay t.zs,yz:=[qh (f.map V.str)],ie:=ay t.we,ye:=[.int .i64 (k+1)],op:=jB (f.map V.str) (k+1)} (by omega) m i u (by simp only[fI,qz];omega) rfl rfl g;refine⟨iz,[qh (f.map V.str)]++z.L.map (·.2),ie,[.int .i64 (k+1)]++nums (k+1) z.L.length,?_⟩;unfold Zn.lines;rw[qA,BL q,Fy];rw[show(z.L.map (V.str ∘ fun x=>x.1))=z.L.map (fun p=>V.str p.1) from rfl,r];simp only[e,Zn.v,nums,abH,fI,kJ];congr 1;congr 1
 omega
def AV (k:Int):List Zn→ah
 |[]=>[]
 |z::l=>wV (nums k z.lines.length)::AV (k+(z.lines.length:Int)) l
def ji (l:List Zn):List (af):=(l.map Zn.lines).flatten
theorem Ms: ∀(l:List Zn) (k:Int) (t:mD),0≤k→(∀z∈l,z.ok)→t.op=0→t.zs.length+l.length≤1024→
  ∃iz yz ie ye,iI ((ji l).map V.str) k t=({t with zs:=t.zs++l.map Zn.v,we:=t.we++AV k l,iz:=iz,yz:=yz,ie:=ie,ye:=ye,op:=0},k+((ji l).length:Int),0)
 |[],k,t,_,_,c,_=>by refine⟨t.iz,t.yz,t.ie,t.ye,?_⟩;show(t,k,(0:Int))=_;obtain⟨B,C,s,w,u,A,r,q,x,n,o⟩:=t;simp only at c;simp[ji,AV,c]
 |z::l,k,t,m,h,c,i=>by
  obtain⟨iz,yz,ie,ye,g⟩:=run_zone (h z uY) k t m (by omega) (by simp only[fI] at i;omega);obtain⟨b,f,a,d,j⟩:=Ms l (k+(z.lines.length:Int)) {t with zs:=t.zs++[z.v],we:=t.we++[wV (nums k z.lines.length)],iz:=iz,yz:=yz,ie:=ie,ye:=ye,op:=0} (by omega) (fun y p=>h y (wN _ p)) rfl (by simp only[fI,iH,qz] at i⊢;omega);refine⟨b,f,a,d,?_⟩;have e:ji (z::l)=z.lines++ji l:=by unfold ji;rw[qA,abO]
  rw[e,aci,Bg _ _ _ _ (by rw[g]),g];simp only;rw[j];simp only[AV,qA,DX,abH,iH];congr 1;congr 1
  omega
def Eff (l rs zs ks:ah):Prop:=∀(k:Int) (t:mD),0≤k→t.op=0→t.rs.length+rs.length≤4096→t.zs.length+zs.length≤1024→t.ks.length+ks.length≤1024→
 ∃u:mD,iI l k t=(u,k+(l.length:Int),0)∧u.rs=t.rs++rs∧u.zs=t.zs++zs∧u.ks=t.ks++ks∧u.op=0
theorem Eff.app {a g c l l2 h d b:ah} (y:Eff a g c l) (o:Eff l2 h d b):Eff (a++l2) (g++h) (c++d) (l++b):=by
 intro k t s n A q B;rw[iH] at A q B;obtain⟨u,e,j,f,i,m⟩:=y k t s n (by omega) (by omega) (by omega);obtain⟨w,x,r,z,v,p⟩:=o (k+(a.length:Int)) u (by omega) m (by rw[j,iH];omega) (by rw[f,iH];omega) (by rw[i,iH];omega);refine⟨w,?_,by rw[r,j,DX],by rw[z,f,DX],by rw[v,i,DX],p⟩;rw[Bg _ _ _ _ (by rw[e]),e];show iI l2 (k+(a.length:Int)) u=_;rw[x,iH];congr 1
 congr 1
 omega
theorem pr_ten {s:af} (h:Pr s):s.contains 10=false:=by rw[←ac8,abr];intro a;have:=(h _ a).1;revert this;decide
abbrev Ps (x:V):V:=.agg [.str (aH (ai x 0)),.int .i64 (asInt (ai x 1)),.int .i64 (asInt (ai x 2)),.int .i64 (asInt (ai x 3)),.int .i64 (asInt (ai x 4)),.int .i64 (asInt (ai x 5)),.int .i64 (asInt (ai x 6)),.int .i64 (asInt (ai x 7)),.int .i64 (asInt (ai x 8)),.int .i64 (asInt (ai x 9)),.str (aH (ai x 10))]
noncomputable def Ar (x:V):af:=dU [82,117,108,101,32] (tF (rfV (aH (ai x 0)) (asInt (ai x 1)) (asInt (ai x 2)) (asInt (ai x 3)) (asInt (ai x 4)) (asInt (ai x 5)) (asInt (ai x 6)) (asInt (ai x 7)) (asInt (ai x 8)) (asInt (ai x 9)) (aH (ai x 10))))
noncomputable def zk (x:V):af:=dU [76,105,110,107,32] (tF (fdL (aH (ai x 0)) (aH (ai x 1))))
def Fe (s:af):Prop:=Pr s∧s.length≤511
theorem GI (a:List (af)):tF (a.map V.str)=(dZ a).1∧rC (a.map V.str)=(dZ a).2∧jnC (a.map V.str)=decide (nW a≤3000000):=Oo a
theorem rlS_ok {x:V} (h:TU x=true):RuleL (Ar x) (Ps x)∧Fe (Ar x)∧jnC (rfV (aH (ai x 0)) (asInt (ai x 1)) (asInt (ai x 2)) (asInt (ai x 3)) (asInt (ai x 4)) (asInt (ai x 5)) (asInt (ai x 6)) (asInt (ai x 7)) (asInt (ai x 8)) (asInt (ai x 9)) (aH (ai x 10)))=true:=by
 unfold TU at h;obtain⟨g1,m⟩:=XZ _ _ _ _ _ _ _ _ _ _ _ h;obtain⟨t,l2,q,r⟩:=FU _ g1 (by show 9≤16;omega) m;obtain⟨s,g⟩:=ru_back _ _ _ _ _ _ _ _ _ _ _ h;obtain⟨r0,f,j,e,k,p,l,n,o,i,b,rE⟩:=rd_inj _ g;have c:rfV (aH (ai x 0)) (asInt (ai x 1)) (asInt (ai x 2)) (asInt (ai x 3)) (asInt (ai x 4)) (asInt (ai x 5)) (asInt (ai x 6)) (asInt (ai x 7)) (asInt (ai x 8)) (asInt (ai x 9)) (aH (ai x 10))=(rfS (aH (ai x 0)) (asInt (ai x 1)) (asInt (ai x 2)) (asInt (ai x 3)) (asInt (ai x 4)) (asInt (ai x 5)) (asInt (ai x 6)) (asInt (ai x 7)) (asInt (ai x 8)) (asInt (ai x 9)) (aH (ai x 10))).map V.str:=by unfold rfV;rw[h];rfl
 have d:Ar x=KT++([32]++(dZ (rfS (aH (ai x 0)) (asInt (ai x 1)) (asInt (ai x 2)) (asInt (ai x 3)) (asInt (ai x 4)) (asInt (ai x 5)) (asInt (ai x 6)) (asInt (ai x 7)) (asInt (ai x 8)) (asInt (ai x 9)) (aH (ai x 10)))).1):=by unfold Ar;rw[c,(GI _).1];rfl
 have a:Fe (Ar x):=by rw[d];refine⟨mH (by decide) (mH (by decide) q),?_⟩;rw[iH,iH];have:(rfS (aH (ai x 0)) (asInt (ai x 1)) (asInt (ai x 2)) (asInt (ai x 3)) (asInt (ai x 4)) (asInt (ai x 5)) (asInt (ai x 6)) (asInt (ai x 7)) (asInt (ai x 8)) (asInt (ai x 9)) (aH (ai x 10))).length=9:=rfl;simp only[fI,qz];omega
 refine⟨⟨rfS (aH (ai x 0)) (asInt (ai x 1)) (asInt (ai x 2)) (asInt (ai x 3)) (asInt (ai x 4)) (asInt (ai x 5)) (asInt (ai x 6)) (asInt (ai x 7)) (asInt (ai x 8)) (asInt (ai x 9)) (aH (ai x 10)),?_,FV _ a.1 a.2,rE,?_⟩,a,?_⟩
 ·rw[d]
  exact X7 (by decide) (by decide) (by decide) (by intro h;cases h) (by show 9≤15;omega) g1
 ·show MG (rfL (aH (ai x 0)) (asInt (ai x 1)) (asInt (ai x 2)) (asInt (ai x 3)) (asInt (ai x 4)) (asInt (ai x 5)) (asInt (ai x 6)) (asInt (ai x 7)) (asInt (ai x 8)) (asInt (ai x 9)) (aH (ai x 10)))=_
  unfold MG;rw[r0,f,j,e,k,p,l,n,o,i,b]
 rw[c,(GI _).2.2];exact u6 (by omega)
theorem lkS_ok {x:V} (h:rgtL x=true):LinkL (zk x) (.agg [.str (aH (ai x 0)),.str (aH (ai x 1))])∧Fe (zk x)∧jnC (fdL (aH (ai x 0)) (aH (ai x 1)))=true:=by
 unfold rgtL at h;have b:fdL (aH (ai x 0)) (aH (ai x 1))=[aH (ai x 0),aH (ai x 1)].map V.str:=by unfold fdL;rw[if_pos h];rfl
 unfold rgB at h;rw[lG,uJ,uJ] at h;obtain⟨f,c,i⟩:=h;obtain⟨_,_,_,_,_,j,o⟩:=Ns f;obtain⟨_,_,_,_,_,k,m⟩:=Ns c;have g1: ∀y∈[aH (ai x 0),aH (ai x 1)],Gd y:=by
  intro y d;rw[Yy,S7] at d;rcases d with rfl|rfl
  ·exact j
  exact k
 have n:nW [aH (ai x 0),aH (ai x 1)]≤128:=by show(aH (ai x 0)).length+((aH (ai x 1)).length+0)≤128;omega
 obtain⟨p,l2,l,g⟩:=FU _ g1 (by show 2≤16;omega) (by omega);have e:zk x=KU++([32]++(dZ [aH (ai x 0),aH (ai x 1)]).1):=by unfold zk;rw[b,(GI _).1];rfl
 have a:Fe (zk x):=by rw[e];refine⟨mH (by decide) (mH (by decide) l),?_⟩;rw[iH,iH];simp only[fI,qz] at g⊢;omega
 have hE:Pq ([aH (ai x 0),aH (ai x 1)].map V.str)=0:=by unfold Pq;rw[show ay ([aH (ai x 0),aH (ai x 1)].map V.str)=2 from rfl,if_neg (by decide),if_neg (by decide)];have q:JW (Nm.dG (aH (ai x 0))) (Nm.dG (aH (ai x 1)))=0:=(IB _ _).2 ⟨(uJ _).trans f,(uJ _).trans c⟩;show(if JW (Nm.dG (aH (ai x 0))) (Nm.dG (aH (ai x 1)))≠0 then _ else if aH (ai x 0)=aH (ai x 1) then(13:Int) else 0)=0;rw[if_neg (fun h=>h q),if_neg i]
 refine⟨⟨[aH (ai x 0),aH (ai x 1)],?_,FV _ a.1 a.2,hE,?_⟩,a,?_⟩
 ·rw[e]
  exact X7 (by decide) (by decide) (by decide) (by intro h;cases h) (by show 2≤15;omega) g1
 ·unfold Te lrT lrN
  rw[if_pos hE,if_pos hE];rfl
 rw[b,(GI _).2.2];exact u6 (by omega)
section
variable (o:Int) (k:Int) (v:Int) (r:af) (q:af) (h:Bool) (y:Int) (m:Int) (ok:Int) (ow:Int) (od:Int) (c:Int) (b:Int)
abbrev agE:V:=.agg [.int .i64 o,.int .i64 k,.int .i64 v,.str r,.str q,.bool h,.int .i64 y,.int .i64 m,.int .i64 ok,.int .i64 ow,.int .i64 od,.int .i64 c,.int .i64 b]
theorem era_line (g:Gj o k v r q h y m ok ow od c b=true):(∃a:List (af),a≠[]∧efV o k v r q h y m ok ow od c b=a.map V.str∧(∀x∈a,Gd x)∧a.length≤7∧Pr (dZ a).1∧(dZ a).1.length≤430∧kK (a.map V.str)=0∧qh (a.map V.str)=agE o k v r q h y m ok ow od c b)∧jnC (efV o k v r q h y m ok ow od c b)=true:=by
 obtain⟨g1,B,C⟩:=X0 o k v r q h y m ok ow od c b g;obtain⟨G,l2,D,E⟩:=FU _ g1 (by omega) B;obtain⟨F,A⟩:=er_back o k v r q h y m ok ow od c b g;obtain⟨r0,l,p,j,s,z,t,u,w,n,e,f,d,rE⟩:=er_inj _ A;have i:efV o k v r q h y m ok ow od c b=(efS o k v r q h y m ok ow od c b).map V.str:=by unfold efV;rw[g];exact On o k v r q h y m ok ow od c b
 rw[On] at rE r0 l p j s z t u w n e f d;refine⟨⟨_,?_,i,g1,C,D,by omega,rE,?_⟩,?_⟩
 ·intro h;unfold efS at h;cases h
 ·show qh (bE (efS o k v r q h y m ok ow od c b))=_
  unfold qh;rw[r0,l,p,j,s,z,t,u,w,n,e,f,d]
 rw[i,(GI _).2.2];exact u6 (by omega)
end
theorem X8: ∀(l:List (af)),(∀x∈l,Fe x)→(xO l).length≤512*l.length
 |[],_=>by simp[xO]
 |x::l,h=>by have c:=(h x uY).2;have b:=X8 l (fun y a=>h y (wN _ a));rw[Re];simp only[iH,fI,qz];omega
section
variable (F:Nat) (xs ls:ah) (o:Int) (k:Int) (v:Int) (r:af) (q:af) (h:Bool) (y:Int) (m:Int) (ok:Int) (ow:Int) (od:Int) (c:Int) (b:Int) (o2:Int) (k2:Int) (v2:Int) (r2:af) (q2:af) (h2:Bool) (y2:Int) (m2:Int) (ok2:Int) (ow2:Int) (od2:Int) (c2:Int) (b2:Int) (w1 w2:Int) (g1 g2 g3:ah)
end
end Nt.Ev.YtknhlobahpgkeaaGreatDoor.Rr
