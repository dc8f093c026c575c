/-
  Lines of rules, zones, eras and links, as they are written, are read so: the plain law of the reader's run.
-/
import Derived.Test.YtjcencojgajgdaaGreatDoorMXP
set_option linter.all false
set_option maxRecDepth 100000
namespace Nt.Ev.YtjcencojgajgdaaGreatDoor.Rr
open Go Nt Nt.Num Nt.Civil Nt.Fld Nt.Lin Go.Proofs.YtjcencojgajgdaaGreatDoor Nt.Ev.YtjcencojgajgdaaGreatDoor Nt.Ev.YtjcencojgajgdaaGreatDoor.Lk
variable [kH]
abbrev LC:af:=[82,117,108,101]
abbrev Es:af:=[90,111,110,101]
abbrev LD:af:=[76,105,110,107]
theorem Y6 {a:af} (b:a.contains 34=false) (h:a.any wO=false) (g:a≠[]) {l:List (af)} (i:l.length≤15) (e:(bX l).2=0):wN (a++(bX l).1)=(a::l,0):=by
 unfold wN;rw[Jc _ _ a [] false b h,FD];have f:(false|| !a.isEmpty)=true:=by cases a with
  |nil=>exact absurd rfl g
  |cons c t=>rfl
 rw[f];have:=Jd [] l [] a e;rw[FC,FD] at this;rw[this];show AB (o6 true ((a::l).dropLast) ((a::l).getLast _))=_;have d:o6 true ((a::l).dropLast) ((a::l).getLast (by simp))=a::l:=by show((a::l).dropLast)++[(a::l).getLast _]=_;rw[acM]
 rw[d];unfold AB;rw[if_neg (by simp only[dN];omega)]
theorem Y7 {a:List (af)} (f:a≠[]) (g:a.length≤16) (b:(bX a).2=0):(bX a).1=[32]++(eF a).1:=by
 have e:eF a=((bX a).1.drop 1,0):=by unfold eF;rw[if_neg (by omega),if_pos b]
 rw[e]
 cases a with
 |nil=>exact absurd rfl f
 |cons x l=>
  unfold bX at b⊢;by_cases c:(ou x).2=0
  ·rw[if_pos c] at b⊢
   by_cases d:(bX l).2=0
   ·rw[if_pos d];simp
   rw[if_neg d] at b;exact absurd b d
  rw[if_neg c] at b;exact absurd b c
theorem Y8 {a:af} (c:a.contains 34=false) (i:a.any wO=false) (e:a≠[]) {b:List (af)} (h:b≠[]) (f:b.length≤15) (j: ∀x∈b,Gd x):wN (a++([32]++(eF b).1))=(a::b,0):=by
 have d:=r9 b fun y g=>H7 (j y g)
 rw[←Y7 h (by omega) d];exact Y6 c i e f d
theorem Qd {a:List (af)} (g:a≠[]) (f:a.length≤16) (e: ∀x∈a,Gd x):wN ([32]++(eF a).1)=(a,0):=by
 have b:=r9 a fun y c=>H7 (e y c)
 have d:(eF a).2=0:=by unfold eF;rw[if_neg (by omega),if_pos b]
 exact YB a d
theorem nm_sp: ∀(s:af) (k:Nat),Nt.Ev.YtjcencojgajgdaaGreatDoor.xZ k s=true→s.any wO=false
 |[],_,_=>rfl
 |c::t,k,h=>by
  unfold xZ at h;rw[bF] at h;rw[abM,nm_sp t (k+1) h.2,adi];have h:=h.1;unfold Kq UI UJ at h;simp only[Kn,bF,lK,iJ] at h;unfold wO;have a:c.toNat≠9∧c.toNat≠32∧c.toNat≠35:=by
   rcases h with((h|h)|h)|⟨_,(((h|h)|h)|h)|h⟩
   all_goals first|omega|(rw[h];decide)
  rw[Fz,Fz,uD,uD,uD];refine⟨⟨?_,?_⟩,?_⟩<;>(rintro rfl;revert a;decide)
theorem Od {n:af} (h:dK n=0):n≠[]∧n.any wO=false∧n.contains 34=false∧(ou n).1=n∧(ou n).2=0∧Gd n∧n.length≤64:=by
 have g:=Q8 n h;have l:=tO n h;unfold dK at h;by_cases c:64<n.length
 ·rw[if_pos c] at h;cases h
 rw[if_neg c] at h;by_cases a:xZ 0 n=true∧n≠[]
 ·have d:=nm_sp n 0 a.1
  have b:=H7 g;refine⟨a.2,d,b,?_,Pf b,g,l⟩;unfold ou;rw[b,if_neg (by decide),if_neg (fun e=>e.elim a.2 (fun e=>by rw[d] at e;cases e))]
 rw[if_neg a] at h;cases h
theorem of_zone {n:af} (i:dK n=0) {a:List (af)} (g:a≠[]) (j:a.length≤14) (h: ∀x∈a,Gd x):wN (Es++([32]++n)++([32]++(eF a).1))=(Es::n::a,0):=by
 have b:=r9 a fun y c=>H7 (h y c)
 obtain⟨_,_,_,f,d,_⟩:=Od i;have e:(bX (n::a)).1=[32]++n++([32]++(eF a).1)∧(bX (n::a)).2=0:=by unfold bX;rw[if_pos d,if_pos b,f,Y7 g (by omega) b];exact⟨rfl,rfl⟩
 rw[CJ,←e.1];exact Y6 (by decide) (by decide) (by decide) (by simp only[dN];omega) e.2
section
variable {t:qh} {k:Int} {s:af} {fs:List (af)}
theorem Oe {p:List (af)×Int} (h:wN s=p):dm s=p.1.map V.str∧Ns s=p.2:=by unfold dm Ns;rw[h];exact⟨rfl,rfl⟩
theorem lZ (x:V) (l:ah):tl1 (x::l)=l:=by show fA (x::l) 1 (ay (x::l))=l;show List.take ((x::l).length-1) l=l;rw[dN,Nat.add_sub_cancel,abH]
theorem lI (x:V) (l:ah): ¬ay (x::l)=0:=by rw[aC,dN];omega
theorem Po:mo LC FH=0∧oU LC FH=0:=⟨by kernel_rfl,by kernel_rfl⟩
theorem Pp:mo Es FH=1∧oU Es FH=0:=⟨by kernel_rfl,by kernel_rfl⟩
theorem Pq:mo LD FH=2∧oU LD FH=0:=⟨by kernel_rfl,by kernel_rfl⟩
theorem xN {e n m:Int} (h:e=0) (a:n<m):lT e n m=0:=by unfold lT;rw[if_neg (fun g=>g h),if_pos a]
theorem afr (c:wN s=(LC::fs,0)) (g:Al s=0) (a: ¬0<t.op) (hE:Qz (fs.map V.str)=0) (i:t.rs.length<4096):
  t.err s=0∧t.step k s={t with rs:=t.rs++[Qn (fs.map V.str)],wr:=t.wr++[.int .i64 k]}:=by
 obtain⟨b,d⟩:=Oe c;simp only[rA] at b;have f:gz t.op s=0:=by unfold gz;rw[b,if_neg (lI _ _),if_neg a];exact congrArg Int.toNat Po.1
 constructor
 ·unfold qh.err kJ
  have e:mo (aF (ai (aG (V.str LC::fs.map V.str) 0) 0)) FH=0:=Po.1;rw[b,d,g,if_neg (fun h=>h rfl),if_neg (fun h=>h rfl),if_neg (lI _ _),if_neg a,if_neg (fun h=>h Po.2),e,if_pos rfl,lZ];exact xN hE (by rw[aC];omega)
 rw[jf f,b,lZ];rfl
theorem afs (c:wN s=(LD::fs,0)) (g:Al s=0) (a: ¬0<t.op) (hE:Ub (fs.map V.str)=0) (i:t.ks.length<1024):
  t.err s=0∧t.step k s={t with ks:=t.ks++[UD (fs.map V.str)],wl:=t.wl++[.int .i64 k]}:=by
 obtain⟨b,d⟩:=Oe c;simp only[rA] at b;have f:gz t.op s=2:=by unfold gz;rw[b,if_neg (lI _ _),if_neg a];exact congrArg Int.toNat Pq.1
 constructor
 ·unfold qh.err kJ
  have e:mo (aF (ai (aG (V.str LD::fs.map V.str) 0) 0)) FH=2:=Pq.1;rw[b,d,g,if_neg (fun h=>h rfl),if_neg (fun h=>h rfl),if_neg (lI _ _),if_neg a,if_neg (fun h=>h Pq.2),e,if_neg (by decide),if_neg (by decide),lZ];exact xN hE (by rw[aC];omega)
 rw[jf f,b,lZ];rfl
theorem aft {n:af} (c:wN s=(Es::n::fs,0)) (g:Al s=0) (a: ¬0<t.op) (j:dK n=0) (hE:kT (fs.map V.str)=0) (l:t.zs.length<1024):
  t.err s=0∧t.step k s={t with zs:=t.zs++[zV n [qz (fs.map V.str)]],we:=t.we++[wV [.int .i64 k]],iz:=ay t.zs,yz:=[qz (fs.map V.str)],ie:=ay t.we,ye:=[.int .i64 k],op:=jN (fs.map V.str) k}:=by
 obtain⟨b,d⟩:=Oe c;simp only[rA] at b;have f:gz t.op s=1:=by unfold gz;rw[b,if_neg (lI _ _),if_neg a];exact congrArg Int.toNat Pp.1
 constructor
 ·unfold qh.err kJ
  have e:mo (aF (ai (aG (V.str Es::V.str n::fs.map V.str) 0) 0)) FH=1:=Pp.1;rw[b,d,g,if_neg (fun h=>h rfl),if_neg (fun h=>h rfl),if_neg (lI _ _),if_neg a,if_neg (fun h=>h Pp.2),e,if_neg (by decide),if_pos rfl,lZ];unfold vw;have i:dK (aF (ai (aG (V.str n::fs.map V.str) 0) 0))=0:=j;rw[if_neg (lI _ _),if_neg (fun h=>h i),lZ];exact xN hE (by rw[aC];omega)
 rw[jf f,b,lZ,lZ];show qh.mk _ _ _ _ _ _ _ _ _ _ _=_;unfold tJ;rw[lZ];rfl
theorem era_step {zs we:ah} {n:af} (e:wN s=(fs,0)) (g:fs≠[]) (m:Al s=0) (a:0<t.op) (hE:kT (fs.map V.str)=0) (q:t.yz.length<256) (p:t.zs=zs++[zV n t.yz]) (d:t.we=we++[wV t.ye]):
  t.err s=0∧t.step k s={t with zs:=zs++[zV n (t.yz++[qz (fs.map V.str)])],we:=we++[wV (t.ye++[.int .i64 k])],yz:=t.yz++[qz (fs.map V.str)],ye:=t.ye++[.int .i64 k],op:=jN (fs.map V.str) k}:=by
 obtain⟨b,f⟩:=Oe e;have c: ¬ay (dm s)=0:=by
  rw[b]
  cases fs with
  |nil=>exact absurd rfl g
  |cons x l=>exact lI _ _
 have i:gz t.op s=3:=by unfold gz;rw[if_neg c,if_pos a]
 constructor
 ·unfold qh.err kJ
  rw[f,m,if_neg (fun h=>h rfl),if_neg (fun h=>h rfl),if_neg c,if_pos a,b];exact xN hE (by rw[aC];omega)
 rw[jf i,b];have j:oF t.zs t.yz (fs.map V.str)=zs++[zV n (t.yz++[qz (fs.map V.str)])]:=by
  unfold oF;rw[p,xM];have:aG (zs++[zV n t.yz]) (ay (zs++[zV n t.yz])-1)=zV n t.yz:=by rw[aC,iW,Ec,show((zs.length+1:Nat):Int)-1=(zs.length:Int) from by omega,j6]
  rw[this];rfl
 have o:rD t.we t.ye k=we++[wV (t.ye++[.int .i64 k])]:=by unfold rD;rw[d,xM];rfl
 show qh.mk _ _ _ _ _ _ _ _ _ _ _=_;rw[j,o];rfl
end
theorem Bi: ∀(xs ys:ah) (k:Int) (t:qh),(ni xs k t).2.2=0→ni (xs++ys) k t=ni ys (ni xs k t).2.1 (ni xs k t).1
 |[],ys,k,t,_=>rfl
 |x::xs,ys,k,t,h=>by
  by_cases e:t.err (Uc x)=0
  ·rw[l6 e] at h⊢
   rw[Nj,l6 e];exact Bi xs ys (k+1) _ h
  rw[uz e] at h;exact absurd h e
theorem BO {s:af} {ys:ah} {k:Int} {t u:qh} (h:t.err s=0∧t.step (k+1) s=u):ni (.str s::ys) k t=ni ys (k+1) u:=by rw[l6 (x:=.str s) h.1];show ni ys (k+1) (t.step (k+1) s)=_;rw[h.2]
def nums (k:Int):Nat→ah
 |0=>[]
 |n+1=> .int .i64 (k+1)::nums (k+1) n
def RuleL (s:af) (x:V):Prop:=∃a:List (af),wN s=(LC::a,0)∧Al s=0∧Qz (a.map V.str)=0∧Qn (a.map V.str)=x
def LinkL (s:af) (x:V):Prop:=∃a:List (af),wN s=(LD::a,0)∧Al s=0∧Ub (a.map V.str)=0∧UD (a.map V.str)=x
def EraL (s:af) (x:V):Prop:=∃a:List (af),a≠[]∧wN s=(a,0)∧Al s=0∧kT (a.map V.str)=0∧qz (a.map V.str)=x
def ZoneL (n s:af) (x:V):Prop:=∃a:List (af),wN s=(Es::n::a,0)∧Al s=0∧dK n=0∧kT (a.map V.str)=0∧qz (a.map V.str)=x
theorem M8: ∀(L:List (af×V)) (k:Int) (t:qh),(∀p∈L,RuleL p.1 p.2)→ ¬0<t.op→t.rs.length+L.length≤4096→
  ni (L.map fun p=>V.str p.1) k t=({t with rs:=t.rs++L.map (·.2),wr:=t.wr++nums k L.length},k+(L.length:Int),0)
 |[],k,t,_,_,_=>by show(t,k,(0:Int))=_;simp[nums]
 |(s,x)::L,k,t,hL,e,f=>by
  obtain⟨h,a,b,c,d⟩:=hL _ rf;have i:=afr (t:=t) (k:=k+1) a b e c (by simp only[dN] at f;omega);rw[rA,BO i,M8 L (k+1) {t with rs:=t.rs++[Qn (h.map V.str)],wr:=t.wr++[.int .i64 (k+1)]} (fun p g=>hL p (uO _ g)) e (by simp only[dN,iW,mr] at f⊢;omega)];simp only[d,nums,rA,CJ,abu,dN];congr 1;congr 1
  omega
theorem M9: ∀(L:List (af×V)) (k:Int) (t:qh),(∀p∈L,LinkL p.1 p.2)→ ¬0<t.op→t.ks.length+L.length≤1024→
  ni (L.map fun p=>V.str p.1) k t=({t with ks:=t.ks++L.map (·.2),wl:=t.wl++nums k L.length},k+(L.length:Int),0)
 |[],k,t,_,_,_=>by show(t,k,(0:Int))=_;simp[nums]
 |(s,x)::L,k,t,hL,e,f=>by
  obtain⟨h,a,b,c,d⟩:=hL _ rf;have i:=afs (t:=t) (k:=k+1) a b e c (by simp only[dN] at f;omega);rw[rA,BO i,M9 L (k+1) {t with ks:=t.ks++[UD (h.map V.str)],wl:=t.wl++[.int .i64 (k+1)]} (fun p g=>hL p (uO _ g)) e (by simp only[dN,iW,mr] at f⊢;omega)];simp only[d,nums,rA,CJ,abu,dN];congr 1;congr 1
  omega
theorem Sn {zs we:ah} {n:af}: ∀(L:List (af×V)) (k:Int) (t:qh),0≤k→(∀p∈L,EraL p.1 p.2)→(0<t.op∨L=[])→(∀i (h:i<L.length),AO (L[i]).2=decide (i+1<L.length))→t.yz.length+L.length≤256→t.zs=zs++[zV n t.yz]→t.we=we++[wV t.ye]→(L=[]→t.op=0)→
  ∃iz ie,ni (L.map fun p=>V.str p.1) k t=({t with zs:=zs++[zV n (t.yz++L.map (·.2))],we:=we++[wV (t.ye++nums k L.length)],iz:=iz,yz:=t.yz++L.map (·.2),ie:=ie,ye:=t.ye++nums k L.length,op:=0},k+(L.length:Int),0)
 |[],k,t,_,_,_,_,_,j,l,e=>by refine⟨t.iz,t.ie,?_⟩;show(t,k,(0:Int))=_;have e:=e rfl;obtain⟨M,N,G,I,H,K,E,D,J,v,z⟩:=t;simp only at j l e;simp[nums,j,l,e]
 |(s,x)::L,k,t,F,hL,e,q,r,j,l,_=>by
  obtain⟨f,B,a,b,c,d⟩:=hL _ rf;have e:0<t.op:=e.elim id (fun h=>nomatch h);have A:=era_step (t:=t) (k:=k+1) a B b e c (by simp only[dN] at r;omega) j l;have o:FF (f.map V.str)=decide (0+1<((s,x)::L).length):=by have:=q 0 (by simp);rw[←this];have u:qz (f.map V.str)=x:=d;show _=AO x;rw[←u];rfl
  have m:0<jN (f.map V.str) (k+1)∨L=[]:=by
   unfold jN;rw[o]
   cases L with
   |nil=>exact .inr rfl
   |cons y L=>left;rw[if_pos (by simp)];omega
  have g:L=[]→jN (f.map V.str) (k+1)=0:=by rintro rfl;unfold jN;rw[o,if_neg (by simp)]
  obtain⟨iz,ie,C⟩:=Sn (zs:=zs) (we:=we) (n:=n) L (k+1) {t with zs:=zs++[zV n (t.yz++[qz (f.map V.str)])],we:=we++[wV (t.ye++[.int .i64 (k+1)])],yz:=t.yz++[qz (f.map V.str)],ye:=t.ye++[.int .i64 (k+1)],op:=jN (f.map V.str) (k+1)} (by omega) (fun p w=>hL p (uO _ w)) m (fun i h=>by have:=q (i+1) (by simp only[dN];omega);simp only[List.getElem_cons_succ,dN] at this;rw[this];exact decide_eq_decide.2 (by omega)) (by simp only[dN,iW,mr] at r⊢;omega) rfl rfl g;refine⟨iz,ie,?_⟩;rw[rA,BO A,C];simp only[d,nums,rA,CJ,abu,dN];congr 1;congr 1
  omega
structure Zn where
 n:af
 s:af
 x:V
 L:List (af×V)
def Zn.ok (z:Zn):Prop:=ZoneL z.n z.s z.x∧(∀p∈z.L,EraL p.1 p.2)∧z.L.length+1≤256∧AO z.x=decide (0<z.L.length)∧ ∀i (h:i<z.L.length),AO (z.L[i]).2=decide (i+1<z.L.length)
def Zn.lines (z:Zn):List (af):=z.s::z.L.map (·.1)
def Zn.v (z:Zn):V:=zV z.n (z.x::z.L.map (·.2))
theorem run_zone {z:Zn} (w:z.ok) (k:Int) (t:qh) (A:0≤k) (l: ¬0<t.op) (o:t.zs.length<1024):
  ∃iz yz ie ye,ni (z.lines.map V.str) k t=({t with zs:=t.zs++[z.v],we:=t.we++[wV (nums k z.lines.length)],iz:=iz,yz:=yz,ie:=ie,ye:=ye,op:=0},k+(z.lines.length:Int),0):=by
 obtain⟨⟨f,a,b,c,d,e⟩,m,y,s,u⟩:=w;have q:=aft (t:=t) (k:=k+1) a b l c d o;have j:FF (f.map V.str)=decide (0<z.L.length):=by rw[←s];show _=AO z.x;rw[←e];rfl
 have i:0<jN (f.map V.str) (k+1)∨z.L=[]:=by
  unfold jN;rw[j];by_cases h:0<z.L.length
  ·left;rw[if_pos (uG h)];omega
  exact .inr (Zw (by omega))
 have g:z.L=[]→jN (f.map V.str) (k+1)=0:=by intro h;unfold jN;rw[j,h,if_neg (by decide)]
 obtain⟨iz,ie,r⟩:=Sn (zs:=t.zs) (we:=t.we) (n:=z.n) z.L (k+1) {t with zs:=t.zs++[zV z.n [qz (f.map V.str)]],we:=t.we++[wV [.int .i64 (k+1)]],iz:=ay t.zs,yz:=[qz (f.map V.str)],ie:=ay t.we,ye:=[.int .i64 (k+1)],op:=jN (f.map V.str) (k+1)} (by omega) m i u (by simp only[dN,mr];omega) rfl rfl g;refine⟨iz,[qz (f.map V.str)]++z.L.map (·.2),ie,[.int .i64 (k+1)]++nums (k+1) z.L.length,?_⟩;unfold Zn.lines;rw[rA,BO q,F3];rw[show(z.L.map (V.str ∘ fun x=>x.1))=z.L.map (fun p=>V.str p.1) from rfl,r];simp only[e,Zn.v,nums,abu,dN,kS];congr 1;congr 1
 omega
def AZ (k:Int):List Zn→ah
 |[]=>[]
 |z::l=>wV (nums k z.lines.length)::AZ (k+(z.lines.length:Int)) l
def jg (l:List Zn):List (af):=(l.map Zn.lines).flatten
theorem Na: ∀(l:List Zn) (k:Int) (t:qh),0≤k→(∀z∈l,z.ok)→t.op=0→t.zs.length+l.length≤1024→
  ∃iz yz ie ye,ni ((jg l).map V.str) k t=({t with zs:=t.zs++l.map Zn.v,we:=t.we++AZ k l,iz:=iz,yz:=yz,ie:=ie,ye:=ye,op:=0},k+((jg l).length:Int),0)
 |[],k,t,_,_,c,_=>by refine⟨t.iz,t.yz,t.ie,t.ye,?_⟩;show(t,k,(0:Int))=_;obtain⟨B,C,s,w,u,A,r,q,x,n,o⟩:=t;simp only at c;simp[jg,AZ,c]
 |z::l,k,t,m,h,c,i=>by
  obtain⟨iz,yz,ie,ye,g⟩:=run_zone (h z rf) k t m (by omega) (by simp only[dN] at i;omega);obtain⟨b,f,a,d,j⟩:=Na l (k+(z.lines.length:Int)) {t with zs:=t.zs++[z.v],we:=t.we++[wV (nums k z.lines.length)],iz:=iz,yz:=yz,ie:=ie,ye:=ye,op:=0} (by omega) (fun y p=>h y (uO _ p)) rfl (by simp only[dN,iW,mr] at i⊢;omega);refine⟨b,f,a,d,?_⟩;have e:jg (z::l)=z.lines++jg l:=by unfold jg;rw[rA,abO]
  rw[e,aci,Bi _ _ _ _ (by rw[g]),g];simp only;rw[j];simp only[AZ,rA,CJ,abu,iW];congr 1;congr 1
  omega
def Eff (l rs zs ks:ah):Prop:=∀(k:Int) (t:qh),0≤k→t.op=0→t.rs.length+rs.length≤4096→t.zs.length+zs.length≤1024→t.ks.length+ks.length≤1024→
 ∃u:qh,ni l k t=(u,k+(l.length:Int),0)∧u.rs=t.rs++rs∧u.zs=t.zs++zs∧u.ks=t.ks++ks∧u.op=0
theorem Eff.app {a g c l l2 h d b:ah} (y:Eff a g c l) (o:Eff l2 h d b):Eff (a++l2) (g++h) (c++d) (l++b):=by
 intro k t s n A q B;rw[iW] at A q B;obtain⟨u,e,j,f,i,m⟩:=y k t s n (by omega) (by omega) (by omega);obtain⟨w,x,r,z,v,p⟩:=o (k+(a.length:Int)) u (by omega) m (by rw[j,iW];omega) (by rw[f,iW];omega) (by rw[i,iW];omega);refine⟨w,?_,by rw[r,j,CJ],by rw[z,f,CJ],by rw[v,i,CJ],p⟩;rw[Bi _ _ _ _ (by rw[e]),e];show ni l2 (k+(a.length:Int)) u=_;rw[x,iW];congr 1
 congr 1
 omega
theorem pr_ten {s:af} (h:Pr s):s.contains 10=false:=by rw[←ac9,abt];intro a;have:=(h _ a).1;revert this;decide
abbrev Qo (x:V):V:=.agg [.str (aF (ai x 0)),.int .i64 (asInt (ai x 1)),.int .i64 (asInt (ai x 2)),.int .i64 (asInt (ai x 3)),.int .i64 (asInt (ai x 4)),.int .i64 (asInt (ai x 5)),.int .i64 (asInt (ai x 6)),.int .i64 (asInt (ai x 7)),.int .i64 (asInt (ai x 8)),.int .i64 (asInt (ai x 9)),.str (aF (ai x 10))]
noncomputable def Ar (x:V):af:=dZ [82,117,108,101,32] (tC (rfV (aF (ai x 0)) (asInt (ai x 1)) (asInt (ai x 2)) (asInt (ai x 3)) (asInt (ai x 4)) (asInt (ai x 5)) (asInt (ai x 6)) (asInt (ai x 7)) (asInt (ai x 8)) (asInt (ai x 9)) (aF (ai x 10))))
noncomputable def zm (x:V):af:=dZ [76,105,110,107,32] (tC (fdL (aF (ai x 0)) (aF (ai x 1))))
def FM (s:af):Prop:=Pr s∧s.length≤511
theorem H8 (a:List (af)):tC (a.map V.str)=(eF a).1∧rz (a.map V.str)=(eF a).2∧jnC (a.map V.str)=decide (nU a≤3000000):=Pn a
theorem rlS_ok {x:V} (h:rgtR x=true):RuleL (Ar x) (Qo x)∧FM (Ar x)∧jnC (rfV (aF (ai x 0)) (asInt (ai x 1)) (asInt (ai x 2)) (asInt (ai x 3)) (asInt (ai x 4)) (asInt (ai x 5)) (asInt (ai x 6)) (asInt (ai x 7)) (asInt (ai x 8)) (asInt (ai x 9)) (aF (ai x 10)))=true:=by
 unfold rgtR at h;obtain⟨g1,m⟩:=Y2 _ _ _ _ _ _ _ _ _ _ _ h;obtain⟨t,l2,q,r⟩:=Gp _ g1 (by show 9≤16;omega) m;obtain⟨s,g⟩:=ru_back _ _ _ _ _ _ _ _ _ _ _ h;obtain⟨r0,f,j,e,k,p,l,n,o,i,b,rE⟩:=rd_inj _ g;have c:rfV (aF (ai x 0)) (asInt (ai x 1)) (asInt (ai x 2)) (asInt (ai x 3)) (asInt (ai x 4)) (asInt (ai x 5)) (asInt (ai x 6)) (asInt (ai x 7)) (asInt (ai x 8)) (asInt (ai x 9)) (aF (ai x 10))=(rfS (aF (ai x 0)) (asInt (ai x 1)) (asInt (ai x 2)) (asInt (ai x 3)) (asInt (ai x 4)) (asInt (ai x 5)) (asInt (ai x 6)) (asInt (ai x 7)) (asInt (ai x 8)) (asInt (ai x 9)) (aF (ai x 10))).map V.str:=by unfold rfV;rw[h];rfl
 have d:Ar x=LC++([32]++(eF (rfS (aF (ai x 0)) (asInt (ai x 1)) (asInt (ai x 2)) (asInt (ai x 3)) (asInt (ai x 4)) (asInt (ai x 5)) (asInt (ai x 6)) (asInt (ai x 7)) (asInt (ai x 8)) (asInt (ai x 9)) (aF (ai x 10)))).1):=by unfold Ar;rw[c,(H8 _).1];rfl
 have a:FM (Ar x):=by rw[d];refine⟨mF (by decide) (mF (by decide) q),?_⟩;rw[iW,iW];have:(rfS (aF (ai x 0)) (asInt (ai x 1)) (asInt (ai x 2)) (asInt (ai x 3)) (asInt (ai x 4)) (asInt (ai x 5)) (asInt (ai x 6)) (asInt (ai x 7)) (asInt (ai x 8)) (asInt (ai x 9)) (aF (ai x 10))).length=9:=rfl;simp only[dN,mr];omega
 refine⟨⟨rfS (aF (ai x 0)) (asInt (ai x 1)) (asInt (ai x 2)) (asInt (ai x 3)) (asInt (ai x 4)) (asInt (ai x 5)) (asInt (ai x 6)) (asInt (ai x 7)) (asInt (ai x 8)) (asInt (ai x 9)) (aF (ai x 10)),?_,Gq _ a.1 a.2,rE,?_⟩,a,?_⟩
 ·rw[d]
  exact Y8 (by decide) (by decide) (by decide) (by intro h;cases h) (by show 9≤15;omega) g1
 ·show Qn (rfL (aF (ai x 0)) (asInt (ai x 1)) (asInt (ai x 2)) (asInt (ai x 3)) (asInt (ai x 4)) (asInt (ai x 5)) (asInt (ai x 6)) (asInt (ai x 7)) (asInt (ai x 8)) (asInt (ai x 9)) (aF (ai x 10)))=_
  unfold Qn;rw[r0,f,j,e,k,p,l,n,o,i,b]
 rw[c,(H8 _).2.2];exact uG (by omega)
theorem lkS_ok {x:V} (h:rgtL x=true):LinkL (zm x) (.agg [.str (aF (ai x 0)),.str (aF (ai x 1))])∧FM (zm x)∧jnC (fdL (aF (ai x 0)) (aF (ai x 1)))=true:=by
 unfold rgtL at h;have b:fdL (aF (ai x 0)) (aF (ai x 1))=[aF (ai x 0),aF (ai x 1)].map V.str:=by unfold fdL;rw[if_pos h];rfl
 unfold rgB at h;rw[lK,uK,uK] at h;obtain⟨f,c,i⟩:=h;obtain⟨_,_,_,_,_,j,o⟩:=Od f;obtain⟨_,_,_,_,_,k,m⟩:=Od c;have g1: ∀y∈[aF (ai x 0),aF (ai x 1)],Gd y:=by
  intro y d;rw[ZA,Ni] at d;rcases d with rfl|rfl
  ·exact j
  exact k
 have n:nU [aF (ai x 0),aF (ai x 1)]≤128:=by show(aF (ai x 0)).length+((aF (ai x 1)).length+0)≤128;omega
 obtain⟨p,l2,l,g⟩:=Gp _ g1 (by show 2≤16;omega) (by omega);have e:zm x=LD++([32]++(eF [aF (ai x 0),aF (ai x 1)]).1):=by unfold zm;rw[b,(H8 _).1];rfl
 have a:FM (zm x):=by rw[e];refine⟨mF (by decide) (mF (by decide) l),?_⟩;rw[iW,iW];simp only[dN,mr] at g⊢;omega
 have hE:Ub ([aF (ai x 0),aF (ai x 1)].map V.str)=0:=by unfold Ub;rw[show ay ([aF (ai x 0),aF (ai x 1)].map V.str)=2 from rfl,if_neg (by decide),if_neg (by decide)];have q:Ks (Nm.dK (aF (ai x 0))) (Nm.dK (aF (ai x 1)))=0:=(Ji _ _).2 ⟨(uK _).trans f,(uK _).trans c⟩;show(if Ks (Nm.dK (aF (ai x 0))) (Nm.dK (aF (ai x 1)))≠0 then _ else if aF (ai x 0)=aF (ai x 1) then(13:Int) else 0)=0;rw[if_neg (fun h=>h q),if_neg i]
 refine⟨⟨[aF (ai x 0),aF (ai x 1)],?_,Gq _ a.1 a.2,hE,?_⟩,a,?_⟩
 ·rw[e]
  exact Y8 (by decide) (by decide) (by decide) (by intro h;cases h) (by show 2≤15;omega) g1
 ·unfold UD lrT lrN
  rw[if_pos hE,if_pos hE];rfl
 rw[b,(H8 _).2.2];exact uG (by omega)
section
variable (o:Int) (k:Int) (v:Int) (r:af) (q:af) (h:Bool) (y:Int) (m:Int) (ok:Int) (ow:Int) (od:Int) (c:Int) (b:Int)
abbrev agE:V:=.agg [.int .i64 o,.int .i64 k,.int .i64 v,.str r,.str q,.bool h,.int .i64 y,.int .i64 m,.int .i64 ok,.int .i64 ow,.int .i64 od,.int .i64 c,.int .i64 b]
theorem era_line (g:G8 o k v r q h y m ok ow od c b=true):(∃a:List (af),a≠[]∧efV o k v r q h y m ok ow od c b=a.map V.str∧(∀x∈a,Gd x)∧a.length≤7∧Pr (eF a).1∧(eF a).1.length≤430∧kT (a.map V.str)=0∧qz (a.map V.str)=agE o k v r q h y m ok ow od c b)∧jnC (efV o k v r q h y m ok ow od c b)=true:=by
 obtain⟨g1,B,C⟩:=Y3 o k v r q h y m ok ow od c b g;obtain⟨G,l2,D,E⟩:=Gp _ g1 (by omega) B;obtain⟨F,A⟩:=er_back o k v r q h y m ok ow od c b g;obtain⟨r0,l,p,j,s,z,t,u,w,n,e,f,d,rE⟩:=er_inj _ A;have i:efV o k v r q h y m ok ow od c b=(efS o k v r q h y m ok ow od c b).map V.str:=by unfold efV;rw[g];exact Pm o k v r q h y m ok ow od c b
 rw[Pm] at rE r0 l p j s z t u w n e f d;refine⟨⟨_,?_,i,g1,C,D,by omega,rE,?_⟩,?_⟩
 ·intro h;unfold efS at h;cases h
 ·show qz (bI (efS o k v r q h y m ok ow od c b))=_
  unfold qz;rw[r0,l,p,j,s,z,t,u,w,n,e,f,d]
 rw[i,(H8 _).2.2];exact uG (by omega)
end
theorem Y9: ∀(l:List (af)),(∀x∈l,FM x)→(xR l).length≤512*l.length
 |[],_=>by simp[xR]
 |x::l,h=>by have c:=(h x rf).2;have b:=Y9 l (fun y a=>h y (uO _ a));rw[Si];simp only[iW,dN,mr];omega
theorem okA (a b:ah) (h:a.length+b.length≤1000):dh a b=true:=by rw[gW];omega
section
variable (F:Nat) (xs ls:ah) (o:Int) (k:Int) (v:Int) (r:af) (q:af) (h:Bool) (y:Int) (m:Int) (ok:Int) (ow:Int) (od:Int) (c:Int) (b:Int) (o2:Int) (k2:Int) (v2:Int) (r2:af) (q2:af) (h2:Bool) (y2:Int) (m2:Int) (ok2:Int) (ow2:Int) (od2:Int) (c2:Int) (b2:Int) (w1 w2:Int) (g1 g2 g3:ah)
end
end Nt.Ev.YtjcencojgajgdaaGreatDoor.Rr
