/-
  Lines of rules, zones, eras and links, as they are written, are read so: the plain law of the reader's run. TopAny: equations of functions, as the evaluator prints them. TopAnyOrder: the law, by the evaluator. TopAnyOrder: what the cells of its arguments are.
-/
import Derived.Test.YtplklcejbmfgdaaGreatDoorMXP
import Derived.Test.YtplklcejbmfgdaaGreatDoorMXA
import Derived.Test.YtplklcejbmfgdaaGreatDoorMZ
set_option linter.unusedVariables false
set_option linter.unusedSimpArgs false
set_option linter.unusedSectionVars false
namespace Nt.Ev.YtplklcejbmfgdaaGreatDoor.Rr
set_option maxRecDepth 100000
open Go Nt Nt.Num Nt.Civil Nt.Fld Nt.Lin Go.Proofs.YtplklcejbmfgdaaGreatDoor Nt.Ev.YtplklcejbmfgdaaGreatDoor Nt.Ev.YtplklcejbmfgdaaGreatDoor.Lk
variable [nP]
abbrev Kj:List UInt8:=[82,117,108,101]
abbrev Dx:List UInt8:=[90,111,110,101]
abbrev Kk:List UInt8:=[76,105,110,107]
theorem WZ {a:List UInt8} (h34:a.contains 34=false) (hs:a.any vZ=false) (h0:a≠[]) {l:List (List UInt8)} (hl:l.length≤15) (hj:(bL l).2=0):EE (a++(bL l).1)=(a::l,0):=by
 unfold EE;rw[Ho _ _ a [] false h34 hs,List.nil_append];have he:(false|| !a.isEmpty)=true:=by cases a with
  |nil=>exact absurd rfl h0
  |cons c t=>rfl
 rw[he];have:=Hq [] l [] a hj;rw[List.append_nil,List.nil_append] at this;rw[this];show Ao (oV true ((a::l).dropLast) ((a::l).getLast _))=_;have e3:oV true ((a::l).dropLast) ((a::l).getLast (by simp))=a::l:=by
  show((a::l).dropLast)++[(a::l).getLast _]=_;rw[List.dropLast_concat_getLast]
 rw[e3];unfold Ao;rw[if_neg (by simp only[List.length_cons];omega)]
theorem W9 {fs:List (List UInt8)} (h0:fs≠[]) (hl:fs.length≤16) (hj:(bL fs).2=0):(bL fs).1=[32]++(fw fs).1:=by
 have h1:fw fs=((bL fs).1.drop 1,0):=by unfold fw;rw[if_neg (by omega),if_pos hj]
 rw[h1]
 cases fs with
 |nil=>exact absurd rfl h0
 |cons x l=>
  unfold bL at hj⊢;by_cases h4:(oh x).2=0
  ·rw[if_pos h4] at hj⊢
   by_cases h5:(bL l).2=0
   ·rw[if_pos h5];simp
   ·rw[if_neg h5] at hj;exact absurd hj h5
  ·rw[if_neg h4] at hj;exact absurd hj h4
theorem Xa {a:List UInt8} (h34:a.contains 34=false) (hs:a.any vZ=false) (ha:a≠[]) {fs:List (List UInt8)} (h0:fs≠[]) (hl:fs.length≤15) (hg: ∀x∈fs,Gd x):EE (a++([32]++(fw fs).1))=(a::fs,0):=by
 have hj:=rO fs fun y hy=>Ga (hg y hy)
 rw[←W9 h0 (by omega) hj];exact WZ h34 hs ha hl hj
theorem Og {fs:List (List UInt8)} (h0:fs≠[]) (hl:fs.length≤16) (hg: ∀x∈fs,Gd x):EE ([32]++(fw fs).1)=(fs,0):=by
 have hj:=rO fs fun y hy=>Ga (hg y hy)
 have h1:(fw fs).2=0:=by unfold fw;rw[if_neg (by omega),if_pos hj]
 exact Wp fs h1
theorem nm_sp: ∀(s:List UInt8) (k:Nat),Nt.Ev.YtplklcejbmfgdaaGreatDoor.B6 k s=true→s.any vZ=false
 |[],_,_=>rfl
 |c::t,k,h=>by
  unfold B6 at h;rw[Bool.and_eq_true] at h;rw[List.any_cons,nm_sp t (k+1) h.2,Bool.or_false];have h:=h.1;unfold LH Sy Sz at h;simp only[Bool.or_eq_true,Bool.and_eq_true,decide_eq_true_eq,beq_iff_eq] at h;unfold vZ;have key:c.toNat≠9∧c.toNat≠32∧c.toNat≠35:=by
   rcases h with((h|h)|h)|⟨_,(((h|h)|h)|h)|h⟩
   all_goals first|omega|(rw[h];decide)
  rw[Bool.or_eq_false_iff,Bool.or_eq_false_iff,beq_eq_false_iff_ne,beq_eq_false_iff_ne,beq_eq_false_iff_ne];refine⟨⟨?_,?_⟩,?_⟩<;>(rintro rfl;revert key;decide)
theorem TG {n:List UInt8} (h:dZ n=0):n≠[]∧n.any vZ=false∧n.contains 34=false∧(oh n).1=n∧(oh n).2=0∧Gd n∧n.length≤64:=by
 have g:=gd_nm n h;have l:=zq n h;unfold dZ at h;by_cases h1:64<n.length
 ·rw[if_pos h1] at h;cases h
 rw[if_neg h1] at h;by_cases h2:B6 0 n=true∧n≠[]
 ·have hs:=nm_sp n 0 h2.1
  have h3:=Ga g;refine⟨h2.2,hs,h3,?_,Nv h3,g,l⟩;unfold oh;rw[h3,if_neg (by decide),if_neg (fun e=>e.elim h2.2 (fun e=>by rw[hs] at e;cases e))]
 ·rw[if_neg h2] at h;cases h
theorem of_zone {n:List UInt8} (hn:dZ n=0) {fs:List (List UInt8)} (h0:fs≠[]) (hl:fs.length≤14) (hg: ∀x∈fs,Gd x):EE (Dx++([32]++n)++([32]++(fw fs).1))=(Dx::n::fs,0):=by
 have hj:=rO fs fun y hy=>Ga (hg y hy)
 obtain⟨_,_,_,h1,h2,_⟩:=TG hn;have e:(bL (n::fs)).1=[32]++n++([32]++(fw fs).1)∧(bL (n::fs)).2=0:=by
  unfold bL;rw[if_pos h2,if_pos hj,h1,W9 h0 (by omega) hj];exact⟨rfl,rfl⟩
 rw[List.append_assoc,←e.1];exact WZ (by decide) (by decide) (by decide) (by simp only[List.length_cons];omega) e.2
section
variable {t:qg} {k:Int} {s:List UInt8} {fs:List (List UInt8)}
theorem MN {p:List (List UInt8)×Int} (h:EE s=p):cK s=p.1.map V.str∧LP s=p.2:=by
 unfold cK LP;rw[h];exact⟨rfl,rfl⟩
theorem lV (x:V) (l:List V):tl1 (x::l)=l:=by
 show dX (x::l) 1 (av (x::l))=l;show List.take ((x::l).length-1) l=l;rw[List.length_cons,Nat.add_sub_cancel,List.take_length]
theorem lF (x:V) (l:List V): ¬av (x::l)=0:=by rw[aA,List.length_cons];omega
theorem ND:mh Kj EG=0∧oM Kj EG=0:=⟨by kernel_rfl,by kernel_rfl⟩
theorem NE:mh Dx EG=1∧oM Dx EG=0:=⟨by kernel_rfl,by kernel_rfl⟩
theorem NF:mh Kk EG=2∧oM Kk EG=0:=⟨by kernel_rfl,by kernel_rfl⟩
theorem wZ {e n m:Int} (h:e=0) (hn:n<m):lN e n m=0:=by unfold lN;rw[if_neg (fun g=>g h),if_pos hn]
theorem ZR (ho:EE s=(Kj::fs,0)) (hc:Af s=0) (hop: ¬0<t.op) (hE:Oy (fs.map V.str)=0) (hr:t.rs.length<4096):
  t.err s=0∧t.step k s={t with rs:=t.rs++[On (fs.map V.str)],wr:=t.wr++[.int .i64 k]}:=by
 obtain⟨h1,h2⟩:=MN ho;simp only[List.map_cons] at h1;have kd:fQ t.op s=0:=by
  unfold fQ;rw[h1,if_neg (lF _ _),if_neg hop];exact congrArg Int.toNat ND.1
 constructor
 ·unfold qg.err kF
  have e:mh (aH (ah (aX (V.str Kj::fs.map V.str) 0) 0)) EG=0:=ND.1;rw[h1,h2,hc,if_neg (fun h=>h rfl),if_neg (fun h=>h rfl),if_neg (lF _ _),if_neg hop,if_neg (fun h=>h ND.2),e,if_pos rfl,lV];exact wZ hE (by rw[aA];omega)
 ·rw[iU kd,h1,lV]
  rfl
theorem ZS (ho:EE s=(Kk::fs,0)) (hc:Af s=0) (hop: ¬0<t.op) (hE:RP (fs.map V.str)=0) (hr:t.ks.length<1024):
  t.err s=0∧t.step k s={t with ks:=t.ks++[RQ (fs.map V.str)],wl:=t.wl++[.int .i64 k]}:=by
 obtain⟨h1,h2⟩:=MN ho;simp only[List.map_cons] at h1;have kd:fQ t.op s=2:=by
  unfold fQ;rw[h1,if_neg (lF _ _),if_neg hop];exact congrArg Int.toNat NF.1
 constructor
 ·unfold qg.err kF
  have e:mh (aH (ah (aX (V.str Kk::fs.map V.str) 0) 0)) EG=2:=NF.1;rw[h1,h2,hc,if_neg (fun h=>h rfl),if_neg (fun h=>h rfl),if_neg (lF _ _),if_neg hop,if_neg (fun h=>h NF.2),e,if_neg (by decide),if_neg (by decide),lV];exact wZ hE (by rw[aA];omega)
 ·rw[iU kd,h1,lV]
  rfl
theorem ZT {n:List UInt8} (ho:EE s=(Dx::n::fs,0)) (hc:Af s=0) (hop: ¬0<t.op) (hn:dZ n=0) (hE:kT (fs.map V.str)=0) (hr:t.zs.length<1024):
  t.err s=0∧t.step k s={t with zs:=t.zs++[zV n [qK (fs.map V.str)]],we:=t.we++[wV [.int .i64 k]],iz:=av t.zs,yz:=[qK (fs.map V.str)],ie:=av t.we,ye:=[.int .i64 k],op:=jw (fs.map V.str) k}:=by
 obtain⟨h1,h2⟩:=MN ho;simp only[List.map_cons] at h1;have kd:fQ t.op s=1:=by
  unfold fQ;rw[h1,if_neg (lF _ _),if_neg hop];exact congrArg Int.toNat NE.1
 constructor
 ·unfold qg.err kF
  have e:mh (aH (ah (aX (V.str Dx::V.str n::fs.map V.str) 0) 0)) EG=1:=NE.1;rw[h1,h2,hc,if_neg (fun h=>h rfl),if_neg (fun h=>h rfl),if_neg (lF _ _),if_neg hop,if_neg (fun h=>h NE.2),e,if_neg (by decide),if_pos rfl,lV];unfold uH;have e2:dZ (aH (ah (aX (V.str n::fs.map V.str) 0) 0))=0:=hn;rw[if_neg (lF _ _),if_neg (fun h=>h e2),lV];exact wZ hE (by rw[aA];omega)
 ·rw[iU kd,h1,lV,lV]
  show qg.mk _ _ _ _ _ _ _ _ _ _ _=_;unfold sJ;rw[lV];rfl
theorem era_step {zs we:List V} {n:List UInt8} (ho:EE s=(fs,0)) (h0:fs≠[]) (hc:Af s=0) (hop:0<t.op) (hE:kT (fs.map V.str)=0) (hr:t.yz.length<256) (hz:t.zs=zs++[zV n t.yz]) (hw:t.we=we++[wV t.ye]):
  t.err s=0∧t.step k s={t with zs:=zs++[zV n (t.yz++[qK (fs.map V.str)])],we:=we++[wV (t.ye++[.int .i64 k])],yz:=t.yz++[qK (fs.map V.str)],ye:=t.ye++[.int .i64 k],op:=jw (fs.map V.str) k}:=by
 obtain⟨h1,h2⟩:=MN ho;have hn: ¬av (cK s)=0:=by
  rw[h1]
  cases fs with
  |nil=>exact absurd rfl h0
  |cons x l=>exact lF _ _
 have kd:fQ t.op s=3:=by
  unfold fQ;rw[if_neg hn,if_pos hop]
 constructor
 ·unfold qg.err kF
  rw[h2,hc,if_neg (fun h=>h rfl),if_neg (fun h=>h rfl),if_neg hn,if_pos hop,h1];exact wZ hE (by rw[aA];omega)
 ·rw[iU kd,h1]
  have e1:oq t.zs t.yz (fs.map V.str)=zs++[zV n (t.yz++[qK (fs.map V.str)])]:=by
   unfold oq;rw[hz,wY];have:aX (zs++[zV n t.yz]) (av (zs++[zV n t.yz])-1)=zV n t.yz:=by
    rw[aA,List.length_append,List.length_singleton,show((zs.length+1:Nat):Int)-1=(zs.length:Int) from by omega,jX]
   rw[this];rfl
  have e2:q8 t.we t.ye k=we++[wV (t.ye++[.int .i64 k])]:=by
   unfold q8;rw[hw,wY];rfl
  show qg.mk _ _ _ _ _ _ _ _ _ _ _=_;rw[e1,e2];rfl
end
theorem Xb: ∀(xs ys:List V) (k:Int) (t:qg),(ou xs k t).2.2=0→ou (xs++ys) k t=ou ys (ou xs k t).2.1 (ou xs k t).1
 |[],ys,k,t,_=>rfl
 |x::xs,ys,k,t,h=>by
  by_cases e:t.err (RS x)=0
  ·rw[lW e] at h⊢
   rw[List.cons_append,lW e];exact Xb xs ys (k+1) _ h
  ·rw[tO e] at h
   exact absurd h e
theorem BF {s:List UInt8} {ys:List V} {k:Int} {t u:qg} (h:t.err s=0∧t.step (k+1) s=u):ou (.str s::ys) k t=ou ys (k+1) u:=by
 rw[lW (x:=.str s) h.1];show ou ys (k+1) (t.step (k+1) s)=_;rw[h.2]
def nums (k:Int):Nat→List V
 |0=>[]
 |n+1=> .int .i64 (k+1)::nums (k+1) n
def RuleL (s:List UInt8) (x:V):Prop:=∃fs:List (List UInt8),EE s=(Kj::fs,0)∧Af s=0∧Oy (fs.map V.str)=0∧On (fs.map V.str)=x
def LinkL (s:List UInt8) (x:V):Prop:=∃fs:List (List UInt8),EE s=(Kk::fs,0)∧Af s=0∧RP (fs.map V.str)=0∧RQ (fs.map V.str)=x
def EraL (s:List UInt8) (x:V):Prop:=∃fs:List (List UInt8),fs≠[]∧EE s=(fs,0)∧Af s=0∧kT (fs.map V.str)=0∧qK (fs.map V.str)=x
def ZoneL (n s:List UInt8) (x:V):Prop:=∃fs:List (List UInt8),EE s=(Dx::n::fs,0)∧Af s=0∧dZ n=0∧kT (fs.map V.str)=0∧qK (fs.map V.str)=x
theorem LC: ∀(L:List (List UInt8×V)) (k:Int) (t:qg),(∀p∈L,RuleL p.1 p.2)→ ¬0<t.op→t.rs.length+L.length≤4096→
  ou (L.map fun p=>V.str p.1) k t=({t with rs:=t.rs++L.map (·.2),wr:=t.wr++nums k L.length},k+(L.length:Int),0)
 |[],k,t,_,_,_=>by
  show(t,k,(0:Int))=_;simp[nums]
 |(s,x)::L,k,t,hL,ho,hr=>by
  obtain⟨fs,a,b,c,d⟩:=hL _ List.mem_cons_self;have st:=ZR (t:=t) (k:=k+1) a b ho c (by simp only[List.length_cons] at hr;omega);rw[List.map_cons,BF st,LC L (k+1) {t with rs:=t.rs++[On (fs.map V.str)],wr:=t.wr++[.int .i64 (k+1)]} (fun p hp=>hL p (List.mem_cons_of_mem _ hp)) ho (by simp only[List.length_cons,List.length_append,List.length_nil] at hr⊢;omega)];simp only[d,nums,List.map_cons,List.append_assoc,List.singleton_append,List.length_cons];congr 1
  congr 1
  omega
theorem Df: ∀(L:List (List UInt8×V)) (k:Int) (t:qg),(∀p∈L,LinkL p.1 p.2)→ ¬0<t.op→t.ks.length+L.length≤1024→
  ou (L.map fun p=>V.str p.1) k t=({t with ks:=t.ks++L.map (·.2),wl:=t.wl++nums k L.length},k+(L.length:Int),0)
 |[],k,t,_,_,_=>by
  show(t,k,(0:Int))=_;simp[nums]
 |(s,x)::L,k,t,hL,ho,hr=>by
  obtain⟨fs,a,b,c,d⟩:=hL _ List.mem_cons_self;have st:=ZS (t:=t) (k:=k+1) a b ho c (by simp only[List.length_cons] at hr;omega);rw[List.map_cons,BF st,Df L (k+1) {t with ks:=t.ks++[RQ (fs.map V.str)],wl:=t.wl++[.int .i64 (k+1)]} (fun p hp=>hL p (List.mem_cons_of_mem _ hp)) ho (by simp only[List.length_cons,List.length_append,List.length_nil] at hr⊢;omega)];simp only[d,nums,List.map_cons,List.append_assoc,List.singleton_append,List.length_cons];congr 1
  congr 1
  omega
theorem Qy {zs we:List V} {n:List UInt8}: ∀(L:List (List UInt8×V)) (k:Int) (t:qg),0≤k→(∀p∈L,EraL p.1 p.2)→(0<t.op∨L=[])→(∀i (h:i<L.length),LY (L[i]).2=decide (i+1<L.length))→t.yz.length+L.length≤256→t.zs=zs++[zV n t.yz]→t.we=we++[wV t.ye]→(L=[]→t.op=0)→
  ∃iz ie,ou (L.map fun p=>V.str p.1) k t=({t with zs:=zs++[zV n (t.yz++L.map (·.2))],we:=we++[wV (t.ye++nums k L.length)],iz:=iz,yz:=t.yz++L.map (·.2),ie:=ie,ye:=t.ye++nums k L.length,op:=0},k+(L.length:Int),0)
 |[],k,t,_,_,_,_,_,hz,hw,ho=>by
  refine⟨t.iz,t.ie,?_⟩;show(t,k,(0:Int))=_;have ho:=ho rfl;obtain⟨a1,a2,a3,a4,a5,a6,a7,a8,a9,a10,a11⟩:=t;simp only at hz hw ho;simp[nums,hz,hw,ho]
 |(s,x)::L,k,t,hk,hL,ho,hh,hr,hz,hw,_=>by
  obtain⟨fs,a0,a,b,c,d⟩:=hL _ List.mem_cons_self;have ho:0<t.op:=ho.elim id (fun h=>nomatch h);have st:=era_step (t:=t) (k:=k+1) a a0 b ho c (by simp only[List.length_cons] at hr;omega) hz hw;have h5:ED (fs.map V.str)=decide (0+1<((s,x)::L).length):=by
   have:=hh 0 (by simp);rw[←this];have d2:qK (fs.map V.str)=x:=d;show _=LY x;rw[←d2];rfl
  have hop:0<jw (fs.map V.str) (k+1)∨L=[]:=by
   unfold jw;rw[h5]
   cases L with
   |nil=>exact .inr rfl
   |cons y L=>left;rw[if_pos (by simp)];omega
  have hop2:L=[]→jw (fs.map V.str) (k+1)=0:=by
   rintro rfl;unfold jw;rw[h5,if_neg (by simp)]
  obtain⟨iz,ie,ih⟩:=Qy (zs:=zs) (we:=we) (n:=n) L (k+1) {t with zs:=zs++[zV n (t.yz++[qK (fs.map V.str)])],we:=we++[wV (t.ye++[.int .i64 (k+1)])],yz:=t.yz++[qK (fs.map V.str)],ye:=t.ye++[.int .i64 (k+1)],op:=jw (fs.map V.str) (k+1)} (by omega) (fun p hp=>hL p (List.mem_cons_of_mem _ hp)) hop (fun i h=>by
    have:=hh (i+1) (by simp only[List.length_cons];omega);simp only[List.getElem_cons_succ,List.length_cons] at this;rw[this];exact decide_eq_decide.2 (by omega)) (by simp only[List.length_cons,List.length_append,List.length_nil] at hr⊢;omega) rfl rfl hop2
  refine⟨iz,ie,?_⟩;rw[List.map_cons,BF st,ih];simp only[d,nums,List.map_cons,List.append_assoc,List.singleton_append,List.length_cons];congr 1
  congr 1
  omega
structure Zn where
 n:List UInt8
 s:List UInt8
 x:V
 L:List (List UInt8×V)
def Zn.ok (z:Zn):Prop:=ZoneL z.n z.s z.x∧(∀p∈z.L,EraL p.1 p.2)∧z.L.length+1≤256∧LY z.x=decide (0<z.L.length)∧ ∀i (h:i<z.L.length),LY (z.L[i]).2=decide (i+1<z.L.length)
def Zn.lines (z:Zn):List (List UInt8):=z.s::z.L.map (·.1)
def Zn.v (z:Zn):V:=zV z.n (z.x::z.L.map (·.2))
theorem run_zone {z:Zn} (hz:z.ok) (k:Int) (t:qg) (hk:0≤k) (ho: ¬0<t.op) (hr:t.zs.length<1024):
  ∃iz yz ie ye,ou (z.lines.map V.str) k t=({t with zs:=t.zs++[z.v],we:=t.we++[wV (nums k z.lines.length)],iz:=iz,yz:=yz,ie:=ie,ye:=ye,op:=0},k+(z.lines.length:Int),0):=by
 obtain⟨⟨fs,a,b,c,d,e⟩,h2,h3,h4,h5⟩:=hz;have st:=ZT (t:=t) (k:=k+1) a b ho c d hr;have h6:ED (fs.map V.str)=decide (0<z.L.length):=by
  rw[←h4];show _=LY z.x;rw[←e];rfl
 have hop:0<jw (fs.map V.str) (k+1)∨z.L=[]:=by
  unfold jw;rw[h6];by_cases hl:0<z.L.length
  ·left;rw[if_pos (decide_eq_true hl)];omega
  ·exact .inr (List.eq_nil_of_length_eq_zero (by omega))
 have hop2:z.L=[]→jw (fs.map V.str) (k+1)=0:=by
  intro hl;unfold jw;rw[h6,hl,if_neg (by decide)]
 obtain⟨iz,ie,ih⟩:=Qy (zs:=t.zs) (we:=t.we) (n:=z.n) z.L (k+1) {t with zs:=t.zs++[zV z.n [qK (fs.map V.str)]],we:=t.we++[wV [.int .i64 (k+1)]],iz:=av t.zs,yz:=[qK (fs.map V.str)],ie:=av t.we,ye:=[.int .i64 (k+1)],op:=jw (fs.map V.str) (k+1)} (by omega) h2 hop h5 (by simp only[List.length_cons,List.length_nil];omega) rfl rfl hop2;refine⟨iz,[qK (fs.map V.str)]++z.L.map (·.2),ie,[.int .i64 (k+1)]++nums (k+1) z.L.length,?_⟩;unfold Zn.lines;rw[List.map_cons,BF st,List.map_map];rw[show(z.L.map (V.str ∘ fun x=>x.1))=z.L.map (fun p=>V.str p.1) from rfl,ih];simp only[e,Zn.v,nums,List.singleton_append,List.length_cons,List.length_map];congr 1
 congr 1
 omega
noncomputable def rfC (m v:Int):Bool:=ai (ai (ak (-9223372036854775808) v) (ak v 9223372036854775807)) (ai (ak (-9223372036854775808) m) (ak m 9223372036854775807))
noncomputable def efC (o v y m:Int):Bool:=ai (ai (ai (ak (-9223372036854775808) o) (ak o 9223372036854775807)) (ai (ak (-9223372036854775808) v) (ak v 9223372036854775807))) (ai (ai (ak (-9223372036854775808) y) (ak y 9223372036854775807)) (ai (ak (-9223372036854775808) m) (ak m 9223372036854775807)))
noncomputable def rfK (m v:Int):Bool:=rfC m v
noncomputable def Z9 (o v y m:Int):Bool:=efC o v y m
noncomputable def aRfS:aG:=fun a=>match a with|[.agg [.str n,.int .i64 f,.int .i64 t,.int .i64 m,.int .i64 k,.int .i64 w,.int .i64 d,.int .i64 c,.int .i64 b,.int .i64 v,.str l]]=>some (rfK m v,.tup [.sl 9 [.str] none (rfV n f t m k w d c b v l),.int .i64 (rfE n f t m k w d c b v l)])|_=>none
noncomputable def aEfS:aG:=fun a=>match a with|[.agg [.int .i64 o,.int .i64 k,.int .i64 v,.str r,.str q,.bool h,.int .i64 y,.int .i64 m,.int .i64 ok,.int .i64 ow,.int .i64 od,.int .i64 c,.int .i64 b]]=>some (Z9 o v y m,.tup [.sl 9 [.str] none (RN o k v r q h y m ok ow od c b),.int .i64 (efE o k v r q h y m ok ow od c b)])|_=>none
noncomputable def aLfS:aG:=fun a=>match a with|[.agg [.str t,.str n]]=>some (true,.tup [.sl 9 [.str] none (fdL t n),.int .i64 (fdE t n)])|_=>none
noncomputable def aJnS:aG:=fun a=>match a with|[.sl 9 [.str] none xs]=>some (RO xs,.tup [.str (xg xs),.int .i64 (jnW xs)])|_=>none
noncomputable def aA1:List (Nat×aG):=(25,aRfS)::(28,aEfS)::(27,aLfS)::(62,aJnS)::(17,gErS)::(12,nJoS)::(11,lTbS)::(13,lSaS)::[]
noncomputable def MO (F:Nat) (ns:List Nat) (n:Nat) (x0:List V) (kG kH mr:Int) (Jg Jh:List UInt8) (Ji:Bool) (Jj Jk Jl Jm xR xS xU Jn Jo Jp:Int) (Jq Jr:List UInt8) (Js:Bool) (Jt Ju Jv Jw xV xW xX:Int) (x3:List V) (x8:Bool) (lu x79:List V) (x80 x81 xZ yg:Int) (Jy Jz JA:List V) (EL FJ EM:Int) (FK FL:List UInt8) (FM:Bool) (EN EO FN FP uU uV uW EP FQ EQ:Int) (FR FT:List UInt8) (FU:Bool) (ER ES FV FW uX uY uZ:Int) (K:V→Option V):Option V:=
 iG eE aA1 F 3 7 [1,1,1,1,0,1,0] ns K n (mY 216 [(0,V.sl 47 kR none x0),(1,V.agg [V.int .i64 kG,V.int .i64 kH,V.int .i64 mr,V.str Jg,V.str Jh,V.bool Ji,V.int .i64 Jj,V.int .i64 Jk,V.int .i64 Jl,V.int .i64 Jm,V.int .i64 xR,V.int .i64 xS,V.int .i64 xU]),(2,V.agg [V.int .i64 Jn,V.int .i64 Jo,V.int .i64 Jp,V.str Jq,V.str Jr,V.bool Js,V.int .i64 Jt,V.int .i64 Ju,V.int .i64 Jv,V.int .i64 Jw,V.int .i64 xV,V.int .i64 xW,V.int .i64 xX]),(3,V.sl 50 kL none x3),(5,V.box 5 0),(6,V.box 6 0),(8,V.bool x8),(9,V.box 9 0),(11,V.box 11 0),(12,V.sl 9 [Kd.str] (some 12) lu),(13,V.sl 9 [Kd.str] (some 13) []),(19,V.tup []),(20,V.tup []),(21,V.tup []),(22,V.tup []),(24,V.tup []),(26,V.tup []),(27,V.tup []),(29,V.tup []),(30,V.tup []),(32,V.tup []),(33,V.tup []),(35,V.tup []),(79,V.sl 47 kR none x79),(80,V.int .i64 x80),(81,V.int .i64 x81),(98,V.tup []),(99,V.tup []),(100,V.tup [])] [(11,[V.int .i64 xZ,V.int .i64 yg]),(9,[V.sl 47 kR none Jy,V.sl 54 kZ none Jz,V.sl 50 kL none JA]),(6,[V.int .i64 EL,V.int .i64 FJ,V.int .i64 EM,V.str FK,V.str FL,V.bool FM,V.int .i64 EN,V.int .i64 EO,V.int .i64 FN,V.int .i64 FP,V.int .i64 uU,V.int .i64 uV,V.int .i64 uW]),(5,[V.int .i64 EP,V.int .i64 FQ,V.int .i64 EQ,V.str FR,V.str FT,V.bool FU,V.int .i64 ER,V.int .i64 ES,V.int .i64 FV,V.int .i64 FW,V.int .i64 uX,V.int .i64 uY,V.int .i64 uZ])])
noncomputable def MP (F:Nat) (ns:List Nat) (n:Nat) (x0:List V) (kG kH mr:Int) (Jg Jh:List UInt8) (Ji:Bool) (Jj Jk Jl Jm xR xS xU Jn Jo Jp:Int) (Jq Jr:List UInt8) (Js:Bool) (Jt Ju Jv Jw xV xW xX:Int) (x3:List V) (x8:Bool) (lu uD x79:List V) (x80 x81:Int) (x98:List V) (x99 x100 xZ yg:Int) (Jy Jz JA:List V) (EL FJ EM:Int) (FK FL:List UInt8) (FM:Bool) (EN EO FN FP uU uV uW EP FQ EQ:Int) (FR FT:List UInt8) (FU:Bool) (ER ES FV FW uX uY uZ:Int) (K:V→Option V):Option V:=
 iG eE aA1 F 3 7 [1,1,1,1,1,0,1,0] ns K n (mY 216 [(0,V.sl 47 kR none x0),(1,V.agg [V.int .i64 kG,V.int .i64 kH,V.int .i64 mr,V.str Jg,V.str Jh,V.bool Ji,V.int .i64 Jj,V.int .i64 Jk,V.int .i64 Jl,V.int .i64 Jm,V.int .i64 xR,V.int .i64 xS,V.int .i64 xU]),(2,V.agg [V.int .i64 Jn,V.int .i64 Jo,V.int .i64 Jp,V.str Jq,V.str Jr,V.bool Js,V.int .i64 Jt,V.int .i64 Ju,V.int .i64 Jv,V.int .i64 Jw,V.int .i64 xV,V.int .i64 xW,V.int .i64 xX]),(3,V.sl 50 kL none x3),(5,V.box 5 0),(6,V.box 6 0),(8,V.bool x8),(9,V.box 9 0),(11,V.box 11 0),(12,V.sl 9 [Kd.str] (some 12) lu),(13,V.sl 9 [Kd.str] (some 13) uD),(22,V.tup []),(24,V.tup []),(26,V.tup []),(27,V.tup []),(29,V.tup []),(30,V.tup []),(32,V.tup []),(33,V.tup []),(35,V.tup []),(79,V.sl 47 kR none x79),(80,V.int .i64 x80),(81,V.int .i64 x81),(98,V.sl 50 kL none x98),(99,V.int .i64 x99),(100,V.int .i64 x100)] [(11,[V.int .i64 xZ,V.int .i64 yg]),(9,[V.sl 47 kR none Jy,V.sl 54 kZ none Jz,V.sl 50 kL none JA]),(6,[V.int .i64 EL,V.int .i64 FJ,V.int .i64 EM,V.str FK,V.str FL,V.bool FM,V.int .i64 EN,V.int .i64 EO,V.int .i64 FN,V.int .i64 FP,V.int .i64 uU,V.int .i64 uV,V.int .i64 uW]),(5,[V.int .i64 EP,V.int .i64 FQ,V.int .i64 EQ,V.str FR,V.str FT,V.bool FU,V.int .i64 ER,V.int .i64 ES,V.int .i64 FV,V.int .i64 FW,V.int .i64 uX,V.int .i64 uY,V.int .i64 uZ])])
theorem tAO_top (F:Nat) (xs:List V) (o k v:Int) (r q:List UInt8) (h:Bool) (y m ok ow od c b o2 k2 v2:Int) (r2 q2:List UInt8) (h2:Bool) (y2 m2 xE xG xH c2 b2:Int) (ls:List V) (K:V→Option V):
 bW eE (bT eE aA1 F 3) F 7 [V.sl 47 kR none xs,V.agg [V.int .i64 o,V.int .i64 k,V.int .i64 v,V.str r,V.str q,V.bool h,V.int .i64 y,V.int .i64 m,V.int .i64 ok,V.int .i64 ow,V.int .i64 od,V.int .i64 c,V.int .i64 b],V.agg [V.int .i64 o2,V.int .i64 k2,V.int .i64 v2,V.str r2,V.str q2,V.bool h2,V.int .i64 y2,V.int .i64 m2,V.int .i64 xE,V.int .i64 xG,V.int .i64 xH,V.int .i64 c2,V.int .i64 b2],V.sl 50 kL none ls] K=
 let A:=K (V.bool true);let B:=uq [76,105,110,107,32,65,32,66];let C:=EH [76,105,110,107,32,65,32,66];let D:=K (V.bool false);sel (aK (ieq (av B) 1)) D (sel (aK (ieq C 0)) D (sel (aU 20 (av xs)) A (sel (aU 20 (av ls)) A (sel (aK (z8 o k v r q h y m ok ow od c b)) A (sel (aK (z8 o2 k2 v2 r2 q2 h2 y2 m2 xE xG xH c2 b2)) A (sel (aK h) A (sel h2 A (MO F [] F xs o k v r q h y m ok ow od c b o2 k2 v2 r2 q2 h2 y2 m2 xE xG xH c2 b2 ls false [] xs (av xs) 0 (tbL [76,105,110,107,32,65,32,66]) C (xw [76,105,110,107,32,65,32,66]) (xx [76,105,110,107,32,65,32,66]) B o2 k2 v2 r2 q2 h2 y2 m2 xE xG xH c2 b2 o k v r q h y m ok ow od c b K)))))))):=by kernel_rfl
theorem Ey (F n:Nat) (x0:List V) (kG kH mr:Int) (Jg Jh:List UInt8) (Ji:Bool) (Jj Jk Jl Jm xR xS xU Jn Jo Jp:Int) (Jq Jr:List UInt8) (Js:Bool) (Jt Ju Jv Jw xV xW xX:Int) (x3:List V) (x8:Bool) (lu x79:List V) (x80 x81 xZ yg:Int) (Jy Jz JA:List V) (EL FJ EM:Int) (FK FL:List UInt8) (FM:Bool) (EN EO FN FP uU uV uW EP FQ EQ:Int) (FR FT:List UInt8) (FU:Bool) (ER ES FV FW uX uY uZ:Int) (K:V→Option V):
 MO F [] (n+1) x0 kG kH mr Jg Jh Ji Jj Jk Jl Jm xR xS xU Jn Jo Jp Jq Jr Js Jt Ju Jv Jw xV xW xX x3 x8 lu x79 x80 x81 xZ yg Jy Jz JA EL FJ EM FK FL FM EN EO FN FP uU uV uW EP FQ EQ FR FT FU ER ES FV FW uX uY uZ K=
 let B:=aX x79 x81;let D:=asInt (ah B 3);let E:=asInt (ah B 9);let G:=aH (ah B 10);let H:=aH (ah B 0);let I:=asInt (ah B 1);let J:=asInt (ah B 2);let L:=asInt (ah B 4);let M:=asInt (ah B 5);let N:=asInt (ah B 6);let O:=asInt (ah B 7);let P:=asInt (ah B 8);let A:=rfV H I J D L M N O P E G;let C:=[V.str (gy [82,117,108,101,32] (xg A))];sel (aU x81 x80) (sel (ai (ak 0 x81) (aU x81 (av x79))) (sel (rfK D E) (sel (aK (ieq (rfE H I J D L M N O P E G) 0)) (K (V.bool true)) (sel (RO A) (sel (gz [82,117,108,101,32] (xg A)) (sel (cO lu C) (MO F [] n x0 kG kH mr Jg Jh Ji Jj Jk Jl Jm xR xS xU Jn Jo Jp Jq Jr Js Jt Ju Jv Jw xV xW xX x3 x8 (aM lu C) x79 x80 (eu .i64 x81 1) xZ yg Jy Jz JA EL FJ EM FK FL FM EN EO FN FP uU uV uW EP FQ EQ FR FT FU ER ES FV FW uX uY uZ K) none) none) none)) none) none) (MP F [] F x0 kG kH mr Jg Jh Ji Jj Jk Jl Jm xR xS xU Jn Jo Jp Jq Jr Js Jt Ju Jv Jw xV xW xX x3 x8 lu [] x79 x80 x81 x3 (av x3) 0 xZ yg Jy Jz JA EL FJ EM FK FL FM EN EO FN FP uU uV uW EP FQ EQ FR FT FU ER ES FV FW uX uY uZ K):=by kernel_rfl
theorem Ez (F n:Nat) (x0:List V) (kG kH mr:Int) (Jg Jh:List UInt8) (Ji:Bool) (Jj Jk Jl Jm xR xS xU Jn Jo Jp:Int) (Jq Jr:List UInt8) (Js:Bool) (Jt Ju Jv Jw xV xW xX:Int) (x3:List V) (x8:Bool) (lu uD x79:List V) (x80 x81:Int) (x98:List V) (x99 x100 xZ yg:Int) (Jy Jz JA:List V) (EL FJ EM:Int) (FK FL:List UInt8) (FM:Bool) (EN EO FN FP uU uV uW EP FQ EQ:Int) (FR FT:List UInt8) (FU:Bool) (ER ES FV FW uX uY uZ:Int) (K:V→Option V):
 MP F [] (n+1) x0 kG kH mr Jg Jh Ji Jj Jk Jl Jm xR xS xU Jn Jo Jp Jq Jr Js Jt Ju Jv Jw xV xW xX x3 x8 lu uD x79 x80 x81 x98 x99 x100 xZ yg Jy Jz JA EL FJ EM FK FL FM EN EO FN FP uU uV uW EP FQ EQ FR FT FU ER ES FV FW uX uY uZ K=
 let D:=RN EP FQ EQ FR FT FU ER ES FV FW uX uY uZ;let E:=RN EL FJ EM FK FL FM EN EO FN FP uU uV uW;let I:=K (V.bool false);let L:=aX x98 x100;let N:=aM [] uD;let A:=[V.str (gy [90,111,110,101,32,90,32] (xg D)),V.str (gy [32] (xg E))];let P:=aH (ah L 0);let Q:=aH (ah L 1);let C:=fdL P Q;let G:=aM (aM N A) lu;let M:=aM (aM [] lu) A;let O:=aM (aM [] A) uD;let B:=xh (aM M uD);let H:=aM O lu;let J:=[V.str (gy [76,105,110,107,32] (xg C))];sel (aU x100 x99) (sel (ai (ak 0 x100) (aU x100 (av x98))) (sel (aK (ieq (fdE P Q) 0)) (K (V.bool true)) (sel (RO C) (sel (gz [76,105,110,107,32] (xg C)) (sel (cO uD J) (MP F [] n x0 kG kH mr Jg Jh Ji Jj Jk Jl Jm xR xS xU Jn Jo Jp Jq Jr Js Jt Ju Jv Jw xV xW xX x3 x8 lu (aM uD J) x79 x80 x81 x98 x99 (eu .i64 x100 1) xZ yg Jy Jz JA EL FJ EM FK FL FM EN EO FN FP uU uV uW EP FQ EQ FR FT FU ER ES FV FW uX uY uZ K) none) none) none)) none) (sel (Z9 EP EQ ER ES) (sel (Z9 EL EM EN EO) (sel (RO D) (sel (gz [90,111,110,101,32,90,32] (xg D)) (sel (RO E) (sel (gz [32] (xg E)) (sel (cO [] lu) (sel (cO (aM [] lu) A) (sel (cO M uD) (sel (U0 (aM M uD)) (sel (cO [] uD) (sel (cO N A) (sel (cO (aM N A) lu) (sel (U0 G) (sel (cO [] A) (sel (cO (aM [] A) uD) (sel (cO O lu) (sel (U0 H) (sel (ieq (EH B) 0) (sel (ieq (EH (xh G)) 0) (sel (ieq (EH (xh H)) 0) (sel (sqT (xw B) (xx B) (uq B) (xw (xh G)) (xx (xh G)) (uq (xh G))) (sel (sqT (xw B) (xx B) (uq B) (xw (xh H)) (xx (xh H)) (uq (xh H))) (sel (ieq (av (xw B)) (av x0)) (sel (ieq (av (uq B)) (av x3)) (K (V.bool (ieq (av (xx B)) 1))) I) I) none) none) I) I) I) none) none) none) none) none) none) none) none) none) none) none) none) none) none) none) none) none) none):=by kernel_rfl
theorem aRfS_ok (n:List UInt8) (f t m k w d c b v:Int) (l:List UInt8) (hc:rfK m v=true):af eE 25 [.agg [.str n,.int .i64 f,.int .i64 t,.int .i64 m,.int .i64 k,.int .i64 w,.int .i64 d,.int .i64 c,.int .i64 b,.int .i64 v,.str l]] (.tup [.sl 9 [.str] none (rfV n f t m k w d c b v l),.int .i64 (rfE n f t m k w d c b v l)]):=tRFS_ok n f t m k w d c b v l hc
theorem aEfS_ok (o k v:Int) (r q:List UInt8) (h:Bool) (y m ok ow od c b:Int) (hc:Z9 o v y m=true):af eE 28 [.agg [.int .i64 o,.int .i64 k,.int .i64 v,.str r,.str q,.bool h,.int .i64 y,.int .i64 m,.int .i64 ok,.int .i64 ow,.int .i64 od,.int .i64 c,.int .i64 b]] (.tup [.sl 9 [.str] none (RN o k v r q h y m ok ow od c b),.int .i64 (efE o k v r q h y m ok ow od c b)]):=tEFS_ok o k v r q h y m ok ow od c b hc
theorem aLfS_ok (t n:List UInt8) (hc:true=true):af eE 27 [.agg [.str t,.str n]] (.tup [.sl 9 [.str] none (fdL t n),.int .i64 (fdE t n)]):=vY (eO (UK t n))
theorem aJnS_ok (xs:List V) (hc:RO xs=true):af eE 62 [.sl 9 [.str] none xs] (.tup [.str (xg xs),.int .i64 (jnW xs)]):=t_h (hJnS_ok xs hc)
theorem aA1_ok:bn eE aA1:=by
 unfold aA1;refine bn.cons (fun args r h=>?_) (bn.cons (fun args r h=>?_) (bn.cons (fun args r h=>?_) (bn.cons (fun args r h=>?_) (bn.cons (fun args r h=>?_) (bn.cons (fun args r h=>?_) (bn.cons (fun args r h=>?_) (bn.cons (fun args r h=>?_) bn.nil)))))));all_goals (revert h;intro h;first|unfold aRfS at h|unfold aEfS at h|unfold aLfS at h|unfold aJnS at h|unfold gErS at h|unfold nJoS at h|unfold lTbS at h|unfold lSaS at h)
 all_goals (split at h;rotate_left; · cases h)
 all_goals (simp only[Option.some.injEq,Prod.mk.injEq] at h;obtain⟨hc,rfl⟩:=h)
 ·exact aRfS_ok _ _ _ _ _ _ _ _ _ _ _ hc
 ·exact aEfS_ok _ _ _ _ _ _ _ _ _ _ _ _ _ hc
 ·exact aLfS_ok _ _ rfl
 ·exact aJnS_ok _ hc
 ·exact gErS_ok _ _ _ _ _ _ _ _ _ _ _ _ _ rfl
 ·exact nJoS_ok _ hc
 ·exact lTbS_ok _ rfl
 ·exact lSaS_ok _ _ _ _ _ _ _ _ _ _ _ _ _ _ _ _ _ _ _ _ _ _ _ _ hc
def Eff (l rs zs ks:List V):Prop:=∀(k:Int) (t:qg),0≤k→t.op=0→t.rs.length+rs.length≤4096→t.zs.length+zs.length≤1024→t.ks.length+ks.length≤1024→
 ∃u:qg,ou l k t=(u,k+(l.length:Int),0)∧u.rs=t.rs++rs∧u.zs=t.zs++zs∧u.ks=t.ks++ks∧u.op=0
theorem Eff.app {l1 a1 b1 c1 l2 a2 b2 c2:List V} (h1:Eff l1 a1 b1 c1) (h2:Eff l2 a2 b2 c2):Eff (l1++l2) (a1++a2) (b1++b2) (c1++c2):=by
 intro k t hk ho ha hb hc;rw[List.length_append] at ha hb hc;obtain⟨u,e1,e2,e3,e4,e5⟩:=h1 k t hk ho (by omega) (by omega) (by omega);obtain⟨w,f1,f2,f3,f4,f5⟩:=h2 (k+(l1.length:Int)) u (by omega) e5 (by rw[e2,List.length_append];omega) (by rw[e3,List.length_append];omega) (by rw[e4,List.length_append];omega);refine⟨w,?_,by rw[f2,e2,List.append_assoc],by rw[f3,e3,List.append_assoc],by rw[f4,e4,List.append_assoc],f5⟩;rw[Xb _ _ _ _ (by rw[e1]),e1];show ou l2 (k+(l1.length:Int)) u=_;rw[f1,List.length_append];congr 1
 congr 1
 omega
theorem ZU (L:List (List UInt8×V)) (h: ∀p∈L,RuleL p.1 p.2):Eff (L.map fun p=>V.str p.1) (L.map (·.2)) [] []:=by
 intro k t hk ho ha hb hc;rw[List.length_map] at ha;refine⟨{t with rs:=t.rs++L.map (·.2),wr:=t.wr++nums k L.length},?_,rfl,(List.append_nil _).symm,(List.append_nil _).symm,ho⟩;rw[LC L k t h (by omega) ha,List.length_map]
theorem ZV (L:List (List UInt8×V)) (h: ∀p∈L,LinkL p.1 p.2):Eff (L.map fun p=>V.str p.1) [] [] (L.map (·.2)):=by
 intro k t hk ho ha hb hc;rw[List.length_map] at hc;refine⟨{t with ks:=t.ks++L.map (·.2),wl:=t.wl++nums k L.length},?_,(List.append_nil _).symm,(List.append_nil _).symm,rfl,ho⟩;rw[Df L k t h (by omega) hc,List.length_map]
theorem eff_zone {z:Zn} (h:z.ok):Eff (z.lines.map V.str) [] [z.v] []:=by
 intro k t hk ho ha hb hc;rw[List.length_singleton] at hb;obtain⟨iz,yz,ie,ye,e⟩:=run_zone h k t hk (by omega) (by omega);refine⟨{t with zs:=t.zs++[z.v],we:=t.we++[wV (nums k z.lines.length)],iz:=iz,yz:=yz,ie:=ie,ye:=ye,op:=0},?_,(List.append_nil _).symm,rfl,(List.append_nil _).symm,rfl⟩;rw[e,List.length_map]
theorem tb_eff {ls:List (List UInt8)} {rs zs ks:List V} (h:Eff (ls.map V.str) rs zs ks) (hn: ∀x∈ls,x.contains 10=false) (hl:(I8 ls).length≤1048576) (h1:rs.length≤4096) (h2:zs.length≤1024) (h3:ks.length≤1024):
  EH (I8 ls)=0∧xw (I8 ls)=rs∧xx (I8 ls)=zs∧uq (I8 ls)=ks:=by
 obtain⟨u,e1,e2,e3,e4,e5⟩:=h 0 r0 (by decide) rfl (by show 0+_≤_;omega) (by show 0+_≤_;omega) (by show 0+_≤_;omega);have q:I9 (I8 ls)=(u,0+((ls.map V.str).length:Int),0):=by
  show ou ((Jd (I8 ls)).map V.str) 0 r0=_;rw[Qt _ hn,e1]
 have hE:EH (I8 ls)=0:=by
  unfold EH;rw[if_neg (by omega)];show OT (I9 _)=0;rw[q];show(if(0:Int)≠0 then _ else if 0<u.op then 16 else 0)=0;rw[if_neg (fun h=>h rfl),e5];rfl
 refine⟨hE,?_,?_,?_⟩
 ·unfold xw OU;rw[if_pos hE,q];exact e2.trans (List.nil_append _)
 ·unfold xx OV;rw[if_pos hE,q];exact e3.trans (List.nil_append _)
 ·unfold uq LW;rw[if_pos hE,q];exact e4.trans (List.nil_append _)
theorem pr_ten {s:List UInt8} (h:Pr s):s.contains 10=false:=by
 rw[←Bool.not_eq_true,List.contains_iff_mem];intro hm;have:=(h _ hm).1;revert this;decide
abbrev agR (x:V):V:=.agg [.str (aH (ah x 0)),.int .i64 (asInt (ah x 1)),.int .i64 (asInt (ah x 2)),.int .i64 (asInt (ah x 3)),.int .i64 (asInt (ah x 4)),.int .i64 (asInt (ah x 5)),.int .i64 (asInt (ah x 6)),.int .i64 (asInt (ah x 7)),.int .i64 (asInt (ah x 8)),.int .i64 (asInt (ah x 9)),.str (aH (ah x 10))]
noncomputable def xC (x:V):List UInt8:=gy [82,117,108,101,32] (xg (rfV (aH (ah x 0)) (asInt (ah x 1)) (asInt (ah x 2)) (asInt (ah x 3)) (asInt (ah x 4)) (asInt (ah x 5)) (asInt (ah x 6)) (asInt (ah x 7)) (asInt (ah x 8)) (asInt (ah x 9)) (aH (ah x 10))))
noncomputable def Au (x:V):List UInt8:=gy [76,105,110,107,32] (xg (fdL (aH (ah x 0)) (aH (ah x 1))))
def Av (s:List UInt8):Prop:=Pr s∧s.length≤511
theorem Gb (fs:List (List UInt8)):xg (fs.map V.str)=(fw fs).1∧jnW (fs.map V.str)=(fw fs).2∧RO (fs.map V.str)=decide (oP fs≤3000000):=jn_strs fs
theorem TH {x:V} (h:LX x=true):RuleL (xC x) (agR x)∧Av (xC x)∧RO (rfV (aH (ah x 0)) (asInt (ah x 1)) (asInt (ah x 2)) (asInt (ah x 3)) (asInt (ah x 4)) (asInt (ah x 5)) (asInt (ah x 6)) (asInt (ah x 7)) (asInt (ah x 8)) (asInt (ah x 9)) (aH (ah x 10)))=true:=by
 unfold LX at h;obtain⟨g1,g2⟩:=rf_good _ _ _ _ _ _ _ _ _ _ _ h;obtain⟨l1,l2,l3,l4⟩:=NC _ g1 (by show 9≤16;omega) g2;obtain⟨b1,b2⟩:=ru_back _ _ _ _ _ _ _ _ _ _ _ h;obtain⟨r0,r1,r2,r3,r4,r5,r6,r7,r8,r9,r10,rE⟩:=rd_inj _ b2;have e0:rfV (aH (ah x 0)) (asInt (ah x 1)) (asInt (ah x 2)) (asInt (ah x 3)) (asInt (ah x 4)) (asInt (ah x 5)) (asInt (ah x 6)) (asInt (ah x 7)) (asInt (ah x 8)) (asInt (ah x 9)) (aH (ah x 10))=(rfS (aH (ah x 0)) (asInt (ah x 1)) (asInt (ah x 2)) (asInt (ah x 3)) (asInt (ah x 4)) (asInt (ah x 5)) (asInt (ah x 6)) (asInt (ah x 7)) (asInt (ah x 8)) (asInt (ah x 9)) (aH (ah x 10))).map V.str:=by unfold rfV;rw[h];rfl
 have e1:xC x=Kj++([32]++(fw (rfS (aH (ah x 0)) (asInt (ah x 1)) (asInt (ah x 2)) (asInt (ah x 3)) (asInt (ah x 4)) (asInt (ah x 5)) (asInt (ah x 6)) (asInt (ah x 7)) (asInt (ah x 8)) (asInt (ah x 9)) (aH (ah x 10)))).1):=by unfold xC;rw[e0,(Gb _).1];rfl
 have hp:Av (xC x):=by
  rw[e1];refine⟨pr_app (by decide) (pr_app (by decide) l3),?_⟩;rw[List.length_append,List.length_append];have:(rfS (aH (ah x 0)) (asInt (ah x 1)) (asInt (ah x 2)) (asInt (ah x 3)) (asInt (ah x 4)) (asInt (ah x 5)) (asInt (ah x 6)) (asInt (ah x 7)) (asInt (ah x 8)) (asInt (ah x 9)) (aH (ah x 10))).length=9:=rfl;simp only[List.length_cons,List.length_nil];omega
 refine⟨⟨rfS (aH (ah x 0)) (asInt (ah x 1)) (asInt (ah x 2)) (asInt (ah x 3)) (asInt (ah x 4)) (asInt (ah x 5)) (asInt (ah x 6)) (asInt (ah x 7)) (asInt (ah x 8)) (asInt (ah x 9)) (aH (ah x 10)),?_,Fx _ hp.1 hp.2,rE,?_⟩,hp,?_⟩
 ·rw[e1]
  exact Xa (by decide) (by decide) (by decide) (by intro h;cases h) (by show 9≤15;omega) g1
 ·show On (rfL (aH (ah x 0)) (asInt (ah x 1)) (asInt (ah x 2)) (asInt (ah x 3)) (asInt (ah x 4)) (asInt (ah x 5)) (asInt (ah x 6)) (asInt (ah x 7)) (asInt (ah x 8)) (asInt (ah x 9)) (aH (ah x 10)))=_
  unfold On;rw[r0,r1,r2,r3,r4,r5,r6,r7,r8,r9,r10]
 ·rw[e0,(Gb _).2.2];exact decide_eq_true (by omega)
theorem TI {x:V} (h:XF x=true):LinkL (Au x) (.agg [.str (aH (ah x 0)),.str (aH (ah x 1))])∧Av (Au x)∧RO (fdL (aH (ah x 0)) (aH (ah x 1)))=true:=by
 unfold XF at h;have e0:fdL (aH (ah x 0)) (aH (ah x 1))=[aH (ah x 0),aH (ah x 1)].map V.str:=by unfold fdL;rw[if_pos h];rfl
 unfold rgB at h;rw[decide_eq_true_eq,Dw,Dw] at h;obtain⟨h1,h2,h3⟩:=h;obtain⟨_,_,_,_,_,a1,a2⟩:=TG h1;obtain⟨_,_,_,_,_,a3,a4⟩:=TG h2;have g1: ∀y∈[aH (ah x 0),aH (ah x 1)],Gd y:=by
  intro y hy;rw[List.mem_cons,List.mem_singleton] at hy;rcases hy with rfl|rfl
  ·exact a1
  ·exact a3
 have g2:oP [aH (ah x 0),aH (ah x 1)]≤128:=by
  show(aH (ah x 0)).length+((aH (ah x 1)).length+0)≤128;omega
 obtain⟨l1,l2,l3,l4⟩:=NC _ g1 (by show 2≤16;omega) (by omega);have e1:Au x=Kk++([32]++(fw [aH (ah x 0),aH (ah x 1)]).1):=by unfold Au;rw[e0,(Gb _).1];rfl
 have hp:Av (Au x):=by
  rw[e1];refine⟨pr_app (by decide) (pr_app (by decide) l3),?_⟩;rw[List.length_append,List.length_append];simp only[List.length_cons,List.length_nil] at l4⊢;omega
 have hE:RP ([aH (ah x 0),aH (ah x 1)].map V.str)=0:=by
  unfold RP;rw[show av ([aH (ah x 0),aH (ah x 1)].map V.str)=2 from rfl,if_neg (by decide),if_neg (by decide)];have q:U1 (Nm.dZ (aH (ah x 0))) (Nm.dZ (aH (ah x 1)))=0:=(Hw _ _).2 ⟨(Dw _).trans h1,(Dw _).trans h2⟩;show(if U1 (Nm.dZ (aH (ah x 0))) (Nm.dZ (aH (ah x 1)))≠0 then _ else if aH (ah x 0)=aH (ah x 1) then(13:Int) else 0)=0;rw[if_neg (fun h=>h q),if_neg h3]
 refine⟨⟨[aH (ah x 0),aH (ah x 1)],?_,Fx _ hp.1 hp.2,hE,?_⟩,hp,?_⟩
 ·rw[e1]
  exact Xa (by decide) (by decide) (by decide) (by intro h;cases h) (by show 2≤15;omega) g1
 ·unfold RQ lrT lrN
  rw[if_pos hE,if_pos hE];rfl
 ·rw[e0,(Gb _).2.2];exact decide_eq_true (by omega)
section
variable (o:Int) (k:Int) (v:Int) (r:List UInt8) (q:List UInt8) (h:Bool) (y:Int) (m:Int) (ok:Int) (ow:Int) (od:Int) (c:Int) (b:Int)
noncomputable def Sk:List UInt8:=gy [90,111,110,101,32,90,32] (xg (RN o k v r q h y m ok ow od c b))
noncomputable def Sl:List UInt8:=gy [32] (xg (RN o k v r q h y m ok ow od c b))
abbrev agE:V:=.agg [.int .i64 o,.int .i64 k,.int .i64 v,.str r,.str q,.bool h,.int .i64 y,.int .i64 m,.int .i64 ok,.int .i64 ow,.int .i64 od,.int .i64 c,.int .i64 b]
theorem BG (hR:z8 o k v r q h y m ok ow od c b=true):(∃fs:List (List UInt8),fs≠[]∧RN o k v r q h y m ok ow od c b=fs.map V.str∧(∀x∈fs,Gd x)∧fs.length≤7∧Pr (fw fs).1∧(fw fs).1.length≤430∧kT (fs.map V.str)=0∧qK (fs.map V.str)=agE o k v r q h y m ok ow od c b)∧RO (RN o k v r q h y m ok ow od c b)=true:=by
 obtain⟨g1,g2,g3⟩:=ef_good o k v r q h y m ok ow od c b hR;obtain⟨l1,l2,l3,l4⟩:=NC _ g1 (by omega) g2;obtain⟨b1,b2⟩:=er_back o k v r q h y m ok ow od c b hR;obtain⟨r0,r1,r2,r3,r4,r5,r6,r7,r8,r9,r10,r11,r12,rE⟩:=er_inj _ b2;have e0:RN o k v r q h y m ok ow od c b=(efS o k v r q h y m ok ow od c b).map V.str:=by unfold RN;rw[hR];exact WV o k v r q h y m ok ow od c b
 rw[WV] at rE r0 r1 r2 r3 r4 r5 r6 r7 r8 r9 r10 r11 r12;refine⟨⟨_,?_,e0,g1,g3,l3,by omega,rE,?_⟩,?_⟩
 ·intro h;unfold efS at h;cases h
 ·show qK (bF (efS o k v r q h y m ok ow od c b))=_
  unfold qK;rw[r0,r1,r2,r3,r4,r5,r6,r7,r8,r9,r10,r11,r12]
 ·rw[e0,(Gb _).2.2];exact decide_eq_true (by omega)
theorem zlS_ok (hR:z8 o k v r q h y m ok ow od c b=true):ZoneL [90] (Sk o k v r q h y m ok ow od c b) (agE o k v r q h y m ok ow od c b)∧Av (Sk o k v r q h y m ok ow od c b):=by
 obtain⟨⟨fs,f0,f1,f2,f3,f4,f5,f6,f7⟩,_⟩:=BG o k v r q h y m ok ow od c b hR;have e1:Sk o k v r q h y m ok ow od c b=Dx++([32]++[90])++([32]++(fw fs).1):=by unfold Sk;rw[f1,(Gb _).1];rfl
 have hp:Av (Sk o k v r q h y m ok ow od c b):=by
  rw[e1];refine⟨pr_app (by decide) (pr_app (by decide) f4),?_⟩;simp only[List.length_append,List.length_cons,List.length_nil];omega
 have hn:dZ [90]=0:=by decide
 exact⟨⟨fs,by rw[e1];exact of_zone hn f0 (by omega) f2,Fx _ hp.1 hp.2,hn,f6,f7⟩,hp⟩
theorem elS_ok (hR:z8 o k v r q h y m ok ow od c b=true):EraL (Sl o k v r q h y m ok ow od c b) (agE o k v r q h y m ok ow od c b)∧Av (Sl o k v r q h y m ok ow od c b):=by
 obtain⟨⟨fs,f0,f1,f2,f3,f4,f5,f6,f7⟩,_⟩:=BG o k v r q h y m ok ow od c b hR;have e1:Sl o k v r q h y m ok ow od c b=[32]++(fw fs).1:=by unfold Sl;rw[f1,(Gb _).1];rfl
 have hp:Av (Sl o k v r q h y m ok ow od c b):=by
  rw[e1];refine⟨pr_app (by decide) f4,?_⟩;simp only[List.length_append,List.length_cons,List.length_nil];omega
 exact⟨⟨fs,f0,by rw[e1];exact Og f0 (by omega) f2,Fx _ hp.1 hp.2,f6,f7⟩,hp⟩
end
theorem NG: ∀(l:List (List UInt8)),(∀x∈l,Av x)→(I8 l).length≤512*l.length
 |[],_=>by simp[I8]
 |x::l,h=>by
  have h1:=(h x List.mem_cons_self).2;have h2:=NG l (fun y hy=>h y (List.mem_cons_of_mem _ hy));rw[Bu];simp only[List.length_append,List.length_cons,List.length_nil];omega
theorem Qz (l:List (List UInt8)):xh (l.map V.str)=I8 l:=by
 unfold xh;congr 1;unfold strsOf;rw[List.map_map];exact(List.map_congr_left (fun x _=>rfl)).trans (List.map_id _)
theorem joC_strs {l:List (List UInt8)} (h: ∀x∈l,Av x) (hl:l.length≤1000):U0 (l.map V.str)=true:=by
 unfold U0;rw[decide_eq_true_eq,Qz,List.length_map];have:=NG l h;exact⟨by omega,by omega⟩
theorem okA (a b:List V) (h:a.length+b.length≤1000):cO a b=true:=by rw[iM];omega
theorem three {A Z B:List (List UInt8)} {rs zs ks:List V} (hA:Eff (A.map V.str) rs [] []) (hZ:Eff (Z.map V.str) [] zs []) (hB:Eff (B.map V.str) [] [] ks) (h: ∀x∈A++Z++B,Av x) (la:A.length≤20) (lz:Z.length≤2) (lb:B.length≤20) (h1:rs.length≤4096) (h2:zs.length≤1024) (h3:ks.length≤1024):
  (U0 (aM (aM (aM [] (A.map V.str)) (Z.map V.str)) (B.map V.str))=true∧EH (xh (aM (aM (aM [] (A.map V.str)) (Z.map V.str)) (B.map V.str)))=0∧xw (xh (aM (aM (aM [] (A.map V.str)) (Z.map V.str)) (B.map V.str)))=rs∧xx (xh (aM (aM (aM [] (A.map V.str)) (Z.map V.str)) (B.map V.str)))=zs∧uq (xh (aM (aM (aM [] (A.map V.str)) (Z.map V.str)) (B.map V.str)))=ks)∧
  (U0 (aM (aM (aM [] (B.map V.str)) (Z.map V.str)) (A.map V.str))=true∧EH (xh (aM (aM (aM [] (B.map V.str)) (Z.map V.str)) (A.map V.str)))=0∧xw (xh (aM (aM (aM [] (B.map V.str)) (Z.map V.str)) (A.map V.str)))=rs∧xx (xh (aM (aM (aM [] (B.map V.str)) (Z.map V.str)) (A.map V.str)))=zs∧uq (xh (aM (aM (aM [] (B.map V.str)) (Z.map V.str)) (A.map V.str)))=ks)∧
  (U0 (aM (aM (aM [] (Z.map V.str)) (B.map V.str)) (A.map V.str))=true∧EH (xh (aM (aM (aM [] (Z.map V.str)) (B.map V.str)) (A.map V.str)))=0∧xw (xh (aM (aM (aM [] (Z.map V.str)) (B.map V.str)) (A.map V.str)))=rs∧xx (xh (aM (aM (aM [] (Z.map V.str)) (B.map V.str)) (A.map V.str)))=zs∧uq (xh (aM (aM (aM [] (Z.map V.str)) (B.map V.str)) (A.map V.str)))=ks):=by
 have key: ∀(X Y W:List (List UInt8)),(∀x∈X++Y++W,Av x)→(X++Y++W).length≤42→Eff ((X++Y++W).map V.str) rs zs ks→
   U0 (aM (aM (aM [] (X.map V.str)) (Y.map V.str)) (W.map V.str))=true∧EH (xh (aM (aM (aM [] (X.map V.str)) (Y.map V.str)) (W.map V.str)))=0∧xw (xh (aM (aM (aM [] (X.map V.str)) (Y.map V.str)) (W.map V.str)))=rs∧xx (xh (aM (aM (aM [] (X.map V.str)) (Y.map V.str)) (W.map V.str)))=zs∧uq (xh (aM (aM (aM [] (X.map V.str)) (Y.map V.str)) (W.map V.str)))=ks:=by
  intro X Y W hx hl he;have e:aM (aM (aM [] (X.map V.str)) (Y.map V.str)) (W.map V.str)=(X++Y++W).map V.str:=by unfold aM;simp
  rw[e,Qz];have hj:=NG _ hx;exact⟨joC_strs hx (by omega),tb_eff he (fun x h=>pr_ten (hx x h).1) (by omega) h1 h2 h3⟩
 have hm: ∀x,(x∈A∨x∈Z∨x∈B)→Av x:=fun x hx=>h x (by simp only[List.mem_append];rcases hx with hx|hx|hx<;>simp[hx])
 refine⟨key A Z B h ?_ ?_,key B Z A (fun x hx=>hm x ?_) ?_ ?_,key Z B A (fun x hx=>hm x ?_) ?_ ?_⟩
 ·simp only[List.length_append];omega
 ·have:=(hA.app hZ).app hB
  simpa using this
 ·simp only[List.mem_append] at hx;rcases hx with(hx|hx)|hx<;>simp[hx]
 ·simp only[List.length_append];omega
 ·have:=(hB.app hZ).app hA
  simpa using this
 ·simp only[List.mem_append] at hx;rcases hx with(hx|hx)|hx<;>simp[hx]
 ·simp only[List.length_append];omega
 ·have:=(hZ.app hB).app hA
  simpa using this
section
variable (F:Nat) (xs ls:List V) (o:Int) (k:Int) (v:Int) (r:List UInt8) (q:List UInt8) (h:Bool) (y:Int) (m:Int) (ok:Int) (ow:Int) (od:Int) (c:Int) (b:Int) (o2:Int) (k2:Int) (v2:Int) (r2:List UInt8) (q2:List UInt8) (h2:Bool) (y2:Int) (m2:Int) (xE:Int) (xG:Int) (xH:Int) (c2:Int) (b2:Int) (w1 w2:Int) (g1 g2 g3:List V)
theorem ao_1 (hE:z8 o k v r q h y m ok ow od c b=true) (hE2:z8 o2 k2 v2 r2 q2 h2 y2 m2 xE xG xH c2 b2=true) (hh:h=true) (JV:h2=false) (hK:Z9 o v y m=true) (hK2:Z9 o2 v2 y2 m2=true) (hx:xs.length≤20) (hl:ls.length≤20) (hr: ∀x∈xs,LX x=true) (x4:List V) (x5 x6:Int): ∀(d a:List V) (n:Nat),a++d=ls→d.length<n→(∀x∈a,XF x=true)→
  MP F [] n xs o k v r q h y m ok ow od c b o2 k2 v2 r2 q2 h2 y2 m2 xE xG xH c2 b2 ls false (xs.map fun x=>V.str (xC x)) (a.map fun x=>V.str (Au x)) x4 x5 x6 ls (av ls) (a.length:Int) w1 w2 g1 g2 g3 o2 k2 v2 r2 q2 h2 y2 m2 xE xG xH c2 b2 o k v r q h y m ok ow od c b some=some (.bool true):=by
 intro d;induction d with
 |nil=>
  intro a n he hn ha;obtain⟨m0,rfl⟩: ∃m,n=m+1:=⟨n-1,by omega⟩
  rw[List.append_nil] at he;subst he;obtain⟨z1,z2⟩:=zlS_ok o k v r q h y m ok ow od c b hE;obtain⟨y1,y2'⟩:=elS_ok o2 k2 v2 r2 q2 h2 y2 m2 xE xG xH c2 b2 hE2;have j1:=(BG o k v r q h y m ok ow od c b hE).2;have j2:=(BG o2 k2 v2 r2 q2 h2 y2 m2 xE xG xH c2 b2 hE2).2;have hZ:Eff ([Sk o k v r q h y m ok ow od c b,Sl o2 k2 v2 r2 q2 h2 y2 m2 xE xG xH c2 b2].map V.str) [] [Zn.v ⟨[90],Sk o k v r q h y m ok ow od c b,agE o k v r q h y m ok ow od c b,[(Sl o2 k2 v2 r2 q2 h2 y2 m2 xE xG xH c2 b2,agE o2 k2 v2 r2 q2 h2 y2 m2 xE xG xH c2 b2)]⟩] []:=eff_zone (z:=⟨[90],Sk o k v r q h y m ok ow od c b,agE o k v r q h y m ok ow od c b,[(Sl o2 k2 v2 r2 q2 h2 y2 m2 xE xG xH c2 b2,agE o2 k2 v2 r2 q2 h2 y2 m2 xE xG xH c2 b2)]⟩) ⟨z1,by
    intro p hp;rw[List.mem_singleton] at hp;rw[hp];exact y1,by simp,hh,by
    intro i hi;obtain rfl:i=0:=by simpa using hi
    exact JV⟩
  have hA:Eff ((xs.map xC).map V.str) (xs.map agR) [] []:=by
   have:=ZU (xs.map fun x=>(xC x,agR x)) (by
    intro p hp;obtain⟨x,hx,rfl⟩:=List.mem_map.1 hp;exact(TH (hr x hx)).1)
   simpa[List.map_map,Function.comp_def] using this
  have hB:Eff ((a.map Au).map V.str) [] [] (a.map fun x=> .agg [.str (aH (ah x 0)),.str (aH (ah x 1))]):=by
   have:=ZV (a.map fun x=>(Au x,.agg [.str (aH (ah x 0)),.str (aH (ah x 1))])) (by
    intro p hp;obtain⟨x,hx,rfl⟩:=List.mem_map.1 hp;exact(TI (ha x hx)).1)
   simpa[List.map_map,Function.comp_def] using this
  have hall: ∀x∈xs.map xC++[Sk o k v r q h y m ok ow od c b,Sl o2 k2 v2 r2 q2 h2 y2 m2 xE xG xH c2 b2]++a.map Au,Av x:=by
   intro x hx;simp only[List.mem_append,List.mem_map,List.mem_cons,List.not_mem_nil,or_false] at hx;rcases hx with(⟨y,hy,rfl⟩|rfl|rfl)|⟨y,hy,rfl⟩
   ·exact(TH (hr y hy)).2.1
   ·exact z2
   ·exact y2'
   ·exact(TI (ha y hy)).2.1
  obtain⟨⟨p1,p2,p3,p4,p5⟩,⟨q1,q2',q3,q4,q5⟩,⟨t1,t2,t3,t4,t5⟩⟩:=three hA hZ hB hall (by rw[List.length_map];omega) (by simp) (by rw[List.length_map];omega) (by rw[List.length_map];omega) (by simp) (by rw[List.length_map];omega);have eA:(xs.map fun x=>V.str (xC x))=(xs.map xC).map V.str:=by rw[List.map_map];rfl
  have eB:(a.map fun x=>V.str (Au x))=(a.map Au).map V.str:=by rw[List.map_map];rfl
  have eZ:[V.str (Sk o k v r q h y m ok ow od c b),V.str (Sl o2 k2 v2 r2 q2 h2 y2 m2 xE xG xH c2 b2)]=[Sk o k v r q h y m ok ow od c b,Sl o2 k2 v2 r2 q2 h2 y2 m2 xE xG xH c2 b2].map V.str:=rfl;have lA:((xs.map xC).map V.str).length≤20:=by rw[List.length_map,List.length_map];omega
  have lB:((a.map Au).map V.str).length≤20:=by rw[List.length_map,List.length_map];omega
  have lZ:([Sk o k v r q h y m ok ow od c b,Sl o2 k2 v2 r2 q2 h2 y2 m2 xE xG xH c2 b2].map V.str).length≤2:=by simp
  have lc: ∀x y:List V,(aM x y).length=x.length+y.length:=fun x y=>by unfold aM;rw[List.length_append]
  have cc1:gz [90,111,110,101,32,90,32] (xg (RN o k v r q h y m ok ow od c b))=true:=by
   have:=z2.2;unfold Sk at this;rw[eP];unfold gy at this;rw[List.length_append] at this;omega
  have cc2:gz [32] (xg (RN o2 k2 v2 r2 q2 h2 y2 m2 xE xG xH c2 b2))=true:=by
   have:=y2'.2;unfold Sl at this;rw[eP];unfold gy at this;rw[List.length_append] at this;omega
  (rw[Ez];(conv=>zeta);rw[show aU ((a.length:Nat):Int) (av a)=false from bD (by rw[aA];omega),gf,hK,hK2,j1,j2,cc1,cc2])
  rw[show[V.str (gy [90,111,110,101,32,90,32] (xg (RN o k v r q h y m ok ow od c b))),V.str (gy [32] (xg (RN o2 k2 v2 r2 q2 h2 y2 m2 xE xG xH c2 b2)))]=[Sk o k v r q h y m ok ow od c b,Sl o2 k2 v2 r2 q2 h2 y2 m2 xE xG xH c2 b2].map V.str from rfl,eA,eB];generalize (xs.map xC).map V.str=A at*;generalize (a.map Au).map V.str=B at*;generalize [Sk o k v r q h y m ok ow od c b,Sl o2 k2 v2 r2 q2 h2 y2 m2 xE xG xH c2 b2].map V.str=Z at*;have nl:([]:List V).length=0:=rfl;rw[okA [] A (by omega),okA (aM [] A) Z (by rw[lc];omega),okA (aM (aM [] A) Z) B (by rw[lc,lc];omega),p1,okA [] B (by omega),okA (aM [] B) Z (by rw[lc];omega),okA (aM (aM [] B) Z) A (by rw[lc,lc];omega),q1,okA [] Z (by omega),okA (aM [] Z) B (by rw[lc];omega),okA (aM (aM [] Z) B) A (by rw[lc,lc];omega),t1,p2,q2',t2,p3,p4,p5,q3,q4,q5,t3,t4,t5];have hq: ∀(R K:List V) (z:V),R.length≤20→K.length≤20→(ZW (ah z 1)).length≤100→sqT R [z] K R [z] K=true:=fun R K z h1 h2 h3=>to_dec ⟨rfl,rfl,rfl,by omega,by simp,by omega,fun w hw=>by rw[List.mem_singleton] at hw;rw[hw];omega⟩
  rw[hq (xs.map agR) _ _ (by rw[List.length_map];omega) (by rw[List.length_map];omega) (by show([agE o k v r q h y m ok ow od c b]++[agE o2 k2 v2 r2 q2 h2 y2 m2 xE xG xH c2 b2]).length≤100;simp)];rw[show ieq (av (xs.map agR)) (av xs)=true from bq (by rw[aA,aA,List.length_map]),show ieq (av (a.map fun x=>V.agg [.str (aH (ah x 0)),.str (aH (ah x 1))])) (av a)=true from bq (by rw[aA,aA,List.length_map])];rfl
 |cons x d ih=>
  intro a n he hn ha;obtain⟨m0,rfl⟩: ∃m,n=m+1:=⟨n-1,by omega⟩
  have hlen:ls.length=a.length+(d.length+1):=by rw[←he];simp
  have hx':aX ls (a.length:Int)=x:=by rw[ja,←he,List.getD_eq_getElem?_getD,List.getElem?_append_right (by omega),Nat.sub_self];rfl
  (rw[Ez];(conv=>zeta);rw[idx_t (xs:=ls) (i:=a.length) (by omega),show aU (a.length:Int) (av ls)=true from bE (by rw[aA];omega),hx',gt,gt])
  by_cases hR:XF x=true
  ·obtain⟨_,k1,k2⟩:=TI hR
   have e0:fdE (aH (ah x 0)) (aH (ah x 1))=0:=if_pos hR;have c1:gz [76,105,110,107,32] (xg (fdL (aH (ah x 0)) (aH (ah x 1))))=true:=by
    have:=k1.2;unfold Au at this;rw[eP];unfold gy at this;rw[List.length_append] at this;omega
   rw[e0,k2,c1,okA _ _ (by rw[List.length_map];simp only[List.length_cons,List.length_nil];omega),WY (by omega)];have:=ih (a++[x]) m0 (by rw[←he];simp) (by simp only[List.length_cons] at hn;omega) (fun y hy=>by
    rcases List.mem_append.1 hy with hy|hy
    ·exact ha y hy
    ·rw[List.mem_singleton] at hy;rw[hy];exact hR)
   rw[List.map_append,List.length_append] at this;exact this
  ·have e0:fdE (aH (ah x 0)) (aH (ah x 1))=4:=if_neg hR
   rw[e0];rfl
theorem ao_0 (hE:z8 o k v r q h y m ok ow od c b=true) (hE2:z8 o2 k2 v2 r2 q2 h2 y2 m2 xE xG xH c2 b2=true) (hh:h=true) (JV:h2=false) (hK:Z9 o v y m=true) (hK2:Z9 o2 v2 y2 m2=true) (hF:30≤F) (hx:xs.length≤20) (hl:ls.length≤20) (hf: ∀x∈xs,rfK (asInt (ah x 3)) (asInt (ah x 9))=true): ∀(d a:List V) (n:Nat),a++d=xs→d.length<n→(∀x∈a,LX x=true)→
  MO F [] n xs o k v r q h y m ok ow od c b o2 k2 v2 r2 q2 h2 y2 m2 xE xG xH c2 b2 ls false (a.map fun x=>V.str (xC x)) xs (av xs) (a.length:Int) w1 w2 g1 g2 g3 o2 k2 v2 r2 q2 h2 y2 m2 xE xG xH c2 b2 o k v r q h y m ok ow od c b some=some (.bool true):=by
 intro d;induction d with
 |nil=>
  intro a n he hn ha;obtain⟨m0,rfl⟩: ∃m,n=m+1:=⟨n-1,by omega⟩
  rw[List.append_nil] at he;subst he
  (rw[Ey];(conv=>zeta);rw[show aU ((a.length:Nat):Int) (av a)=false from bD (by rw[aA];omega),gf])
  exact ao_1 F a ls o k v r q h y m ok ow od c b o2 k2 v2 r2 q2 h2 y2 m2 xE xG xH c2 b2 w1 w2 g1 g2 g3 hE hE2 hh JV hK hK2 hx hl ha a (av a) (a.length:Int) ls [] F rfl (by omega) (fun x hx=>nomatch hx)
 |cons x d ih=>
  intro a n he hn ha;obtain⟨m0,rfl⟩: ∃m,n=m+1:=⟨n-1,by omega⟩
  have hlen:xs.length=a.length+(d.length+1):=by rw[←he];simp
  have hx':aX xs (a.length:Int)=x:=by rw[ja,←he,List.getD_eq_getElem?_getD,List.getElem?_append_right (by omega),Nat.sub_self];rfl
  have hk:rfK (asInt (ah x 3)) (asInt (ah x 9))=true:=hf x (by rw[←he];simp)
  (rw[Ey];(conv=>zeta);rw[idx_t (xs:=xs) (i:=a.length) (by omega),show aU (a.length:Int) (av xs)=true from bE (by rw[aA];omega),hx',gt,gt,hk])
  by_cases hR:LX x=true
  ·obtain⟨_,k1,k2⟩:=TH hR
   have e0:rfE (aH (ah x 0)) (asInt (ah x 1)) (asInt (ah x 2)) (asInt (ah x 3)) (asInt (ah x 4)) (asInt (ah x 5)) (asInt (ah x 6)) (asInt (ah x 7)) (asInt (ah x 8)) (asInt (ah x 9)) (aH (ah x 10))=0:=by unfold LX at hR;unfold rfE;rw[hR];rfl
   have c1:gz [82,117,108,101,32] (xg (rfV (aH (ah x 0)) (asInt (ah x 1)) (asInt (ah x 2)) (asInt (ah x 3)) (asInt (ah x 4)) (asInt (ah x 5)) (asInt (ah x 6)) (asInt (ah x 7)) (asInt (ah x 8)) (asInt (ah x 9)) (aH (ah x 10))))=true:=by
    have:=k1.2;unfold xC at this;rw[eP];unfold gy at this;rw[List.length_append] at this;omega
   rw[e0,k2,c1,okA _ _ (by rw[List.length_map];simp only[List.length_cons,List.length_nil];omega),WY (by omega)];have:=ih (a++[x]) m0 (by rw[←he];simp) (by simp only[List.length_cons] at hn;omega) (fun y hy=>by
    rcases List.mem_append.1 hy with hy|hy
    ·exact ha y hy
    ·rw[List.mem_singleton] at hy;rw[hy];exact hR)
   rw[List.map_append,List.length_append] at this;exact this
  ·have e0:rfE (aH (ah x 0)) (asInt (ah x 1)) (asInt (ah x 2)) (asInt (ah x 3)) (asInt (ah x 4)) (asInt (ah x 5)) (asInt (ah x 6)) (asInt (ah x 7)) (asInt (ah x 8)) (asInt (ah x 9)) (aH (ah x 10))=4:=by unfold LX at hR;unfold rfE;rw[Bool.not_eq_true] at hR;rw[hR];rfl
   rw[e0];rfl
end
theorem link_ab:av (uq [76,105,110,107,32,65,32,66])=1∧EH [76,105,110,107,32,65,32,66]=0:=by
 have h:=Df [([76,105,110,107,32,65,32,66],RQ [.str [65],.str [66]])] 0 r0 (by
  intro p hp;rw[List.mem_singleton] at hp;rw[hp];exact⟨[[65],[66]],by decide,by decide,by decide,rfl⟩) (by decide) (by decide)
 have q:I9 [76,105,110,107,32,65,32,66]=_:=h;have hE:EH [76,105,110,107,32,65,32,66]=0:=by
  unfold EH;rw[if_neg (by decide)];show OT (I9 _)=0;rw[q];rfl
 refine⟨?_,hE⟩;unfold uq LW;rw[if_pos hE,q];rfl
theorem ao_ev (xs ls:List V) (o k v:Int) (r q:List UInt8) (h:Bool) (y m ok ow od c b o2 k2 v2:Int) (r2 q2:List UInt8) (h2:Bool) (y2 m2 xE xG xH c2 b2:Int) (hf: ∀x∈xs,rfK (asInt (ah x 3)) (asInt (ah x 9))=true) (hK:Z9 o v y m=true) (hK2:Z9 o2 v2 y2 m2=true):af eE 7 [.sl 47 kR none xs,.agg [.int .i64 o,.int .i64 k,.int .i64 v,.str r,.str q,.bool h,.int .i64 y,.int .i64 m,.int .i64 ok,.int .i64 ow,.int .i64 od,.int .i64 c,.int .i64 b],.agg [.int .i64 o2,.int .i64 k2,.int .i64 v2,.str r2,.str q2,.bool h2,.int .i64 y2,.int .i64 m2,.int .i64 xE,.int .i64 xG,.int .i64 xH,.int .i64 c2,.int .i64 b2],.sl 50 kL none ls] (.bool true):=by
 refine aj iX aA1_ok 40 3 ?_;obtain⟨q1,q2'⟩:=link_ab
 (rw[tAO_top];(conv=>zeta);rw[q1,q2',jF,jF])
 by_cases hx:xs.length≤20
 case neg=>rw[show aU 20 (av xs)=true from bE (by rw[aA];omega)];rfl
 by_cases hl:ls.length≤20
 case neg=>rw[show aU 20 (av xs)=false from bD (by rw[aA];omega),show aU 20 (av ls)=true from bE (by rw[aA];omega)];rfl
 rw[show aU 20 (av xs)=false from bD (by rw[aA];omega),show aU 20 (av ls)=false from bD (by rw[aA];omega)];simp only[gn,gf]
 cases hE:z8 o k v r q h y m ok ow od c b with
 |false=>rfl
 |true=>
  cases hE2:z8 o2 k2 v2 r2 q2 h2 y2 m2 xE xG xH c2 b2 with
  |false=>rfl
  |true=>
   cases hh:h with
   |false=>rfl
   |true=>
    cases JV:h2 with
    |true=>rfl
    |false=>
     subst hh JV;exact ao_0 40 xs ls o k v r q true y m ok ow od c b o2 k2 v2 r2 q2 false y2 m2 xE xG xH c2 b2 _ _ _ _ _ hE hE2 rfl rfl hK hK2 (by omega) hx hl hf xs [] 40 rfl (by omega) (fun x hx=>nomatch hx)
open Go.RowKit
theorem fits0:Fits 0:=by unfold Fits;omega
def i64K:Kd→Bool| .int k=>k== .i64|_=>true
theorem zW {P:Program}: ∀(sh:List Kd) (ys:List V),sh.all i64K=true→bC sh ys=true→(∀y∈ys,I4 P y)→ ∀i,Fits (asInt (ys.getD i .any))
 |[],ys,_,hf,_,i=>by
  obtain rfl:=wU hf;rw[show asInt (([]:List V).getD i .any)=0 from rfl];unfold Fits;omega
 |k::sh,ys,hs,hf,ho,i=>by
  obtain⟨x,t,rfl,f1,f2⟩:=p9 hf;rw[List.all_cons,Bool.and_eq_true] at hs
  cases i with
  |succ i=>exact zW sh t hs.2 f2 (fun y hy=>ho y (List.mem_cons_of_mem _ hy)) i
  |zero=>
   show Fits (asInt x);have hx:=ho x List.mem_cons_self
   cases x with
   |int k' n=>
    have hk:k=.int k':=by
     cases k<;>simp[fits] at f1
     rw[f1]
    subst hk;have:k'=IntKind.i64:=by simpa[i64K] using hs.1
    subst this;unfold I4 at hx;exact bounds_i64 hx
   |_=>exact fits0
theorem Ct {a:Int} (h:Fits a):ai (ak (-9223372036854775808) a) (ak a 9223372036854775807)=true:=by
 unfold Fits at h;rw[aJ,ay,ay];omega
theorem rfK_of {m v:Int} (hm:Fits m) (hv:Fits v):rfK m v=true:=by
 unfold rfK rfC;rw[Ct hm,Ct hv];rfl
theorem efK_of {o v y m:Int} (ho:Fits o) (hv:Fits v) (hy:Fits y) (hm:Fits m):Z9 o v y m=true:=by
 unfold Z9 efC;rw[Ct ho,Ct hv,Ct hy,Ct hm];rfl
theorem ao_rules {P:Program} {xs:List V} (h: ∀x∈xs,∃ys,x=.agg ys∧bC kR ys=true∧ ∀y∈ys,I4 P y): ∀x∈xs,rfK (asInt (ah x 3)) (asInt (ah x 9))=true:=by
 intro x hx;obtain⟨ys,rfl,h1,h2⟩:=h x hx;exact rfK_of (zW kR ys (by decide) h1 h2 3) (zW kR ys (by decide) h1 h2 9)
end Nt.Ev.YtplklcejbmfgdaaGreatDoor.Rr
