/-
  Remarks, empty lines and blanks have no part: the plain law of the reader's run. ReadNoth: equations of functions, as the evaluator prints them. ReadNothing: the law, by the evaluator.
-/
import Derived.Test.YtplklcejbmfgdaaGreatDoorMXN
import Derived.Test.YtplklcejbmfgdaaGreatDoorMQ
set_option linter.unusedVariables false
set_option linter.unusedSimpArgs false
set_option linter.unusedSectionVars false
namespace Nt.Ev.YtplklcejbmfgdaaGreatDoor.Rr
set_option maxRecDepth 100000
open Go Nt Nt.Num Nt.Civil Nt.Fld Nt.Lin Go.Proofs.YtplklcejbmfgdaaGreatDoor Nt.Ev.YtplklcejbmfgdaaGreatDoor Nt.Ev.YtplklcejbmfgdaaGreatDoor.Lk
variable [mJ]
def K7:List UInt8:=[32,35,32,109,111,114,101]
theorem Yx: ∀(s:List UInt8) (out:List (List UInt8)) (f:List UInt8) (op qu:Bool),qN (s++K7) out f op qu=qN s out f op qu
 |[],out,f,op,true=>rfl
 |[],out,f,op,false=>rfl
 |c::t,out,f,op,qu=>by
  show qN (c::(t++K7)) out f op qu=_;unfold qN;simp only[Yx t]
theorem Ta (s:List UInt8):Wh ([32,32]++s++K7)=Wh s:=by
 show qN ([32,32]++s++K7) [] [] false false=_;rw[Yx];rfl
theorem ck_more (s:List UInt8) (h:s.length≤400):DD ([32,32]++s++K7)=DD s:=by
 have e:vK ([32,32]++s++K7)=vK s:=by
  rw[SQ,SQ,show vK [32,32]=false from by decide,show vK K7=false from by decide,Bool.false_or,Bool.or_false]
 have l1:aj ([32,32]++s++K7)=(s.length:Int)+9:=by
  rw[aB];simp[K7];omega
 unfold DD;rw[e,l1,aB,bB (by omega),bB (by omega)]
structure Wp (t u:qP):Prop where
 rs:t.rs=u.rs
 zs:t.zs=u.zs
 ks:t.ks=u.ks
 yz:t.yz=u.yz
 op:u.op=2*t.op
theorem Wp.err {t u:qP} (h:Wp t u) (s s':List UInt8) (h1:Wh s'=Wh s) (h2:DD s'=DD s):u.err s'=t.err s:=by
 have ho:(0<u.op)=(0<t.op):=by rw[h.op];exact propext (by omega)
 have e1:bX s'=bX s:=by unfold bX;rw[h1]
 have e2:Le s'=Le s:=by unfold Le;rw[h1]
 unfold qP.err lJ;rw[e1,e2,h2,h.rs,h.zs,h.ks,h.yz];simp only[ho]
theorem Wp.step {t u:qP} (h:Wp t u) (s s':List UInt8) (k:Int) (h1:Wh s'=Wh s):Wp (t.step k s) (u.step (2*k) s'):=by
 have ho:(0<u.op)=(0<t.op):=by rw[h.op];exact propext (by omega)
 have e1:bX s'=bX s:=by unfold bX;rw[h1]
 have kd:iq u.op s'=iq t.op s:=by unfold iq;rw[e1];simp only[ho]
 refine⟨?_,?_,?_,?_,?_⟩
 ·show qa t.rs t.op s=qa u.rs u.op s'
  unfold qa;rw[kd,e1,h.rs]
 ·show qb t.zs t.yz t.op s=qb u.zs u.yz u.op s'
  unfold qb;rw[kd,e1,h.zs,h.yz]
 ·show qc t.ks t.op s=qc u.ks u.op s'
  unfold qc;rw[kd,e1,h.ks]
 ·show qd t.yz t.op s=qd u.yz u.op s'
  unfold qd;rw[kd,e1,h.yz]
 ·show nN u.op (2*k) s'=2*nN t.op k s
  unfold nN nD;rw[kd,e1,h.op];split
  ·split<;>omega
  ·split
   ·split<;>omega
   ·rfl
theorem Wp.blank {t u:qP} (h:Wp t u) (k:Int):u.err [32,9]=0∧Wp t (u.step k [32,9]):=by
 have e1:Wh [32,9]=([],0):=rfl;have kd:iq u.op [32,9]=4:=rfl;refine⟨rfl,?_⟩;rw[jW kd];exact⟨h.rs,h.zs,h.ks,h.yz,h.op⟩
def fD:List (List UInt8)→List (List UInt8)
 |[]=>[]
 |x::l=>[32,9]::([32,32]++x++K7)::fD l
theorem Nb: ∀(l:List (List UInt8)) (k:Int) (t u:qP),(∀x∈l,x.length≤400)→Wp t u→
  Wp (fQ (l.map V.str) k t).1 (fQ ((fD l).map V.str) (2*k) u).1∧(fQ ((fD l).map V.str) (2*k) u).2.2=(fQ (l.map V.str) k t).2.2∧(fQ ((fD l).map V.str) (2*k) u).2.1=2*(fQ (l.map V.str) k t).2.1
 |[],k,t,u,_,h=>⟨h,rfl,rfl⟩
 |x::l,k,t,u,hl,h=>by
  obtain⟨b1,b2⟩:=h.blank (2*k+1);show Wp (fQ (V.str x::l.map V.str) k t).1 (fQ (V.str [32,9]::V.str ([32,32]++x++K7)::(fD l).map V.str) (2*k) u).1∧(fQ (V.str [32,9]::V.str ([32,32]++x++K7)::(fD l).map V.str) (2*k) u).2.2=(fQ (V.str x::l.map V.str) k t).2.2∧(fQ (V.str [32,9]::V.str ([32,32]++x++K7)::(fD l).map V.str) (2*k) u).2.1=2*(fQ (V.str x::l.map V.str) k t).2.1;rw[gL (x:=V.str [32,9]) b1];have hx:=hl x List.mem_cons_self;have he:=b2.err x _ (Ta x) (ck_more x hx);by_cases e:t.err (DF (V.str x))=0
  ·rw[gL e,gL (x:=V.str ([32,32]++x++K7)) (t:=u.step (2*k+1) (DF (V.str [32,9]))) (he.trans e),show(2*k+1+1:Int)=2*(k+1) from by omega]
   exact Nb l (k+1) _ _ (fun y hy=>hl y (List.mem_cons_of_mem _ hy)) (b2.step x _ (k+1) (Ta x))
  ·rw[iV e,iV (x:=V.str ([32,32]++x++K7)) (t:=u.step (2*k+1) (DF (V.str [32,9]))) (fun h=>e (he.symm.trans h)),show(2*k+1+1:Int)=2*(k+1) from by omega]
   exact⟨b2,he,rfl⟩
theorem Nc: ∀(l:List (List UInt8)),(∀x∈l,x.contains 10=false)→ ∀x∈fD l,x.contains 10=false
 |[],_,x,hx=>by cases hx
 |y::l,h,x,hx=>by
  unfold fD at hx;rw[List.mem_cons,List.mem_cons] at hx;rcases hx with rfl|rfl|hx
  ·decide
  ·rw[List.contains_append,List.contains_append,h y List.mem_cons_self];decide
  ·exact Nc l (fun z hz=>h z (List.mem_cons_of_mem _ hz)) x hx
theorem Nf: ∀(l:List (List UInt8)),(sW (fD l)).length=(sW l).length+12*l.length
 |[]=>rfl
 |x::l=>by
  show([32,9]++[10]++(([32,32]++x++K7)++[10]++sW (fD l))).length=(x++[10]++sW l).length+12*(l.length+1);simp only[List.length_append,List.length_cons,List.length_nil,Nf l,K7];omega
theorem tb_more {s s':List UInt8} (hs:s.length≤1048576) (hs':s'.length≤1048576) (hl: ∀x∈eu s,x.length≤400) (h:eu s'=fD (eu s)):
  rU s'=rU s∧qp s'=2*qp s∧qT s'=qT s∧qU s'=qU s∧qV s'=qV s:=by
 obtain⟨a,b,c⟩:=Nb (eu s) 0 r0 r0 hl ⟨rfl,rfl,rfl,rfl,rfl⟩;have q1:fQ ((eu s).map V.str) 0 r0=fU s:=rfl;have q2:fQ ((fD (eu s)).map V.str) (2*0) r0=fU s':=by show _=fQ ((eu s').map V.str) 0 r0;rw[h];rfl
 rw[q1,q2] at a b c;have ho:(0<(fU s').1.op)=(0<(fU s).1.op):=by rw[a.op];exact propext (by omega)
 have hE:Lf s'=Lf s:=by
  show vM (fU s')=vM (fU s);unfold vM;rw[b];simp only[ho]
 have hL:Lf s≠0→Tt s'=2*Tt s:=by
  intro _;show wW (fU s')=2*wW (fU s);unfold wW;rw[b,c,a.op];simp only[show(0<2*(fU s).1.op)=(0<(fU s).1.op) from propext (by omega)];split
  ·rfl
  ·split<;>rfl
 have hT:rU s'=rU s:=by unfold rU;rw[if_neg (show¬1048576<s'.length by omega),if_neg (show¬1048576<s.length by omega),hE]
 refine⟨hT,?_,?_,?_,?_⟩
 ·unfold qp
  rw[if_neg (show¬1048576<s'.length by omega),if_neg (show¬1048576<s.length by omega),hE];by_cases e:Lf s=0
  ·rw[if_pos e,if_pos e];rfl
  ·rw[if_neg e,if_neg e,hL e]
 ·unfold qT Jg;rw[hT,a.rs]
 ·unfold qU Jh;rw[hT,a.zs]
 ·unfold qV Ji;rw[hT,a.ks]
noncomputable def isSt:V→Bool| .nilsl=>true| .sl e k _ _=>e==9&&Kd.qO [Kd.str] k|_=>false
noncomputable def nOfS:aF:=fun a=>match a with|[.str s]=>some (ai (aj s) 4000000,.sl 9 [.str] none (bY s))|_=>none
noncomputable def nJoS:aF:=fun a=>match a with|[x]=>some (bif isSt x then Wm (xL x) else false,.str (Dg (xL x)))|_=>none
noncomputable def nS1:List (Nat×aF):=(10,nOfS)::(12,nJoS)::(11,TT)::(13,lSaS)::[]
noncomputable def nS2:List (Nat×aF):=(8,lLvS)::nS1
noncomputable def Dw (F:Nat) (ns:List Nat) (n:Nat) (x0:List UInt8) (x2:Bool) (x3 x18:List V) (x19 x20:Int) (K:V→Option V):Option V:=
 iA eE nS2 F 3 3 [1,1,1,1,0,1,0] ns K n (mH 68 [(0,V.str x0),(2,V.bool x2),(3,V.sl 9 [Kd.str] (some 3) x3),(6,V.tup []),(8,V.tup []),(9,V.tup []),(11,V.tup []),(18,V.sl 9 [Kd.str] none x18),(19,V.int .i64 x19),(20,V.int .i64 x20)] [])
theorem aab (F:Nat) (s:List UInt8) (K:V→Option V):
 cr eE (bV eE nS2 F 3) F 3 [V.str s] K=
 sel (aG (ai (aj s) 8000)) (K (V.bool true)) (sel (ai (aj s) 4000000) (Dw F [] F s false [] (bY s) (av (bY s)) 0 K) none):=by kernel_rfl
theorem zP (F n:Nat) (x0:List UInt8) (x2:Bool) (x3 x18:List V) (x19 x20:Int) (K:V→Option V):
 Dw F [] (n+1) x0 x2 x3 x18 x19 x20 K=
 let A:=aR (ax (aP x18 x20) 0);let C:=K (V.bool true);let D:=K (V.bool false);let E:=jX [32,32] A;let B:=[V.str [32,9],V.str (jX E [32,35,32,109,111,114,101])];sel (aT x20 x19) (sel (ak (ai 0 x20) (aT x20 (av x18))) (sel (aT 400 (aj A)) C (sel (kS [32,32] A) (sel (kS E [32,35,32,109,111,114,101]) (sel (fI x3 B) (Dw F [] n x0 x2 (aZ x3 B) x18 x19 (fB .i64 x20 1) K) none) none) none)) none) (sel (Wm x3) (sel (ieq (rU x0) 8) C (sel (ieq (rU (Dg x3)) (rU x0)) (sel (ieq (qp (Dg x3)) (DK .i64 2 (qp x0))) (sel (sqT (qT x0) (qU x0) (qV x0) (qT (Dg x3)) (qU (Dg x3)) (qV (Dg x3))) C none) D) D)) none):=by kernel_rfl
theorem Ol {E:Env} {f e:Nat} {sh:List Kd} {r:V} (h:af E f [.sl e sh none []] r):af E f [.nilsl] r:=by
 intro G w vs hG hg hp;obtain⟨x,rfl,hx⟩:=El hp;exact h G w _ hG hg (.cons (zq hx) .nil)
theorem Om {E:Env} {f e:Nat} {sh:List Kd} {o:Option Nat} {xs:List V} {r:V} (h:af E f [.sl e sh none xs] r):af E f [.sl e sh o xs] r:=by
 intro G w vs hG hg hp;obtain⟨x,rfl,hx⟩:=El hp;exact h G w _ hG hg (.cons (by unfold aN at hx⊢;exact hx) .nil)
theorem Tc (s:List UInt8) (hc:ai (aj s) 4000000=true):af eE 10 [.str s] (.sl 9 [.str] none (bY s)):=eO (Kq s hc)
theorem Td (x:V) (hc:(bif isSt x then Wm (xL x) else false)=true):af eE 12 [x] (.str (Dg (xL x))):=by
 obtain⟨h1,h2⟩:=lG hc
 cases x with
 |nilsl=>exact eO (Ol (SN [] h2))
 |sl e k o xs=>
  have h1:(e==9&&Kd.qO [Kd.str] k)=true:=h1;rw[Bool.and_eq_true,beq_iff_eq] at h1;obtain⟨rfl,hk⟩:=h1;obtain rfl:=Kd.bK _ _ hk;exact eO (Om (SN xs h2))
 |_=>cases h1
theorem nS1_ok:bq eE nS1:=by
 unfold nS1;refine bq.cons (fun args r h=>?_) (bq.cons (fun args r h=>?_) (bq.cons (fun args r h=>?_) (bq.cons (fun args r h=>?_) bq.nil)));all_goals (revert h;intro h;first|unfold nOfS at h|unfold nJoS at h|unfold TT at h|unfold lSaS at h)
 all_goals (split at h;rotate_left; · cases h)
 all_goals (simp only[Option.some.injEq,Prod.mk.injEq] at h;obtain⟨hc,rfl⟩:=h)
 ·exact Tc _ hc
 ·exact Td _ hc
 ·exact Ks _ rfl
 ·exact lSaS_ok _ _ _ _ _ _ _ _ _ _ _ _ _ _ _ _ _ _ _ _ _ _ _ _ hc
theorem nS2_ok:bq eE nS2:=by
 unfold nS2;refine bq.cons (fun args r h=>?_) nS1_ok;all_goals (revert h;intro h;first|unfold lLvS at h)
 all_goals (split at h;rotate_left; · cases h)
 all_goals (simp only[Option.some.injEq,Prod.mk.injEq] at h;obtain⟨hc,rfl⟩:=h)
 ·exact S9 rfl
theorem Ng: ∀(a b:List (List UInt8)),fD (a++b)=fD a++fD b
 |[],b=>rfl
 |x::a,b=>by show[32,9]::([32,32]++x++K7)::fD (a++b)=_;rw[Ng a b];rfl
theorem E4: ∀(a:List (List UInt8)),(fD a).length=2*a.length
 |[]=>rfl
 |x::a=>by show(fD a).length+1+1=2*(a.length+1);rw[E4 a];omega
theorem Dx: ∀(s cur:List UInt8),cur.contains 10=false→ ∀x∈lg s cur,x.contains 10=false
 |[],cur,hc,x,hx=>by
  unfold lg at hx;split at hx
  ·cases hx
  ·rw[List.mem_singleton] at hx;rw[hx];exact hc
 |c::t,cur,hc,x,hx=>by
  unfold lg at hx
  cases h:c==10 with
  |true=>
   simp only[h,sel] at hx;rcases List.mem_cons.1 hx with rfl|hx
   ·exact hc
   ·exact Dx t [] rfl x hx
  |false=>
   simp only[h,sel] at hx;refine Dx t _ ?_ x hx;rw[List.contains_append,hc,List.contains_cons,List.contains_nil];rw[beq_eq_false_iff_ne] at h;have:((10:UInt8)==c)=false:=by rw[beq_eq_false_iff_ne];exact fun e=>h e.symm
   rw[this];rfl
theorem op_rng {op ln:Int} {s:List UInt8} (h0:0≤op) (h1:op≤ln):0≤nN op ln s∧nN op ln s≤ln:=by
 unfold nN nD;split
 ·split<;>omega
 ·split
  ·split<;>omega
  ·omega
theorem zx: ∀(xs:List V) (k:Int) (t:qP),0≤t.op→t.op≤k→
  0≤(fQ xs k t).1.op∧(fQ xs k t).1.op≤(fQ xs k t).2.1∧k≤(fQ xs k t).2.1∧(fQ xs k t).2.1≤k+(xs.length:Int)∧((fQ xs k t).2.2≠0→k<(fQ xs k t).2.1)
 |[],k,t,h0,h1=>⟨h0,h1,by show k≤k;omega,by show k≤k+0;omega,fun h=>absurd rfl h⟩
 |x::xs,k,t,h0,h1=>by
  by_cases e:t.err (DF x)=0
  ·rw[gL e]
   have ho:=op_rng (op:=t.op) (ln:=k+1) (s:=DF x) h0 (by omega);obtain⟨a,b,c,d,f⟩:=zx xs (k+1) (t.step (k+1) (DF x)) ho.1 ho.2;refine⟨a,b,by omega,by rw[List.length_cons];omega,fun h=>by have:=f h;omega⟩
  ·rw[iV e]
   exact⟨h0,by show t.op≤k+1;omega,by show k≤k+1;omega,by show k+1≤k+((xs.length+1:Nat):Int);omega,fun _=>by show k<k+1;omega⟩
theorem al_line (s:List UInt8):0≤Tt s∧Tt s≤(s.length:Int):=by
 obtain⟨a,b,c,d,f⟩:=zx (bY s) 0 r0 (by decide) (by decide);have:=qE s;have e:fQ (bY s) 0 r0=fU s:=rfl;rw[e] at a b c d f;show 0≤wW (fU s)∧wW (fU s)≤_;unfold wW;split
 ·omega
 ·split<;>omega
theorem rN_end (s:List UInt8) (hs:s.length≤8000) (hl: ∀x∈eu s,x.length≤400):
  Wm (Ev.bL (fD (eu s)))=true∧rU (Dg (Ev.bL (fD (eu s))))=rU s∧qp (Dg (Ev.bL (fD (eu s))))=2*qp s∧sqT (qT s) (qU s) (qV s) (qT (Dg (Ev.bL (fD (eu s))))) (qU (Dg (Ev.bL (fD (eu s))))) (qV (Dg (Ev.bL (fD (eu s)))))=true∧0≤qp s∧qp s≤8001:=by
 have e1:Dg (Ev.bL (fD (eu s)))=sW (fD (eu s)):=by unfold Dg;rw[Z0]
 have l1:=qE s;have l2:(eu s).length≤s.length:=by have:(bY s).length=(eu s).length:=List.length_map ..;omega
 have l3:(sW (eu s)).length≤s.length+1:=by
  rcases zk s [] with h|h
  ·show(sW (lg s [])).length≤_;rw[h];simp
  ·show(sW (lg s [])).length≤_;rw[h];simp
 have l4:=Nf (eu s);obtain⟨a,b,c,d,e⟩:=tb_more (s:=s) (s':=sW (fD (eu s))) (by omega) (by omega) hl (EV _ (Nc _ (Dx s [] rfl)));rw[e1,a,b,c,d,e];refine⟨?_,rfl,rfl,(VW s).1,?_⟩
 ·unfold Wm
  rw[decide_eq_true_eq,e1];have:(Ev.bL (fD (eu s))).length=(fD (eu s)).length:=List.length_map ..;have:=E4 (eu s);exact⟨by omega,by omega⟩
 ·unfold qp
  rw[if_neg (by omega)];split
  ·omega
  ·have:=al_line s
   omega
theorem rN_loop (F:Nat) (s:List UInt8) (hs:s.length≤8000): ∀(b a:List (List UInt8)) (n:Nat),a++b=eu s→b.length<n→(∀x∈a,x.length≤400)→
  Dw F [] n s false (Ev.bL (fD a)) (bY s) (av (bY s)) (a.length:Int) some=some (.bool true):=by
 have hlen:av (bY s)=((eu s).length:Int):=by rw[aD];unfold bY;rw[je]
 have l1:=qE s;intro b;induction b with
 |nil=>
  intro a n he hn ha;obtain⟨m,rfl⟩: ∃m,n=m+1:=⟨n-1,by omega⟩
  rw[List.append_nil] at he;subst he;obtain⟨h1,h2,h3,h4,h5,h6⟩:=rN_end s hs ha
  (rw[zP];(conv=>zeta);rw[hlen,aU (bB (by omega)),ay h1,h2,h3,h4,jc,show ieq (2*qp s) (DK .i64 2 (qp s))=true from bn (by rw[Pw (by omega)])])
  cases ieq (rU s) 8<;>rfl
 |cons x b ih=>
  intro a n he hn ha;obtain⟨m,rfl⟩: ∃m,n=m+1:=⟨n-1,by omega⟩
  have hl:(eu s).length=a.length+(b.length+1):=by rw[←he];simp
  have hll:(bY s).length=(eu s).length:=je _;have hx:aR (ax (aP (bY s) (a.length:Int)) 0)=x:=by
   unfold bY Ev.bL;rw[ku,←he,List.map_append,List.getD_eq_getElem?_getD,List.getElem?_append_right (by simp),List.length_map,Nat.sub_self];rfl
  (rw[zP];(conv=>zeta);rw[hlen,ay (bD (by omega)),ay (by rw[aH,aA,bf];omega),hx])
  by_cases h4:x.length≤400
  ·have hm:=E4 a
   rw[aU (bB (by rw[aB];omega)),ay (by rw[iG];simp;omega),ay (by rw[iG];simp[jX];omega),ay (by rw[kU,je];simp;omega),iO (by omega)];have e:aZ (Ev.bL (fD a)) [V.str [32,9],V.str (jX (jX [32,32] x) [32,35,32,109,111,114,101])]=Ev.bL (fD (a++[x])):=by
    rw[Ng];unfold aZ Ev.bL;rw[List.map_append];rfl
   rw[e,←hlen,show(a.length:Int)+1=((a++[x]).length:Int) from by simp];refine ih (a++[x]) m (by rw[←he];simp) (by simp only[List.length_cons] at hn;omega) (fun y hy=>?_);rcases List.mem_append.1 hy with hy|hy
   ·exact ha y hy
   ·rw[List.mem_singleton] at hy;rw[hy];exact h4
  ·rw[ay (bD (by rw[aB];omega))]
theorem rN_ev (s:List UInt8):af eE 3 [.str s] (.bool true):=by
 refine ah iY nS2_ok ((eu s).length+5) 3 ?_;rw[aab];by_cases h:s.length≤8000
 ·rw[aU (by rw[show ai (aj s) 8000=true from bF (by rw[aB];omega)];rfl),ay (bF (by rw[aB];omega))]
  exact rN_loop _ s h (eu s) [] _ rfl (by omega) (fun x hx=>nomatch hx)
 ·rw[ay (by rw[show ai (aj s) 8000=false from vY (by rw[aB];omega)];rfl)]
end Nt.Ev.YtplklcejbmfgdaaGreatDoor.Rr
