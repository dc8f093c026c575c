/-
  LeapBack: equations of functions (3), as the evaluator prints them. LeapBack: there and back.
-/
import Derived.Test.YtcmockbdkppglaaDoorMXVA
set_option linter.all false
set_option maxRecDepth 100000
namespace Nt.Ev.YtcmockbdkppglaaDoor.Lp
open Go Nt.Num Go.Proofs.YtcmockbdkppglaaDoor
open Nt.Ev.YtcmockbdkppglaaDoor
open Nt.Civil
open Nt.Fld
open Nt.Lin
set_option maxRecDepth 100000 in
theorem Bo (F n:Nat) (x0:af) (x1 x2:Int) (x6:Bool) (x7 x8 x9:Int) (x10:Bool) (U2:Int) (R5:af) (U3 Mg:Int) (K:V→Option V):
  kY F [] (n+1) x0 x1 x2 x6 x7 x8 x9 x10 U2 false R5 U3 Mg K=
 let D:=K (V.bool false);let E:=av true (aH (aQ x0) 1000000);let H:=aY .i64 x1 1;let I:=Cc x0 x2;let L:=aY .i64 Mg 1;let C:=sel (ieq (IG x0) 0) (sel (av (av true true) (aH (aQ (Oh (qM x0))) 1000000)) (sel (Kk (Oh (qM x0)) x0) (K (V.bool (av (ieq (U0 (qM x0)) 0) (ieq (U1 (qM x0)) 0)))) D) none) D;let J:=sP x0 H;let A:=sel E (sel (aH (aK (qM x0)) 900000) (sel (aS (ieq (IG x0) 0)) (sel E (sel (aS (kU x0)) (K (V.bool true)) C) none) C) none) (none);let G:=sel (BB x0 x2) (sel (aS (ieq (sP x0 I) (bD .i64 x2 1))) D A) A;let B:=sel E (sel (ieq (sV x0 x2) 0) (sel E (sel (aS (ieq (wN x0 I) 0)) D (sel (aS (BB x0 x2)) (sel (aS (ieq (sP x0 I) x2)) D G) G)) none) A) (none);sel (aZ Mg U3) (sel (av (aH 0 Mg) (aZ Mg (aQ R5))) (sel (ieq (asInt (aN (bq R5 Mg) 1)) (-1)) (kY F [] n x0 x1 x2 x6 x7 x8 x9 x10 U2 (ieq (asInt (aN (bq R5 Mg) 0)) H) R5 U3 L K) (kY F [] n x0 x1 x2 x6 x7 x8 x9 x10 U2 false R5 U3 L K)) none) (sel (aS (ieq x9 x1)) D (sel x10 D (sel (aS (ieq U2 0)) D (sel E (sel (ieq (wN x0 H) 0) (sel (aZ J x7) D (sel (aZ (aY .i64 x7 2) J) D (sel (aS (beq false (ieq J x7))) D B))) B) none)))):=by kernel_rfl
open Go.RowKit Nt Nt.Ev
theorem UI:dP fu SQ:=by
 unfold SQ;refine dP.cons (fun args r h=>?_) PX;all_goals (revert h;intro h;first|unfold YW at h)
 all_goals (split at h;rotate_left; · cases h)
 all_goals (simp only[aF,bP] at h;obtain⟨a,rfl⟩:=h)
 ·exact UE rfl
theorem Mh:aS false=true:=rfl
theorem jR (c:Bool):beq c c=true:=by cases c<;>rfl
theorem UJ {xs:af} (hB:kU xs=true) (m:Int):Nt.Leap.Last (lA xs) (lT xs) xs.length m (DJ xs m):=by
 obtain⟨h,hl⟩:=iq.1 hB;have b:=Nt.Leap.pz h (m+1001+1);have a:Nt.Leap.Last (lA xs) (lT xs) xs.length m (utD xs m):=by
  refine Nt.Leap.wG h 4000 _ ?_ ?_ ?_;all_goals unfold Nt.Leap.least
  ·omega
  ·omega
  ·split
   ·exact .inr (by omega)
   ·exact .inl rfl
 rw[zW h a];exact a
theorem go_in {xs:af} (hB:kU xs=true) {t:Int} (h: -1096193779200≤t∧t≤971890963199):wN xs t=0∧sP xs t=iP xs t:=by
 have e:wN xs t=0:=by unfold wN;rw[if_pos hB,if_pos h]
 refine⟨e,?_⟩;unfold sP;rw[if_pos e]
theorem Vw {xs:af} {t:Int} (h:wN xs t=0):kU xs=true∧-1096193779200≤t∧t≤971890963199:=by
 unfold wN at h;by_cases hB:kU xs=true
 ·rw[if_pos hB] at h
  by_cases a: -1096193779200≤t∧t≤971890963199
  ·exact⟨hB,a⟩
  ·rw[if_neg a] at h;cases h
 ·rw[if_neg hB] at h;cases h
theorem Zs {xs:af} {n:Int} (h:sV xs n=0):kU xs=true∧iP xs (-1096193779200)≤n∧n≤iP xs 971890963199+1:=by
 unfold sV at h;by_cases hB:kU xs=true
 ·rw[if_pos hB] at h
  by_cases a:n<iP xs (-1096193779200)∨iP xs 971890963199+1<n
  ·rw[if_pos a] at h;cases h
  ·exact⟨hB,by omega⟩
 ·rw[if_neg hB] at h;cases h
theorem uD (xs:af) (n:Int):ieq (sV xs n) 0=false∨(ieq (sV xs n) 0=true∧ieq (wN xs (Cc xs n)) 0=true∧((BB xs n=true∧ieq (sP xs (Cc xs n)) (bD .i64 n 1)=true)∨(BB xs n=false∧ieq (sP xs (Cc xs n)) n=true))):=by
 by_cases a:sV xs n=0
 ·obtain⟨hB,h,e⟩:=Zs a
  obtain⟨b,hl⟩:=iq.1 hB;have hL:=UJ hB n;have i:=Nt.Leap.UG b h hL;have c:=Nt.Leap.NY b e hL;have d:Cc xs n=DJ xs n:=by unfold Cc;rw[if_pos a]
  obtain⟨g1,g⟩:=go_in hB ⟨i,hL.1⟩;have f1:=Nt.Leap.pz b (-1096193779200);have k:=Nt.Leap.pz b 971890963199;have j:iP xs (DJ xs n)=Nt.Leap.G (lA xs) (lT xs) xs.length (DJ xs n):=rfl;have l:iP xs (-1096193779200)=Nt.Leap.G (lA xs) (lT xs) xs.length (-1096193779200):=rfl;have m:iP xs 971890963199=Nt.Leap.G (lA xs) (lT xs) xs.length 971890963199:=rfl;refine .inr ⟨cZ a,by rw[d];exact cZ g1,?_⟩;have f:BB xs n=aZ (iP xs (DJ xs n)) n:=by unfold BB;rw[if_pos a]
  rw[d,f,g];rcases c with c|c
  ·right
   exact⟨bC (by omega),cZ (by omega)⟩
  ·left
   exact⟨bV (by omega),cZ (by rw[eU (by omega)];omega)⟩
 ·exact .inl (bJ a)
theorem GU {xs:af} (hl:xs.length≤100) (hB:kU xs=true):ieq (IG xs) 0=true∧aH (aK (qM xs)) 900000=true∧aH (aQ (Oh (qM xs))) 1000000=true∧Kk (Oh (qM xs)) xs=true∧ieq (U0 (qM xs)) 0=true∧ieq (U1 (qM xs)) 0=true:=by
 obtain⟨b,a,h3⟩:=NZ xs hB;have c:=Jn xs xs.length 0;unfold Oh U0 U1;rw[a];refine⟨cZ (by unfold IG;rw[if_pos hB]),fU (by rw[aA];omega),fU ?_,h3,rfl,rfl⟩;show aQ (Ou xs 0 xs.length)≤_;rw[aM];omega
theorem zh (F:Nat) (xs:af) (t n:Int) (H:Bool) (hl:xs.length≤100) (hB:kU xs=true) (z: -1096193779200≤t∧t≤971890963199): ∀(j i m:Nat) (g:Bool),i+j=xs.length→j<m→(g=true↔ ∃k,k<i∧lT xs k= -1∧lA xs k=t+1)→
  kY F [] m xs t n H (sP xs t) (wN xs t) (Cc xs (sP xs t)) (BB xs (sP xs t)) (sV xs (sP xs t)) g xs (aQ xs) (i:Int) some=some (.bool true)
 |0,i,m,g,U,Y,N=>by
  obtain⟨m,rfl⟩: ∃k,m=k+1:=⟨m-1,by omega⟩
  obtain⟨B,hk⟩:=iq.1 hB;obtain⟨g1,T⟩:=go_in hB z;have Q:g=true↔Nt.Leap.Out (lA xs) (lT xs) xs.length t:=by
   rw[N];have:i=xs.length:=by omega
   subst this;exact Iff.rfl
  have f0:=Nt.Leap.pz B t;have m1:=Nt.Leap.vM B z.1;have Z:=Nt.Leap.vM B z.2;have w0:sV xs (iP xs t)=0:=by
   unfold sV;rw[if_pos hB,if_neg];show¬(Nt.Leap.G (lA xs) (lT xs) xs.length t<Nt.Leap.G (lA xs) (lT xs) xs.length (-1096193779200)∨Nt.Leap.G (lA xs) (lT xs) xs.length 971890963199+1<Nt.Leap.G (lA xs) (lT xs) xs.length t);omega
  have P:Cc xs (iP xs t)=DJ xs (iP xs t):=by unfold Cc;rw[if_pos w0]
  have R:BB xs (iP xs t)=aZ (iP xs (DJ xs (iP xs t))) (iP xs t):=by unfold BB;rw[if_pos w0]
  have I:aY .i64 t 1=t+1:=bQ (by omega);have s:av true (aH (aQ xs) 1000000)=true:=by rw[ay,ax,aM];exact⟨rfl,by omega⟩
  obtain⟨u,p,v,r,w,x⟩:=GU hl hB;have q:aY .i64 (iP xs t) 2=iP xs t+2:=bQ (by
   show -9223372036854775808≤Nt.Leap.G (lA xs) (lT xs) xs.length t+2∧_;show _∧Nt.Leap.G (lA xs) (lT xs) xs.length t+2≤_;omega)
  cases g with
  |true=>
   (rw[Bn];(conv=>zeta);rw[aD (bC (by rw[aM];omega)),I,T,P,R,w0])
   obtain⟨E,o2⟩:=Nt.Leap.UF B (Q.1 rfl);have O:DJ xs (iP xs t)=t+1:=zW B o2;have E:iP xs (t+1)=iP xs t:=E;obtain⟨M,L⟩:=go_in hB (t:=t+1) ⟨by omega,o2.1⟩;rw[O,M,L,E];have l:aZ (iP xs t) (iP xs t)=false:=bC (by omega);have c:aZ (iP xs t+2) (iP xs t)=false:=bC (by omega);have f:ieq (t+1) (t+1)=true:=cZ rfl;have A:ieq (iP xs t) (iP xs t)=true:=cZ rfl;have o:ieq (0:Int) 0=true:=rfl;rcases uD xs n with d|⟨d,y,⟨a,b⟩|⟨a,b⟩⟩
   ·simp only[q,l,c,f,A,o,s,u,p,v,r,w,x,d,hB,gt,gf,gn,Mh,gB,jR]
   ·simp only[q,l,c,f,A,o,s,u,p,v,r,w,x,d,y,a,b,hB,gt,gf,gn,Mh,gB,jR]
   ·simp only[q,l,c,f,A,o,s,u,p,v,r,w,x,d,y,a,b,hB,gt,gf,gn,Mh,gB,jR]
  |false=>
   (rw[Bo];(conv=>zeta);rw[aD (bC (by rw[aM];omega)),I,T,P,R,w0])
   obtain⟨E,o2⟩:=Nt.Leap.Xb B z.2 (fun h=>by cases Q.2 h);have O:DJ xs (iP xs t)=t:=zW B o2;have E:iP xs (t+1)=iP xs t+1∨iP xs (t+1)=iP xs t+2:=E;rw[O];have l:aZ (iP xs t) (iP xs t)=false:=bC (by omega);have f:ieq t t=true:=cZ rfl;have o:ieq (0:Int) 0=true:=rfl;have D:beq false false=true:=rfl;by_cases hx:wN xs (t+1)=0
   ·obtain⟨_,W⟩:=Vw hx
    obtain⟨M,L⟩:=go_in hB (t:=t+1) W;rw[M,L];have c:aZ (iP xs (t+1)) (iP xs t)=false:=bC (by omega);have A:ieq (iP xs (t+1)) (iP xs t)=false:=bJ (by omega);have J:aZ (iP xs t+2) (iP xs (t+1))=false:=bC (by omega);rcases uD xs n with d|⟨d,y,⟨a,b⟩|⟨a,b⟩⟩
    ·simp only[q,l,c,f,A,o,D,J,s,u,p,v,r,w,x,d,hB,gt,gf,gn,Mh,gB,jR]
    ·simp only[q,l,c,f,A,o,D,J,s,u,p,v,r,w,x,d,y,a,b,hB,gt,gf,gn,Mh,gB,jR]
    ·simp only[q,l,c,f,A,o,D,J,s,u,p,v,r,w,x,d,y,a,b,hB,gt,gf,gn,Mh,gB,jR]
   ·have c:ieq (wN xs (t+1)) 0=false:=bJ hx
    rcases uD xs n with d|⟨d,y,⟨a,b⟩|⟨a,b⟩⟩
    ·simp only[q,l,c,f,o,D,s,u,p,v,r,w,x,d,hB,gt,gf,gn,Mh,gB,jR]
    ·simp only[q,l,c,f,o,D,s,u,p,v,r,w,x,d,y,a,b,hB,gt,gf,gn,Mh,gB,jR]
    ·simp only[q,l,c,f,o,D,s,u,p,v,r,w,x,d,y,a,b,hB,gt,gf,gn,Mh,gB,jR]
 |j+1,i,m,g,U,Y,N=>by
  obtain⟨m,rfl⟩: ∃k,m=k+1:=⟨m-1,by omega⟩
  have S:aY .i64 (i:Int) 1=((i+1:Nat):Int):=by rw[bQ (by omega)];omega
  have I:aY .i64 t 1=t+1:=bQ (by omega);have K: ∀g':Bool,(g'=true↔(g=true∨(lT xs i= -1∧lA xs i=t+1)))→(g'=true↔ ∃k,k<i+1∧lT xs k= -1∧lA xs k=t+1):=by
   intro g' h;rw[h,N];constructor
   ·rintro(⟨k,X,C⟩|C)
    ·exact⟨k,by omega,C⟩
    ·exact⟨i,by omega,C⟩
   ·rintro⟨k,X,C⟩
    by_cases e:k=i
    ·subst e;exact .inr C
    ·exact .inl ⟨k,by omega,C⟩
  cases g with
  |true=>
   (rw[Bn];(conv=>zeta);rw[ai (bV (by rw[aM];omega)),ai (by rw[ay,ax,aU,aM];omega),S])
   exact zh F xs t n H hl hB z j (i+1) m true (by omega) (by omega) (K true (by simp))
  |false=>
   (rw[Bo];(conv=>zeta);rw[ai (bV (by rw[aM];omega)),ai (by rw[ay,ax,aU,aM];omega),S,I])
   show sel (ieq (lT xs i) (-1)) (kY F [] m xs t n H (sP xs t) (wN xs t) (Cc xs (sP xs t)) (BB xs (sP xs t)) (sV xs (sP xs t)) (ieq (lA xs i) (t+1)) xs (aQ xs) ((i+1:Nat):Int) some) (kY F [] m xs t n H (sP xs t) (wN xs t) (Cc xs (sP xs t)) (BB xs (sP xs t)) (sV xs (sP xs t)) false xs (aQ xs) ((i+1:Nat):Int) some)=_;by_cases e:lT xs i= -1
   ·rw[ai (cZ e)]
    exact zh F xs t n H hl hB z j (i+1) m _ (by omega) (by omega) (K _ (by rw[oz];simp[e]))
   ·rw[aD (bJ e)]
    exact zh F xs t n H hl hB z j (i+1) m false (by omega) (by omega) (K _ (by simp[e]))
theorem UK (xs:af) (t n:Int):ak fu 3 [.sl 30 kP none xs,.int .i64 t,.int .i64 n] (.bool true):=by
 refine aG jG UI (xs.length+2) 3 ?_
 (rw[RL];(conv=>zeta))
 by_cases s:100<xs.length
 ·rw[ai (bV (by rw[aM];omega))]
 rw[aD (bC (by rw[aM];omega))];have a:av true (aH (aQ xs) 1000000)=true:=by rw[ay,ax,aM];exact⟨rfl,by omega⟩
 by_cases l:wN xs t=0
 ·obtain⟨hB,q⟩:=Vw l
  rw[ai a,ai (cZ l),ai a];exact zh _ xs t n false (by omega) hB q xs.length 0 _ false (by omega) (by omega) ⟨fun h=>(by cases h),fun⟨k,r,_⟩=>absurd r (Sc k)⟩
 ·have e:ieq (wN xs t) 0=false:=bJ l
  cases hB:kU xs with
  |true=>
   obtain⟨c,b,i,o,j,m⟩:=GU (by omega) hB;rcases uD xs n with d|⟨d,p,⟨f,g⟩|⟨f,g⟩⟩
   ·simp only[e,a,c,b,i,o,j,m,d,hB,gt,gf,gn,Mh,gB,jR]
   ·simp only[e,a,c,b,i,o,j,m,d,p,f,g,hB,gt,gf,gn,Mh,gB,jR]
   ·simp only[e,a,c,b,i,o,j,m,d,p,f,g,hB,gt,gf,gn,Mh,gB,jR]
  |false=>
   have d:ieq (sV xs n) 0=false:=by unfold sV;rw[hB];rfl
   have c:ieq (IG xs) 0=false:=by unfold IG;rw[hB];rfl
   have b:aH (aK (qM xs)) 900000=true:=by unfold qM;rw[hB];rfl
   simp only[e,a,c,b,d,hB,gt,gf,gn,Mh,gB,jR]
end Nt.Ev.YtcmockbdkppglaaDoor.Lp
