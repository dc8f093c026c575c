/-
  Loops over a map of the program's, in whatever order: what the evaluator answers, the model does.
-/
import Derived.Test.YtknhlobahpgkeaaGreatDoorMBS
import Derived.Maps.RangeRun
import Derived.Recover
import Derived.IntWalk
import Derived.ChangeArms
import Derived.OpenShut
import Derived.FnData
set_option linter.all false
namespace Nt.Ev
open Go Go.RowKit
section
variable {E:Env} {B:Own} {G0:aU} {w0:World} {s:St} {g:Gh} {a:Act} {w:World}
def Own.less (B:Own) (r:Nat):Own:=⟨fun b=>B.m b∧b≠r,B.n,B.β,B.df⟩
theorem Inv.guard (h:Inv E B G0 w0 s g a w) {r:Nat} {m:Option Nat} {i c0:Nat} {j:Array Nat} (t:w.heap[r]? =some (.mapIter m i j c0)):Inv E (B.less r) G0 w s g a w:=by
 have C:g.G r=none:=by
  cases x:g.G r with
  |none=>rfl
  |some l=>obtain⟨c,e,f,d,_⟩:=h.gok r l x;rw[t] at d;cases d
 refine⟨h.fr,h.df,h.gok,⟨fun L v e J hL=>?_,h.own.2⟩,⟨fun k H F=>?_,h.bxs.2⟩,.refl _ _,⟨h.hB.1,fun b u=>⟨h.hB.2 b u,fun e=>?_⟩⟩,⟨fun b u=>?_,h.ext.2⟩,⟨h.glob.1.more (.refl _) h.lS.map,h.glob.2⟩,h.g1,h.zb⟩
 ·obtain⟨d,D⟩:=h.own.1 L v e J hL
  refine⟨d,D.imp id ?_⟩;rintro⟨b,n,cap,z,l,N,o,A,q⟩;exact⟨b,n,cap,z,l,N,⟨⟨o.1,fun e=>by rw[e,t] at A;cases A⟩,o.2⟩,A,q⟩
 ·obtain⟨b,c,e,I,O,y,K⟩:=h.bxs.1 k H F
  exact⟨b,c,e,I,⟨O,fun e=>by rw[e,t] at y;cases y⟩,y,K⟩
 ·have:=(Array.getElem?_eq_some_iff.1 t).1
  omega
 by_cases p:b=r
 ·subst p
  rw[C]
  cases x:G0 b with
  |none=>rfl
  |some l=>obtain⟨P,d,_⟩:=h.ext.2.1 b l x;rw[C] at d;cases d
 exact h.ext.1 b fun M=>u ⟨M,p⟩
def Lf (c:Array MapEntry) (a:Array Nat) (left:ah):Prop:=∃b:List (Int×af),left=b.map (fun p=> .agg [.int .i64 p.1,.str p.2])∧((leftOf c a).toList.map fun x=>(x.key,x.val)).Perm (b.map fun p=>(Value.int .i64 p.1,Value.string ⟨p.2.toArray⟩))
theorem LB {e:MapEntry}: ∀{l:List MapEntry},(l.map (·.born)).Nodup→e∈l→l.Perm (e::l.filter fun x=>!(x.born==e.born))
 |[],_,h=>by cases h
 |x::l,a,h=>by
  simp only[qA,abZ,acS,not_exists,not_and] at a;rcases List.mem_cons.1 h with rfl|h
  ·rw[List.filter_cons_of_neg (by simp)]
   refine .cons _ (.of_eq (List.filter_eq_self.2 fun y d=>?_).symm);have:=a.1 y d;simpa using this
  have b:x.born≠e.born:=fun c=>a.1 e h c.symm
  rw[List.filter_cons_of_pos (by simpa using b)];exact((LB a.2 h).cons x).trans (.swap _ _ _)
theorem WV {α:Type}: ∀(l:List α) (i:Nat) (h:i<l.length),(l[i]::l.eraseIdx i).Perm l
 |[],i,h=>by cases h
 |x::l,0,h=> .refl _
 |x::l,i+1,h=>(List.Perm.swap _ _ _).trans ((WV l i (Nat.lt_of_succ_lt_succ h)).cons x)
theorem Lf.step {c:Array MapEntry} {a:Array Nat} {left:ah} (h:Lf c a left) (t:(c.toList.map (·.born)).Nodup) {e:MapEntry} (o:e∈(leftOf c a).toList):
  ∃(i:Nat) (n:Int) (l:af),left[i]? =some (.agg [.int .i64 n,.str l])∧e.key=.int .i64 n∧e.val=.string ⟨l.toArray⟩∧Lf c (a.push e.born) (left.eraseIdx i):=by
 obtain⟨f,rfl,k⟩:=h;have u:=k.mem_iff.1 (List.mem_map.2 ⟨e,o,rfl⟩);obtain⟨i,m⟩:=aa5 u;rw[sW] at m;obtain⟨p,d,b⟩:=Option.map_eq_some_iff.1 m;simp only[bM] at b;refine⟨i,p.1,p.2,by rw[sW,d];rfl,b.1.symm,b.2.symm,f.eraseIdx i,(Go.ChangeMaps.map_eraseIdx ..).symm,?_⟩;have r:(leftOf c (a.push e.born)).toList=(leftOf c a).toList.filter fun x=>!(x.born==e.born):=by
  unfold leftOf;simp only[Array.toList_filter,List.filter_filter];refine List.filter_congr fun x _=>?_
  rw[contains_push,Bool.not_or,Bool.and_comm]
 have g:((leftOf c a).toList.map (·.born)).Nodup:=by unfold leftOf;rw[Array.toList_filter];exact t.sublist ((ab3).map _)
 rw[r];have q:=((LB g o).map fun x=>(x.key,x.val)).symm.trans k;have j:i<f.length:=(List.getElem?_eq_some_iff.1 d).1;have s:(f.map fun p=>(Value.int .i64 p.1,Value.string ⟨p.2.toArray⟩)).Perm ((e.key,e.val)::((f.eraseIdx i).map fun p=>(Value.int .i64 p.1,Value.string ⟨p.2.toArray⟩))):=by
  have:=(WV f i j).symm.map fun p=>(Value.int .i64 p.1,Value.string ⟨p.2.toArray⟩)
  rw[qA] at this;have v:f[i]=p:=(List.getElem?_eq_some_iff.1 d).2;rw[v,b.1,b.2] at this;exact this
 rw[qA] at q;exact List.Perm.cons_inv (q.trans s)
end
section
variable {E:Env}
theorem argV_eq {x y:V} (h:YI x=some y):y=x:=by
 cases x with
 |fn f c=>cases c<;>(simp[YI,V.deep] at h;exact h.symm)
 |bxa off a=>simp only[YI,aR] at h;exact h.symm
 |sl e sh o xs=>simp only[YI,aR] at h;exact h.symm
 |old z=>have h:(bif z.fG then some (V.old z) else none)=some y:=h;obtain⟨_,h⟩:=aP h;simp only[aR] at h;exact h.symm
 |_=>simp[YI,V.deep] at h<;>exact h.symm
theorem Br: ∀{xs ys:ah},x9 xs=some ys→ys=xs
 |[],ys,h=>by simp only[x9,aR] at h;exact h.symm
 |x::xs,ys,h=>by
  unfold x9 at h;split at h
  ·rename_i a b c d
   simp only[aR] at h;rw[←h,argV_eq c,Br d]
  cases h
theorem OV (args:ah):handed (qF args)=handed args:=by
 unfold qF
 cases h:handed args with
 |false=>rfl
 |true=>
  rw[lm];unfold handed at h⊢;rw[Mt] at h⊢;obtain⟨x,b,a⟩:=h
  cases x with
  |bxa off c=>exact⟨_,List.mem_map.2 ⟨_,b,rfl⟩,rfl⟩
  |sl e sh o xs=>cases o with
   |none=>cases a
   |some L=>exact⟨_,List.mem_map.2 ⟨_,b,rfl⟩,rfl⟩
  |_=>cases a
theorem Jd (s:St): ∀(args:ah) (j:Nat),(∀x∈args,x.AO=false)→om s j args=some []∧jX j args=[]
 |[],j,_=>⟨rfl,rfl⟩
 |x::args,j,h=>by
  have a:=Jd s args (j+1) fun y b=>h y (wN _ b)
  have c:=h x uY
  cases x<;>first|exact a|cases c
theorem LC (s:St) (f:V→V) (h: ∀x,(f x).AO=x.AO): ∀(args:ah) (j:Nat),om s j (args.map f)=om s j args∧jX j (args.map f)=jX j args
 |[],j=>⟨rfl,rfl⟩
 |x::args,j=>by
  have e:=LC s f h args (j+1);have c:=h x;rw[qA];have b: ∀y:V,y.AO=false→om s j (y::args)=om s (j+1) args∧jX j (y::args)=jX (j+1) args:=fun y g=>by cases y<;>first|exact⟨rfl,rfl⟩|cases g
  have a: ∀y:V,y.AO=false→om s j (y::args.map f)=om s (j+1) (args.map f)∧jX j (y::args.map f)=jX (j+1) (args.map f):=fun y g=>by cases y<;>first|exact⟨rfl,rfl⟩|cases g
  cases d:x.AO with
  |false=>rw[d] at c;rw[(b x d).1,(b x d).2,(a _ c).1,(a _ c).2];exact e
  |true=>
   rw[d] at c;generalize f x=y at c
   cases x<;>first|cases d|skip
   cases y<;>first|cases c|skip
   simp only[om,jX,e.1,e.2];exact⟨trivial,trivial⟩
theorem LD (s:St) (args:ah):om s 0 (qF args)=om s 0 args∧jX 0 (qF args)=jX 0 args:=by
 unfold qF
 cases h:handed args with
 |false=>
  have a:=Jd s args 0 fun x b=>by
   unfold handed at h;rw[abw] at h;have:=h x b
   cases x<;>first|rfl|(exfalso;exact this rfl)
  rw[jW,a.1,a.2];exact⟨rfl,rfl⟩
 |true=>rw[lm];exact LC s _ (fun x=>by cases x<;>first|rfl|(rename_i o _;cases o<;>rfl)) args 0
theorem outOf_sh {α:Type} (p:Bool) (x:V) (s:St) (args:ah) (K:V→Option α):qE p x s (qF args) K=qE p x s args K:=by unfold qE;rw[(LD s args).1,(LD s args).2]
theorem FI {α:Type} (P:Program) (fn:Func) (args:ah) (K:V→Option α):Gr P fn (qF args) K=Gr P fn args K:=by
 funext e s
 cases e<;>simp only[Gr,OV,outOf_sh]
theorem Qr: ∀(bs:List (ah)) (j:Nat) (p:Nat×Nat),p∈YK j bs→ ∃i,p.2=fO true p.1 i
 |[],j,p,h=>by cases h
 |cs::bs,j,p,h=>by
  unfold YK at h;rcases List.mem_append.1 h with h|h
  ·obtain⟨i,a⟩:=iX _ _ _ h
   exact⟨_,a⟩
  exact Qr bs (j+1) p h
theorem cls_lt' {L i:Nat} (h:fO true L i<HL):L<HL:=by
 unfold fO at h;rw[JH] at h
 cases a:Nat.ble HL L with
 |true=>rw[a,lm] at h;omega
 |false=>
  refine abt fun e=>?_
  rw[acf e] at a
  cases a
theorem NI: ∀(args:ah) (j:Nat) {a b:Nat},(a,b)∈jX j args→a=b∧HL≤a
 |[],j,a,b,h=>by cases h
 |x::args,j,a,b,h=>by
  have c:(a,b)∈jX (j+1) args→a=b∧HL≤a:=NI args (j+1)
  cases x with
  |bxa off d=>
   unfold jX at h;rcases List.mem_cons.1 h with h|h
   ·simp only[bM] at h
    obtain⟨rfl,rfl⟩:=h;exact⟨rfl,by omega⟩
   exact c h
  |_=>exact c h
theorem oN {s:St} (f:ah→ah): ∀(args:ah) (j:Nat) (bs:List (ah)),om s j args=some bs→ ∀k c,aJ (fJ j args (bs.map f)) k=some c→ ∃a,aJ s.bx k=some a∧c=f a
 |[],j,bs,h,k,c,b=>by cases b
 |x::args,j,bs,h,k,c,b=>by
  have d:om s (j+1) args=some bs→aJ (fJ (j+1) args (bs.map f)) k=some c→ ∃a,aJ s.bx k=some a∧c=f a:=fun i e=>oN f args (j+1) bs i k c e
  cases x with
  |bxa off c0=>
   unfold om at h;split at h
   ·rename_i m l i e
    simp only[aR] at h;subst h;rw[qA] at b;unfold fJ aJ at b
    cases g:HL+j==k with
    |true=>
     rw[g,lm] at b;simp only[aR] at b;obtain rfl:HL+j=k:=by simpa using g
     exact⟨m,i,b.symm⟩
    |false=>rw[g,jW] at b;exact oN f args (j+1) l e k c b
   cases h
  |_=>exact d h b
theorem mO: ∀(args:ah) (j:Nat) (bs:List (ah)) {k:Nat} {d:ah},aJ (fJ j args bs) k=some d→ ∃b,(k,b)∈jX j args
 |[],j,bs,k,d,h=>by cases h
 |x::args,j,bs,k,d,h=>by
  have c:aJ (fJ (j+1) args bs) k=some d→ ∃b,(k,b)∈jX (j+1) args:=fun h=>mO args (j+1) bs h
  cases x with
  |bxa off c0=>
   cases bs with
   |nil=>obtain⟨b,a⟩:=mO args (j+1) [] h;exact⟨b,wN _ a⟩
   |cons f bs=>
    unfold fJ aJ at h
    cases e:HL+j==k with
    |true=>
     obtain rfl:HL+j=k:=by simpa using e
     exact⟨_,uY⟩
    |false=>rw[e,jW] at h;obtain⟨b,a⟩:=mO args (j+1) bs h;exact⟨b,wN _ a⟩
  |_=>exact c h
theorem FJ {α:Type} {p:Bool} {x:V} {s:St} {args:ah} {K:V→Option α} {r:α} (h:qE p x s args K=some r):
  ∃x' bs,K (.out p x' bs)=some r∧(∀t y,x=.iface t y→x'=.iface t y)∧(x=.tup []→x'=.tup [])∧ ∀{B B2:Own} {G0:aU} {w0:World} {g:Gh} {a:Act} {w:World} {v:Value},B2.m=B.m→B2.n=B.n→B2.df=[]→(∀a b,(a,b)∈jX 0 args→B2.β a=B.β a)→Inv E B G0 w0 s g a w→aT g x v→ ∃g',Inv E B2 G0 w0 ⟨[x'],fJ 0 args bs⟩ g' ⟨#[v],[]⟩ w:=by
 unfold qE at h;split at h
 ·rename_i bs F
  simp only at h;obtain⟨hn,h⟩:=aP h;rw[um] at hn;have hf:=qP (qB (fun L i=>fO true L i) 0 (CJ x)++YK 0 bs) [];generalize hml:o9 [] (qB (fun L i=>fO true L i) 0 (CJ x)++YK 0 bs)=ml at h hn hf;have Z: ∀p∈ml,∃i,p.2=fO true p.1 i:=fun p hp=>by
   rcases List.mem_append.1 (hf.2 p hp).1 with h|h
   ·obtain⟨i,f⟩:=iX _ _ _ h
    exact⟨_,f⟩
   exact Qr bs 0 p h
  refine⟨_,_,h,fun t y e=>(by subst e;rfl),fun e=>(by subst e;rfl),fun {B B2 G0 w0 g a w v} D N hd2 hβ2 f hv=>?_⟩;let O2:Nat→Option (Value×Nat×Nat):=fun n=>match lk (fC ml) n with|some L=>g.O L|none=>none
  have hO: ∀L n,lk ml L=some n→O2 n=g.O L:=fun L n S=>by show(match lk (fC ml) n with|some L=>g.O L|none=>none)=_;rw[jZ hn (kG S)]
  have d: ∀n x,O2 n=some x→ ∃L,(L,n)∈ml∧g.O L=some x:=fun n x z=>by
   have z:(match lk (fC ml) n with|some L=>g.O L|none=>none)=some x:=z;split at z
   ·rename_i L hL;exact⟨L,pJ.1 (kG hL),z⟩
   cases z
  let β2:Nat→Option Nat:=fun k=>if HL≤k then B2.β k else g.β k
  have hβk: ∀a b,(a,b)∈jX 0 args→β2 a=g.β a:=fun a b X=>by have o:=(NI args 0 X).2;show(if HL≤a then B2.β a else g.β a)=_;rw[if_pos o,hβ2 a b X,f.ext.2.2 a o]
  let C2:Nat→Option (List Value):=fun n=>match lk (fC ml) n with|some L=>g.C L|none=>none
  have hC: ∀L n,lk ml L=some n→C2 n=g.C L:=fun L n S=>by show(match lk (fC ml) n with|some L=>g.C L|none=>none)=_;rw[jZ hn (kG S)]
  have hCm: ∀L n,(L,n)∈ml→C2 n=g.C L:=fun L n S=>by show(match lk (fC ml) n with|some L=>g.C L|none=>none)=_;rw[jZ hn S]
  let g2:Gh:=⟨g.G,O2,β2,g.G1,C2⟩
  have I: ∀(y:V) (u:Value),aT g y u→aT g2 (y.ren (jX 0 args) ml) u:=fun y u hy=>H9 (g:=g) (g':=g2) rfl hO hC (fun k n q=>by have o:=kG q;rw[←(NI args 0 o).1];exact hβk k n o) hy
  have W: ∀L b,B2.ok L b↔B.ok L b:=fun L b=>by unfold Own.ok;rw[D,N]
  refine⟨g2,PW.cons (I x v hv) .nil,hd2.symm,f.gok,⟨fun n v' e R M=>?_,fun n n' v1 v2 e e' R sz' b o h2 hb1 hb2=>?_⟩,⟨fun k j q=>?_,fun k k' j cs' q P H=>?_⟩,by rw[D];exact f.lS,by rw[D,N];exact f.hB,⟨fun b H=>f.ext.1 b (by rw[←D];exact H),f.ext.2.1,fun k q=>if_pos q⟩,by rw[N];exact f.glob,f.g1,fun k j n v' e R b q M H hβ=>?_⟩
  ·obtain⟨L,hL,z⟩:=d n _ M
   obtain⟨q1,q2⟩:=f.own.1 L v' e R z;refine⟨q1,q2.imp id ?_⟩;rintro⟨b,m,cap,cur,l,hv',T,hh,hnc,hcm,hcs,J,hln⟩;refine⟨b,m,cap,cur,l,hv',(W n b).2 ⟨T.1,fun U=>T.2 ?_⟩,hh,hnc,hcm,hcs,by unfold ny at J⊢;rw[show g2.C n=g.C L from hCm L n hL];exact J,hln⟩;obtain⟨i,Q⟩:=Z _ hL;simp only at Q;rw[Q] at U;exact cls_lt' U
  ·obtain⟨L,hL,z⟩:=d n _ o
   obtain⟨L',hL',hx'⟩:=d n' _ h2;have:=f.own.2 L L' v1 v2 e e' R sz' b z hx' hb1 hb2;subst this;exact Bp hf.1 hL hL'
  ·obtain⟨cs0,o,rfl⟩:=oN (s:=s) (fun j=>j.map (V.ren (jX 0 args) ml)) args 0 bs F k j q
   obtain⟨b,c,e,q1,q2,q3,q4,q5,q6,q7⟩:=f.bxs.1 k cs0 o;obtain⟨Y,A⟩:=mO args 0 _ q;exact⟨b,c,e,(hβk k Y A).trans q1,by rw[D];exact q2,q3,dW q4 fun y _ u=>I y u,q5,q6,kT (Hw _ _) q7⟩
  ·obtain⟨Y,A⟩:=mO args 0 _ q
   obtain⟨k1,hk1⟩:=mO args 0 _ P;have H:β2 k=β2 k':=H;rw[hβk k Y A,hβk k' k1 hk1] at H;obtain⟨c1,o,_⟩:=oN (s:=s) (fun j=>j.map (V.ren (jX 0 args) ml)) args 0 bs F k j q;obtain⟨c2,h2,_⟩:=oN (s:=s) (fun j=>j.map (V.ren (jX 0 args) ml)) args 0 bs F k' cs' P;exact f.bxs.2 k k' c1 c2 o h2 H
  obtain⟨L,hL,z⟩:=d n _ M;obtain⟨Y,A⟩:=mO args 0 _ q;obtain⟨c1,o,_⟩:=oN (s:=s) (fun j=>j.map (V.ren (jX 0 args) ml)) args 0 bs F k j q;have hβ:β2 k=some b:=hβ;rw[hβk k Y A] at hβ;exact f.zb k c1 L v' e R b o z H hβ
 cases h
theorem EE {G:aU} {x:V} {u:Value} (h:nI x=some u):aV G x u:=by
 cases x with
 |bool b=>simp only[nI,aR] at h;unfold aV;exact h.symm
 |int k n=>simp only[nI,aR] at h;unfold aV;exact h.symm
 |_=>cases h
theorem EF {G:aU}: ∀{xs:ah} {us:List Value},nJ xs=some us→PW (aV G) xs us
 |[],us,h=>by simp only[nJ,aR] at h;subst h;exact .nil
 |x::xs,us,h=>by
  unfold nJ at h;split at h
  ·rename_i a b c d
   simp only[aR] at h;subst h;exact .cons (EE c) (EF d)
  cases h
theorem zQ {g:Gh} {x:V} {u:Value} (h:dh x=some u):aT g x u∧ ∃t y,x=.iface t y:=by
 unfold dh at h;split at h
 ·rename_i t c
  split at h
  ·rename_i l a
   simp only[aR] at h;subst h;exact⟨jQ.2 ⟨_,rfl,by unfold aV;exact⟨l,rfl,(fH _ _).2 (EF a)⟩⟩,_,_,rfl⟩
  cases h
 ·rename_i t y _
  split at h
  ·rename_i z b
   simp only[aR] at h;subst h;exact⟨jQ.2 ⟨_,rfl,EE b⟩,_,_,rfl⟩
  cases h
 cases h
theorem Zz {g:Gh} {vs:ah} {us:List Value} (h:PW (fun x v=>bP g x v∧nZ x=true) vs us):aT g (Wl vs) (AP us):=by
 have a: ∀(vs:ah) (us:List Value),PW (fun x v=>bP g x v∧nZ x=true) vs us→aT g (.tup vs) (.tuple us.toArray):=fun vs us h=>⟨us,rfl,h.mono fun _ _ _ h=>h.1⟩
 match vs,us,h with
 |[],us,h=>rw[h.di];exact a [] [] .nil
 |[x],us,h=>
  obtain⟨u,t,rfl,⟨f,d⟩,e⟩:=h.cons_inv;rw[e.di];have b:x.single=true:=by cases x<;>first|rfl|cases d
  exact bG b f
 |x::y::vs,us,h=>
  have c:=h.1;match us,c with
  |u::v::us,_=>exact a _ _ h
theorem mP {B:Own} {g:Gh} {w:World} {fr:ah} {bx:List (Nat×ah)} {vs:List Value} {fn:Func} {G0:aU} {f:World} (a:Inv E B G0 f ⟨fr,bx⟩ g ⟨vs.toArray,[]⟩ w):
  Inv E B G0 f ⟨A7 fn fr,bx⟩ g {tmps:=vs.toArray++Array.replicate (fn.ntmps-vs.toArray.size) undef,defers:=[]} w:=by
 have b:PW (aT g) fr vs:=by simpa using a.fr
 refine⟨?_,a.df,a.gok,a.own,a.bxs,a.lS,a.hB,a.ext,a.glob,a.g1,a.zb⟩;show PW (aT g) (fr++List.replicate (fn.ntmps-fr.length) (.tup [])) (vs.toArray++Array.replicate (fn.ntmps-vs.toArray.size) undef).toList;have h:(vs.toArray++Array.replicate (fn.ntmps-vs.toArray.size) undef).toList=vs++List.replicate (fn.ntmps-fr.length) undef:=by rw[b.1];simp
 rw[h];refine b.append ⟨by simp,fun i x v c d=>?_⟩;rw[List.getElem?_replicate] at c d;split at c
 ·rename_i e
  rw[if_pos e] at d;simp only[aR] at c d;subst c;subst d;exact⟨[],rfl,.nil⟩
 cases c
def WW (rec:V) (u:FrameMode):Prop:=(rec=.nilif∧u=.returning)∨ ∃q,dh rec=some q∧u=.panicking [{v:=q,recovered:=false}]
def DC (E:Env) (f:Nat) (args:ah) (rec:V) (Φ:V→List (ah)→Prop):Prop:=
 ∀(B:Own) (g:Gh) (w:World) (vs:List Value),B.df=[]→Inv E B g.G w ⟨bR 0 args,dI 0 args⟩ g ⟨vs.toArray,[]⟩ w→ ∀u,WW rec u→
  CallsD E.P f vs.toArray u w fun e b w'=>∃x bs g' v,Φ x bs∧(∃a,e=.returned a)∧settle b=.returning∧Inv E B g.G w ⟨[x],fJ 0 args bs⟩ g' ⟨#[v],[]⟩ w'
theorem ZA (hE:uL E) {α:Type} {call:Caller α} (hc:lW E call) {fuel f:Nat} {args:ah} {rec:V} {K:V→Option α} {r:α} (h:P6 false E call fuel f args rec K=some r):jY E.P f=true∧ ∃x bs,K (.out false x bs)=some r∧DC E f args rec (fun D bs'=>D=x∧bs'=bs):=by
 unfold P6 at h;split at h
 ·cases h
 rename_i fn O;split at h
 ·rename_i c k
  split at h
  ·rename_i id ops b
   split at h
   ·rename_i o F
    split at h
    ·rename_i cl d hop hg hd L
     split at h
     ·rename_i p n
      obtain⟨e,s',Y,hl⟩:=jv hE hc _ rfl fuel b _ _ r h;have S:qE false (.tup []) s' args K=some r∧(e=.norm∨e=.ret):=by
       cases e with
       |norm=>exact⟨Y,.inl rfl⟩
       |ret=>exact⟨Y,.inr rfl⟩
       |exit id=>cases Y
       |qi v=>cases Y
      obtain⟨ho,Z⟩:=S;obtain⟨D,bs,hK,_,htup,T⟩:=FJ (E:=E) ho;refine⟨by unfold jY;rw[O];simp only[k];rfl,D,bs,hK,fun B g w vs W hi u hu=>?_⟩;refine callsD_of_wpS O k fun c₀ t hc₀=>?_
      have C:ops= #[o]:=by rw[←Px];simpa using F
      subst C;refine wpS_seq (wpS_region ?_);have s: ∀ρ,(execOp ρ o).run E.P w=.ok .recover w:=by intro ρ;obtain⟨callee,cargs,cts⟩:=cl;simp only at p n;subst p;simp only[execOp,hop,resolve];simp[invoke,builtin]
      have z:List.range (#[o]:Array Oper).size=[0]:=rfl;rw[z];unfold wpOpsS;simp only[acg,O8];have hw: ∀y,Region.wanted o y=true:=fun y=>by unfold Region.wanted;rw[hg]
      rw[if_pos (hw _),s];simp only[hd];have m:=mP (fn:=fn) hi;have U: ∀(v:Value) (A:FrameMode),settle A=.returning→aT g rec v→
        Code.wpS E.P b (bodyPostS E.P fn c₀ t fun e A w'=>∃Q i g' v,(Q=D∧i=bs)∧(∃v',e=.returned v')∧settle A=.returning∧Inv E B g.G w ⟨[Q],fJ 0 args i⟩ g' ⟨#[v],[]⟩ w')
         (Act.put {tmps:=vs.toArray++Array.replicate (fn.ntmps-vs.toArray.size) undef,defers:=[]} (some d) v) ({c₀ with mode:=A}::t) w:=by
       intro v A X hv;refine wpS_of_wp (hl B g.G w g _ w (m.put (some d) hv) _ fun g' I w' H=>?_);have J:(results fn I.tmps).run E.P w'=.ok (.tuple #[]) w':=by have:=nQ (fn:=fn) (a:=I) (w:=w') (E:=E) (us:=[]) (by rw[L];rfl);simpa[AP] using this
       have R:I.defers=[]:=H.df.trans W;have N: ∃g2,Inv E B g.G w ⟨[D],fJ 0 args bs⟩ g2 ⟨#[.tuple #[]],[]⟩ w':=by exact T rfl rfl W (fun _ _ _=>rfl) H (v:=.tuple #[]) ⟨[],rfl,.nil⟩
       obtain⟨g2,h2⟩:=N;have l:I.defers=[]∧ ∃M,({c₀ with mode:=A}::t:List Frame)={c₀ with mode:=M}::t∧ ∃v,(results fn I.tmps).run E.P w'=.ok v w'∧ ∃Q i g' v_1,(Q=D∧i=bs)∧(∃v',Ending.returned v=.returned v')∧settle M=.returning∧Inv E B g.G w ⟨[Q],fJ 0 args i⟩ g' ⟨#[v_1],[]⟩ w':=
        ⟨R,A,rfl,_,J,_,_,g2,_,⟨rfl,rfl⟩,⟨_,rfl⟩,X,h2⟩
       rcases Z with rfl|rfl
       ·exact l
       exact l
      rcases hu with⟨rfl,rfl⟩|⟨q,hq,rfl⟩
      ·have j:recoverD (c₀::t)=none:=by simp only[recoverD,hc₀]
       rw[j];have:=U .nilIface .returning rfl (mQ.2 rfl);have e1:({c₀ with mode:=.returning}:Frame)=c₀:=by rw[←hc₀]
       rw[e1] at this;exact this
      have j:recoverD (c₀::t)=some (q,{c₀ with mode:=.panicking [{v:=q,recovered:=true}]}::t):=by simp only[recoverD,hc₀]
      rw[j];exact U q _ rfl (zQ hq).1
     cases h
    cases h
   cases h
  cases h
 cases h
theorem clo_cps (hE:uL E) {α:Type} {call:Caller α} (hc:lW E call) {fuel f:Nat} {args:ah} {rec:V} {K:V→Option α} {r:α} {o:Bool} (h:P6 o E call fuel f args rec K=some r):jY E.P f=true∧DC E f args rec (fun x bs=>K (.out false x bs)=some r):=by
 unfold P6 at h;split at h
 ·cases h
 rename_i fn N;split at h
 ·rename_i c j
  split at h
  ·rename_i id ops b
   split at h
   ·rename_i op D
    split at h
    ·rename_i cl d Z hg hd J
     split at h
     ·rename_i p m
      refine⟨by unfold jY;rw[N];simp only[j];rfl,fun B g w vs T hi u hu=>?_⟩;refine callsD_of_wpS N j fun c₀ t hc₀=>?_
      have C:ops= #[op]:=by rw[←Px];simpa using D
      subst C;refine wpS_seq (wpS_region ?_);have s: ∀ρ,(execOp ρ op).run E.P w=.ok .recover w:=by intro ρ;obtain⟨callee,cargs,cts⟩:=cl;simp only at p m;subst p;simp only[execOp,Z,resolve];simp[invoke,builtin]
      have z:List.range (#[op]:Array Oper).size=[0]:=rfl;rw[z];unfold wpOpsS;simp only[acg,O8];have hw: ∀y,Region.wanted op y=true:=fun y=>by unfold Region.wanted;rw[hg]
      rw[if_pos (hw _),s];simp only[hd];have l:=mP (fn:=fn) hi;have S: ∀(v:Value) (A:FrameMode),settle A=.returning→aT g rec v→
        Code.wpS E.P b (bodyPostS E.P fn c₀ t fun e A w'=>∃n bs g' v,K (.out false n bs)=some r∧(∃Y,e=.returned Y)∧settle A=.returning∧Inv E B g.G w ⟨[n],fJ 0 args bs⟩ g' ⟨#[v],[]⟩ w')
         (Act.put {tmps:=vs.toArray++Array.replicate (fn.ntmps-vs.toArray.size) undef,defers:=[]} (some d) v) ({c₀ with mode:=A}::t) w:=by
       intro v A U hv;refine wpS_of_wp (pz hE hc _ fuel b _ _ r h g _ w (l.put (some d) hv) _ fun e s' g' H w' W F=>?_);have Q:qE false (.tup []) s' args K=some r∧(e=.norm∨e=.ret):=by
        cases e with
        |norm=>exact⟨W,.inl rfl⟩
        |ret=>exact⟨W,.inr rfl⟩
        |exit id=>cases W
        |qi v=>cases W
       obtain⟨ho,X⟩:=Q;obtain⟨n,bs,hK,_,htup,R⟩:=FJ (E:=E) ho;have I:(results fn H.tmps).run E.P w'=.ok (.tuple #[]) w':=by have:=nQ (fn:=fn) (a:=H) (w:=w') (E:=E) (us:=[]) (by rw[J];rfl);simpa[AP] using this
       have O:H.defers=[]:=F.df.trans T;have M: ∃g2,Inv E B g.G w ⟨[n],fJ 0 args bs⟩ g2 ⟨#[.tuple #[]],[]⟩ w':=by exact R rfl rfl T (fun _ _ _=>rfl) F (v:=.tuple #[]) ⟨[],rfl,.nil⟩
       obtain⟨g2,h2⟩:=M;have k:H.defers=[]∧ ∃L,({c₀ with mode:=A}::t:List Frame)={c₀ with mode:=L}::t∧ ∃v,(results fn H.tmps).run E.P w'=.ok v w'∧ ∃n bs g' v_1,K (.out false n bs)=some r∧(∃Y,Ending.returned v=.returned Y)∧settle L=.returning∧Inv E B g.G w ⟨[n],fJ 0 args bs⟩ g' ⟨#[v_1],[]⟩ w':=
        ⟨O,A,rfl,_,I,n,bs,g2,_,hK,⟨_,rfl⟩,U,h2⟩
       rcases X with rfl|rfl
       ·exact k
       exact k
      rcases hu with⟨rfl,rfl⟩|⟨q,hq,rfl⟩
      ·have i:recoverD (c₀::t)=none:=by simp only[recoverD,hc₀]
       rw[i];have:=S .nilIface .returning rfl (mQ.2 rfl);have e1:({c₀ with mode:=.returning}:Frame)=c₀:=by rw[←hc₀]
       rw[e1] at this;exact this
      have i:recoverD (c₀::t)=some (q,{c₀ with mode:=.panicking [{v:=q,recovered:=true}]}::t):=by simp only[recoverD,hc₀]
      rw[i];exact S q _ rfl (zQ hq).1
     cases h
    cases h
   cases h
  cases h
 cases h
def FOk (E:Env) (f:Nat) (args:ah) (v:V):Prop:=(rW v=false∧aj E f (args.map V.xS) v)∨(∃p x bs,v=.out p x bs∧XC E f args p x bs)∨ ∃p x,v=.keep p x∧KC E f args p x
theorem Kb {x:V} (h:x.fG=true):x.plain=true:=by
 cases x with
 |sl e sh o xs=>cases o<;>first|rfl|cases h
 |agg a=>rfl
 |rptr sh y off=>rfl
 |iface t y=>rfl
 |_=>cases h
theorem EG {G:aU} {g:Gh} (m:g.G=G) (q:g.G1=G): ∀{args:ah} {us:List Value},x9 args=some args→handed args=false→PW (aV G) (args.map V.xS) us→PW (aT g) args us
 |[],us,_,_,n=>by rw[n.di];exact .nil
 |x::l,us,j,i,n=>by
  obtain⟨v,t,rfl,d,w⟩:=n.cons_inv;unfold handed at i;rw[abM,EY] at i;unfold x9 at j;split at j
  ·rename_i a b h p
   simp only[aR,Pf] at j;obtain⟨rfl,rfl⟩:=j;refine .cons ?_ (EG m q p i.2 w);have k: ∀{y:V},y.deep=some y→aV G y v→aT g y v:=fun u z=>bZ (jP u) (by rw[m];exact z)
   cases a with
   |bxa off r=>cases i.1
   |sl e sh o xs=>cases o with
    |none=>exact k rfl d
    |some L=>cases i.1
   |old y=>have h:(bif y.fG then some (V.old y) else none)=some (.old y):=h;obtain⟨s,_⟩:=aP h;have d:aV G (bif y.fG then y else .any) v:=d;rw[s,lm] at d;exact⟨by rw[q];exact d,by rw[m];exact d,Kb s⟩
   |fn f c=>cases c with
    |nil=>exact k rfl d
    |cons c r=>have d:aV G (.fn f (c::r)) v:=d;unfold aV at d;exact absurd d.2 (by simp)
   |_=>exact k h d
  cases j
theorem jJ {f:Nat} {args:ah} {r:V} (y:x9 args=some args) (s:handed args=false)
  (h: ∀(B:Own) (g:Gh) (w:World) (us:List Value),B.df=[]→Inv E B g.G w ⟨args,[]⟩ g ⟨us.toArray,[]⟩ w→Calls E.P f us.toArray w fun e w'=>∃v g',e=.returned v∧Inv E B g.G w ⟨[],[]⟩ g' ⟨#[],[]⟩ w'∧fP g'.G w' B.m r v):aj E f (args.map V.xS) r:=by
 intro G w us o a i;have i:=EG (g:=⟨G,fun _=>none,fun _=>none,G,fun _=>none⟩) rfl rfl y s i;have x:Inv E ⟨(w.heap.size≤ ·),w.heap.size,fun _=>none,[]⟩ G w ⟨args,[]⟩ ⟨G,fun _=>none,fun _=>none,G,fun _=>none⟩ ⟨us.toArray,[]⟩ w:=by refine⟨?_,rfl,o,⟨fun L v e n h=>(by cases h),fun L L' v z e A n u b h=>(by cases h)⟩,⟨fun k j h=>(by cases h),fun k C j q h=>(by cases h)⟩,.refl _ _,⟨lg _,fun b d=>d⟩,⟨fun _ _=>rfl,.refl _,fun _ _=>rfl⟩,⟨a,fun b l d=>fw o d⟩,.refl _,fun k j L v e n b p=>(by cases p)⟩;show PW _ args us.toArray.toList;rw[acu];exact i
 refine Calls.mono (h _ ⟨G,fun _=>none,fun _=>none,G,fun _=>none⟩ w us rfl x) ?_;rintro e w' ⟨v,g',rfl,c,t⟩;exact⟨v,g'.G,rfl,⟨c.lS.below,fun b d=>c.ext.1 b (Nat.not_le.2 d),c.gok⟩,t⟩
theorem Inv.drop {B B2:Own} {G0:aU} {i:World} {s:St} {g:Gh} {a:Act} {w:World} (h:Inv E B G0 i s g a w) (d:B2.m=B.m) (j:B2.n=B.n): ∃g',g'.G=g.G∧Inv E B2 G0 i ⟨[],[]⟩ g' ⟨#[],B2.df⟩ w:=by refine⟨⟨g.G,fun _=>none,B2.β,g.G1,fun _=>none⟩,rfl,⟨.nil,rfl,h.gok,⟨fun L v e f hL=>(by cases hL),fun L L' v r e t f p b hL=>(by cases hL)⟩,⟨fun k l c=>(by cases c),fun k u l o c=>(by cases c)⟩,by rw[d];exact h.lS,by rw[d,j];exact h.hB,⟨fun b q=>h.ext.1 b (by rw[←d];exact q),h.ext.2.1,fun _ _=>rfl⟩,by rw[j];exact h.glob,h.g1,fun k l L v e f b c=>(by cases c)⟩⟩
theorem ZB {s:St} {rs:List ResultVar} {p:Bool} {x:V} {bs:List (ah)} (h:rT E.P s rs=some [.out p x bs]):rW (.out p x bs)=false:=by
 exfalso
 cases rs with
 |nil=>cases h
 |cons r rs=>
  simp only[rT] at h;split at h
  ·cases h
  rename_i y a;split at h
  ·cases h
  simp only[aR,Pf] at h;obtain⟨rfl,_⟩:=h;have:=ED a;rcases this with h|⟨e,sh,o,xs,h⟩|⟨b,h⟩
  ·cases h
  ·cases h
  cases h
theorem U3 {s:St} {rs:List ResultVar} {p:Bool} {x:V} (h:rT E.P s rs=some [.keep p x]):rW (.keep p x)=false:=by
 exfalso
 cases rs with
 |nil=>cases h
 |cons r rs=>
  simp only[rT] at h;split at h
  ·cases h
  rename_i y a;split at h
  ·cases h
  simp only[aR,Pf] at h;obtain⟨rfl,_⟩:=h;have:=ED a;rcases this with h|⟨e,sh,o,xs,h⟩|⟨b,h⟩
  ·cases h
  ·cases h
  cases h
def Wm (E:Env) (fn:Func) (s:St) (v:V):Prop:=
 ∀{B B2:Own} {G0:aU} {c:World} {g:Gh} {a:Act} {w:World},B2.m=B.m→B2.n=B.n→Inv E B G0 c s g a w→ ∃u b,(results fn a.tmps).run E.P w=.ok u w∧Inv E B2 G0 c ⟨[],[]⟩ b ⟨#[],B2.df⟩ w∧fP b.G w B.m v u
theorem U4 {fn:Func} {s:St} {vs:ah} (h:rT E.P s fn.results.toList=some vs):Wm E fn s (P5 vs):=by intro B B2 G0 m g a w k j c;obtain⟨us,i,d⟩:=ru c _ _ h;have b:=ret_res c.own d;obtain⟨l,f,e⟩:=c.drop (B2:=B2) k j;rw[←f] at b;exact⟨_,l,nQ i,e,b⟩
theorem kd_fits {v y:V} {k:Kd} (h:TM v=some k) (a:v.deep=some y):fits k y=true:=by
 cases v with
 |bool b=>simp only[TM,aR] at h;simp only[V.deep,aR] at a;subst h;subst a;rfl
 |int k n=>simp only[TM,aR] at h;simp only[V.deep,aR] at a;subst h;subst a;simp[fits]
 |str l=>simp only[TM,aR] at h;simp only[V.deep,aR] at a;subst h;subst a;rfl
 |sl e sh o xs=>simp only[TM] at h;obtain⟨d,c⟩:=aP h;simp only[V.deep,aR] at a;simp only[aR] at c;subst c;subst a;simp[fits,d]
 |_=>simp[TM] at h
theorem Qs: ∀{vs ys:ah} {ks:List Kd},KI vs=some ks→V.xW vs=some ys→fU ks ys=true
 |[],ys,ks,h,a=>by simp only[KI,aR] at h;simp only[V.xW,aR] at a;subst h;subst a;rfl
 |v::l,ys,ks,h,a=>by
  simp only[KI] at h;simp only[V.xW] at a;split at h
  ·rename_i k g e b
   split at a
   ·rename_i y d f c
    simp only[aR] at h a;subst h;subst a;simp only[fU,kd_fits e f,Qs b c];rfl
   cases a
  cases h
theorem WX {s:St} {rs:List ResultVar} {v:V} (h:Gx s rs=some v): ∃t k cells sh b,rs=[.tmp t]∧slot s.fr t=.box k 0∧aJ s.bx k=some cells∧KI cells=some sh∧V.xW cells=some b∧v=.rptr sh (.agg b) 0:=by
 unfold Gx at h;split at h
 ·rename_i t
  split at h
  ·rename_i k off c
   obtain⟨f,a⟩:=aP h;obtain rfl:off=0:=by simpa using f
   split at a
   ·rename_i cells g
    split at a
    ·rename_i sh e
     split at a
     ·rename_i b d
      simp only[aR] at a;exact⟨t,k,cells,sh,b,rfl,c,g,e,d,a.symm⟩
     cases a
    cases a
   cases a
  cases h
 cases h
theorem frz_out {s:St} {rs:List ResultVar} {v:V} (h:Gx s rs=some v):rW v=false:=by obtain⟨_,_,_,_,_,_,_,_,_,_,rfl⟩:=WX h;rfl
theorem U5 {fn:Func} {s:St} {v:V} (h:Gx s fn.results.toList=some v):Wm E fn s v:=by
 obtain⟨t,k,cells,sh,n,C,F,N,p,J,rfl⟩:=WX h;intro B B2 G0 w0 g a w H hn o;have z:aT g (slot s.fr t) (a.tmps.getD t undef):=gD o.fr o.ku (.tmp t);rw[F] at z;obtain⟨b,M,T⟩:=dV.1 z;obtain⟨b',c,e,q,D,Z,Y,ho,S,_⟩:=o.bxs.1 k cells N;rw[M] at q;simp only[aR] at q;subst q;have y:(fn.results.toList.mapM (zq a)).run E.P w=.ok [a.tmps.getD t undef] w:=by rw[C,acW];rfl
 have f:lN g.G (upd g.G b c.toList):=by
  intro j l d;have:j≠b:=fun e=>by rw[e,S] at d;cases d
  exact⟨l,by rw[gW _ _ _ _ this];exact d,Tm _⟩
 have m:=Qs p J;have r:PW (aV (upd g.G b c.toList)) n c.toList:=(Hu cells n c.toList J Y).mono fun x _ u R=>iB f x u R
 obtain⟨U,X,i⟩:=o.drop (B2:=B2) H hn;refine⟨_,⟨upd g.G b c.toList,fun _=>none,B2.β,U.G1,fun _=>none⟩,nQ y,?_,?_⟩
 ·refine⟨.nil,rfl,?_,⟨fun L v e I hL=>(by cases hL),fun L L' v v' e e' I Q b hL=>(by cases hL)⟩,⟨fun k n p=>(by cases p),fun k k' n O p=>(by cases p)⟩,i.lS,i.hB,⟨fun j d=>?_,?_,fun _ _=>rfl⟩,i.glob,i.g1,fun k n L v e I b p=>(by cases p)⟩
  ·intro j l d
   have d:upd g.G b c.toList j=some l:=d;by_cases A:j=b
   ·subst A
    rw[upd_same] at d;obtain rfl:=Option.some.inj d;exact⟨c,e,_,Z,abJ⟩
   rw[gW _ _ _ _ A] at d;exact o.gok j l d
  ·have:j≠b:=fun A=>d (by rw[A,H];exact D)
   show upd g.G b c.toList j=_;rw[gW _ _ _ _ this];exact o.ext.1 j (by rw[←H];exact d)
  exact o.ext.2.1.trans f
 rw[show AP [a.tmps.getD t undef]=a.tmps.getD t undef from rfl,T];show aV (upd g.G b c.toList) (.rptr sh (.agg n) 0) _;unfold aV;refine⟨b,0,c.toList,rfl,upd_same _ _ _,m,.agg c,?_,?_⟩
 ·unfold aV
  exact⟨c.toList,by simp,(fH _ _).2 r⟩
 have W:=j4 _ _ m;have K:n.length=c.toList.length:=r.1;rw[Yx,W,K,abJ];simp[Value.cells]
theorem lK {α:Type} {fn:Func} {args:ah} {K:V→Option α} {r:α} {e:Ex} {i:St} (o:Gr E.P fn args K e i=some r):
  ∃v,K v=some r∧((rW v=false∧handed args=false∧(e=.norm∨e=.ret)∧Wm E fn i v)∨
   (∃x bs,v=.out false x bs∧(e=.norm∨e=.ret)∧ ∀{B B2:Own} {G0:aU} {f:World} {g:Gh} {a:Act} {w:World},B2.m=B.m→B2.n=B.n→B2.df=[]→(∀a b,(a,b)∈jX 0 args→B2.β a=B.β a)→Inv E B G0 f i g a w→ ∃u g',(results fn a.tmps).run E.P w=.ok u w∧Inv E B2 G0 f ⟨[x],fJ 0 args bs⟩ g' ⟨#[u],[]⟩ w)∨
   (∃x bs u,v=.out true x bs∧(∃y,e=.qi y∧dh y=some u)∧ ∀{B B2:Own} {G0:aU} {f:World} {g:Gh} {a:Act} {w:World},B2.m=B.m→B2.n=B.n→B2.df=[]→(∀a b,(a,b)∈jX 0 args→B2.β a=B.β a)→Inv E B G0 f i g a w→ ∃g',Inv E B2 G0 f ⟨[x],fJ 0 args bs⟩ g' ⟨#[u],[]⟩ w)):=by
 have d:(e=.norm∨e=.ret)→(match rT E.P i fn.results.toList with|some vs=>(bif handed args then qE false (Wl vs) i args K else K (P5 vs))|none=>bif handed args then none else(match Gx i fn.results.toList with|some r=>K r|none=>none))=some r→
   ∃v,K v=some r∧((rW v=false∧handed args=false∧(e=.norm∨e=.ret)∧Wm E fn i v)∨
   (∃x bs,v=.out false x bs∧(e=.norm∨e=.ret)∧ ∀{B B2:Own} {G0:aU} {f:World} {g:Gh} {a:Act} {w:World},B2.m=B.m→B2.n=B.n→B2.df=[]→(∀a b,(a,b)∈jX 0 args→B2.β a=B.β a)→Inv E B G0 f i g a w→ ∃u g',(results fn a.tmps).run E.P w=.ok u w∧Inv E B2 G0 f ⟨[x],fJ 0 args bs⟩ g' ⟨#[u],[]⟩ w)∨
   (∃x bs u,v=.out true x bs∧(∃y,e=.qi y∧dh y=some u)∧ ∀{B B2:Own} {G0:aU} {f:World} {g:Gh} {a:Act} {w:World},B2.m=B.m→B2.n=B.n→B2.df=[]→(∀a b,(a,b)∈jX 0 args→B2.β a=B.β a)→Inv E B G0 f i g a w→ ∃g',Inv E B2 G0 f ⟨[x],fJ 0 args bs⟩ g' ⟨#[u],[]⟩ w)):=by
  intro p h;split at h
  ·rename_i vs c
   cases q:handed args with
   |false=>
    rw[q,jW] at h;refine⟨_,h,.inl ⟨?_,rfl,p,U4 c⟩⟩
    cases vs with
    |nil=>rfl
    |cons v l=>cases l with
     |cons _ _=>rfl
     |nil=>
      have:nZ v=true:=by
       cases k:fn.results.toList with
       |nil=>rw[k] at c;cases c
       |cons x rs=>
        rw[k] at c;simp only[rT] at c;split at c
        ·cases c
        rename_i y J;split at c
        ·cases c
        simp only[aR,Pf] at c;rw[←c.1];exact Zy J
      show rW v=false
      cases v with
      |out _ _ _=>exact ZB c
      |keep _ _=>exact U3 c
      |_=>rfl
   |true=>rw[q,lm] at h;obtain⟨D,bs,C,_,_,j⟩:=FJ (E:=E) h;refine⟨_,C,.inr (.inl ⟨D,bs,rfl,p,fun {B B2 G0 f g a w} m1 z A G t=>?_⟩)⟩;obtain⟨us,s,F⟩:=ru t _ _ c;obtain⟨g',I⟩:=j m1 z A G t (Zz F);exact⟨_,g',nQ s,I⟩
  cases q:handed args with
  |true=>rw[q,lm] at h;cases h
  |false=>
   rw[q,jW] at h;split at h
   ·rename_i v H
    exact⟨v,h,.inl ⟨frz_out H,rfl,p,U5 H⟩⟩
   cases h
 cases e with
 |norm=>exact d (.inl rfl) o
 |ret=>exact d (.inr rfl) o
 |exit id=>cases o
 |qi y=>
  have o:(match dh y with|some _=>qE true y i args K|none=>none)=some r:=o;split at o
  ·rename_i u s
   obtain⟨D,bs,C,L,_,j⟩:=FJ (E:=E) o;refine⟨_,C,.inr (.inr ⟨D,bs,u,rfl,⟨y,rfl,s⟩,fun {B B2 G0 f g a w} m1 z A G t=>j m1 z A G t (zQ s).1⟩)⟩
  cases o
theorem Inv.redf {B:Own} {G0:aU} {b:World} {s:St} {g:Gh} {a:Act} {w:World} (h:Inv E B G0 b s g a w) (df:List Deferred):Inv E {B with df:=df} G0 b s g {a with defers:=df} w:=
 ⟨h.fr,rfl,h.gok,h.own,h.bxs,h.lS,h.hB,h.ext,h.glob,h.g1,h.zb⟩
theorem Je {c a b:Code} {f e:Oper} (h:NC c=some (a,f,e,b)): ∃id,c=.seq a (.seq (.region id #[f,e] false) b):=by
 unfold NC at h;split at h
 ·rename_i x id ops y
  split at h
  ·rename_i p q d
   split at h
   ·simp only[aR,bM] at h
    obtain⟨rfl,rfl,rfl,rfl⟩:=h;have:ops= #[p,q]:=by rw[←Px];simpa using d
    exact⟨id,by rw[this]⟩
   cases h
  cases h
 cases h
end
section
variable {E:Env}
theorem Bt {g:Gh} {β':Nat→Option Nat} {k a:Nat} (o:β' a=g.β k) (i: ∀j,j≠a→β' j=g.β j) {x:V} {v:Value} (m:tV a x=false) (h:bP g x v):bP {g with β:=β'} (rbV k a x) v:=by
 cases x with
 |box j off=>
  obtain⟨b,d,f⟩:=h;show bP _ (bif j==k then .box a off else .box j off) v
  cases n:j==k with
  |true=>
   obtain rfl:j=k:=by simpa using n
   exact⟨b,o.trans d,f⟩
  |false=>
   have c:j≠a:=fun e=>by subst e;simp[tV] at m
   exact⟨b,(i j c).trans d,f⟩
 |sl e sh l xs=>cases l<;>exact h
 |eptr _ _ _ _ _ _=>exact h
 |_=>exact h
theorem U6 {k a:Nat} {x:V} (h:x.single=true):(rbV k a x).single=true:=by
 cases x with
 |box j off=>show(bif j==k then V.box a off else .box j off).single=true;cases j==k<;>rfl
 |tup _=>cases h
 |fn _ _=>cases h
 |_=>rfl
theorem WY {g:Gh} {β':Nat→Option Nat} {k i:Nat} (e:β' i=g.β k) (d: ∀j,j≠i→β' j=g.β j) {x:V} {v:Value} (b:x.gP i=false) (h:aT g x v):aT {g with β:=β'} (x.rb k i) v:=by
 cases x with
 |tup vs=>obtain⟨a,rfl,h⟩:=h;simp only[V.gP,abw] at b;exact⟨a,rfl,dW h fun y l v m=>Bt e d (by have:=b y l;simpa using this) m⟩
 |fn f c=>obtain⟨a,rfl,h⟩:=h;simp only[V.gP,abw] at b;exact⟨a,rfl,dW h fun y l v m=>Bt e d (by have:=b y l;simpa using this) m⟩
 |box j off=>exact bG (U6 (x:=.box j off) rfl) (Bt (x:=.box j off) e d b (aZ (x:=.box j off) rfl h))
 |_=>simp only[aT,V.gP] at h b⊢;exact Bt e d b h
theorem sM {k g:Nat}: ∀(l:List (Nat×ah)),(∀p∈l,p.1≠g)→ ∀j m,aJ (rbBx k g l) j=some m→ ∃d b,aJ l d=some b∧m=b.map (V.rb k g)∧j=if d=k then g else d
 |[],_,j,m,h=>by cases h
 |(i,c)::l,o,j,m,h=>by
  have u:i≠g:=o (i,c) uY;unfold rbBx aJ at h
  cases f:(bif i==k then g else i)==j with
  |true=>
   rw[f,lm] at h;simp only[aR] at h;refine⟨i,c,by unfold aJ;rw[Pb,lm],h.symm,?_⟩;rw[iM] at f;rw[←f];by_cases a:i=k
   ·subst a;rw[Pb,lm,if_pos rfl]
   have:(i==k)=false:=by simpa using a
   rw[this,jW,if_neg a]
  |false=>
   rw[f,jW] at h;obtain⟨d,b,t,s,q⟩:=sM l (fun p r=>o p (wN _ r)) j m h;refine⟨d,b,?_,s,q⟩;unfold aJ;have n:i≠d:=by
    intro e;subst e;rw[uE] at f;apply f;rw[q];by_cases a:i=k
    ·subst a;rw[Pb,lm,if_pos rfl]
    have:(i==k)=false:=by simpa using a
    rw[this,jW,if_neg a]
   have:(i==d)=false:=by simpa using n
   rw[this,jW];exact t
theorem Inv.rb {B:Own} {G0:aU} {K:World} {s:St} {g:Gh} {a:Act} {w:World} (h:Inv E B G0 K s g a w) {k f:Nat} (y:s.mq f=true) (W:k≠f):
  Inv E {B with β:=fun j=>if j=f then g.β k else B.β j} G0 K (s.rb k f) {g with β:=fun j=>if j=f then g.β k else g.β j} a w:=by
 have J:(fun j=>if j=f then g.β k else g.β j) f=g.β k:=if_pos rfl;have H: ∀j,j≠f→(fun j=>if j=f then g.β k else g.β j) j=g.β j:=fun j o=>if_neg o
 have d: ∀p∈s.bx,p.1≠f:=fun p T e=>by unfold St.mq at y;rw[bC,l8,l8] at y;have:=y.2 p T;simp only[bC] at this;have:=fM this.1;rw[uE] at this;exact this e
 refine⟨dW h.fr fun x F v=>WY J H (H7 y x F),h.df,h.gok,h.own,⟨fun j u o=>?_,fun j N u C o A t=>?_⟩,h.lS,h.hB,⟨h.ext.1,h.ext.2.1,fun j o=>?_⟩,h.glob,h.g1,fun j u L v e U b o hL t hβ=>?_⟩
 ·obtain⟨i,m,q,rfl,rfl⟩:=sM s.bx d j u o
  obtain⟨b,c,e,I,V,O,Q,S,P,R⟩:=h.bxs.1 i m q;have n:i≠f:=d _ (jS _ _ _ q);refine⟨b,c,e,?_,V,O,dW Q fun x F v=>WY J H ((H8 y i m q).2 x F),S,P,kT (rb_nilp _ _) R⟩;show(if(if i=k then f else i)=f then g.β k else g.β (if i=k then f else i))=some b;by_cases l:i=k
  ·subst l;simp[I]
  rw[if_neg l,if_neg n];exact I
 ·obtain⟨i,m,q,_,rfl⟩:=sM s.bx d j u o
  obtain⟨r,D,M,_,rfl⟩:=sM s.bx d N C A;have n:i≠f:=d _ (jS _ _ _ q);have z:r≠f:=d _ (jS _ _ _ M);have G: ∀j,j≠f→(if(if j=k then f else j)=f then g.β k else g.β (if j=k then f else j))=g.β j:=by
   intro j o;by_cases l:j=k
   ·subst l;simp
   rw[if_neg l,if_neg o]
  have t:(if(if i=k then f else i)=f then g.β k else g.β (if i=k then f else i))=(if(if r=k then f else r)=f then g.β k else g.β (if r=k then f else r)):=t;rw[G i n,G r z] at t;rw[h.bxs.2 i r m D q M t]
 ·show(if j=f then g.β k else g.β j)=(if j=f then g.β k else B.β j)
  split
  ·rfl
  exact h.ext.2.2 j o
 obtain⟨i,m,q,_,rfl⟩:=sM s.bx d j u o;have n:i≠f:=d _ (jS _ _ _ q);have hβ:(if(if i=k then f else i)=f then g.β k else g.β (if i=k then f else i))=some b:=hβ;refine h.zb i m L v e U b q hL t ?_;by_cases l:i=k
 ·subst l;simpa using hβ
 rw[if_neg l,if_neg n] at hβ;exact hβ
theorem Qt {G0:aU} {A:World} {a:Act} {w:World}: ∀(c:ah) (j:Nat) (B:Own) (s e:St) (g:Gh) (p:List Value),Inv E B G0 A s g a w→qJ j c s=some e→PW (bP g) c p→
  ∃B' g',B'.m=B.m∧B'.n=B.n∧B'.df=B.df∧(∀k,k<HL+5000+j→B'.β k=B.β k)∧(∀i v,p[i]? =some v→ ∃b,B'.β (HL+5000+j+i)=some b∧v=.pointer (some ⟨b,0,none⟩))∧Inv E B' G0 A e g' a w
 |[],j,B,s,e,g,p,h,d,f=>by simp only[qJ,aR] at d;subst d;rw[f.di];exact⟨B,g,rfl,rfl,rfl,fun _ _=>rfl,fun i v o=>by simp at o,h⟩
 |x::c,j,B,s,e,g,p,h,d,f=>by
  cases x with
  |box k off=>
   cases off with
   |succ n=>cases d
   |zero=>
   unfold qJ at d;obtain⟨l,d⟩:=aP d;rw[bC] at l;have H:=kz l.2;obtain⟨v,t,rfl,⟨b,r,o⟩,J⟩:=f.cons_inv;have L:k≠HL+5000+j:=by omega
   have y:=h.rb l.1 L;have z:PW (bP {g with β:=fun i=>if i=HL+5000+j then g.β k else g.β i}) c t:=by
    refine caps_pw (s:=s.rb k (HL+5000+j)) c (j+1) d J fun i O=>?_
    show(if i=HL+5000+j then g.β k else g.β i)=g.β i;rw[if_neg (by omega)]
   obtain⟨B',g',m1,F,I,C,N,D⟩:=Qt c (j+1) _ _ e _ t y d z;refine⟨B',g',m1,F,I,fun i O=>?_,fun i u q=>?_,D⟩
   ·rw[C i (by omega)]
    show(if i=HL+5000+j then g.β k else B.β i)=B.β i;rw[if_neg (by omega)]
   cases i with
   |zero=>simp only[O8,aR] at q;subst q;refine⟨b,?_,o⟩;rw[VU,C (HL+5000+j) (by omega)];show(if HL+5000+j=HL+5000+j then g.β k else _)=some b;rw[if_pos rfl];exact r
   |succ i=>simp only[abB] at q;obtain⟨K,M,Q⟩:=N i u q;exact⟨K,by rw[←M];congr 1;omega,Q⟩
  |_=>cases d
where
 caps_pw {g:Gh} {β':Nat→Option Nat} {s e:St}: ∀(c:ah) (j:Nat),qJ j c s=some e→ ∀{t:List Value},PW (bP g) c t→(∀i,i<HL→β' i=g.β i)→PW (bP {g with β:=β'}) c t:=by
  intro c;induction c generalizing s with
  |nil=>intro j _ t f _;rw[f.di];exact .nil
  |cons x c P=>
   intro j d t f hβ;obtain⟨v,t,rfl,y,G⟩:=f.cons_inv
   cases x with
   |box k off=>
    cases off with
    |succ n=>cases d
    |zero=>unfold qJ at d;obtain⟨l,d⟩:=aP d;rw[bC] at l;obtain⟨b,r,o⟩:=y;exact .cons ⟨b,(hβ k (kz l.2)).trans r,o⟩ (P (j+1) d G hβ)
   |_=>cases d
theorem Jf {g:Gh}: ∀(a:ah) (j:Nat) (c:List Value),a.length=c.length→(∀i v,c[i]? =some v→ ∃b,g.β (HL+5000+j+i)=some b∧v=.pointer (some ⟨b,0,none⟩))→PW (MJ g) (kX j a) c
 |[],j,c,d,_=>by have:c=[]:=Yv d.symm;rw[this];exact .nil
 |x::a,j,[],d,_=>by simp at d
 |x::a,j,v::c,d,h=>by unfold kX;obtain⟨b,l,e⟩:=h 0 v rfl;refine .cons (.inr ⟨b,by simpa using l,e⟩) (Jf a (j+1) c (by simpa using d) fun i u f=>?_);obtain⟨k,m,n⟩:=h (i+1) u (by simpa using f);exact⟨k,by rw[←m];congr 1;omega,n⟩
theorem WZ: ∀(args:ah) (j:Nat) {a b:Nat},(a,b)∈jX j args→a<HL+j+args.length
 |[],j,a,b,h=>by cases h
 |x::args,j,a,b,h=>by
  have c:(a,b)∈jX (j+1) args→a<HL+j+(x::args).length:=fun h=>by have:=WZ args (j+1) h;rw[fI];omega
  cases x with
  |bxa off d=>
   unfold jX at h;rcases List.mem_cons.1 h with h|h
   ·simp only[bM] at h
    obtain⟨rfl,rfl⟩:=h;rw[fI];omega
   exact c h
  |_=>exact c h
theorem OW (hE:uL E) {id:Nat} (b:jY E.P id=true) (args:Array Value) (w:World):(callFunc id args).run E.P w=.ok (.enter id args) w:=by
 unfold jY at b;split at b
 ·rename_i fn c
  have a:fn.name≠ "runtime.NumGoroutine" :=by
   have:=Array.all_eq_true_iff_forall_mem.1 hE.names fn (abT c);have d:fn.body.isNone=false:=by cases f:fn.body with|none=>rw[f] at b;cases b|some _=>rfl
   rw[d] at this;simpa using this
  obtain⟨bd,e⟩:=Option.isSome_iff_exists.1 b;simp[callFunc,c,a,e]
 ·cases b
theorem nM {args:ah} (c:handed args=false):bR 0 args=args∧dI 0 args=[]:=by
 have: ∀(l:ah) (j:Nat),handed l=false→bR j l=l∧dI j l=[]:=by
  intro l;induction l with
  |nil=>intro j _;exact⟨rfl,rfl⟩
  |cons x l a=>
   intro j h;unfold handed at h;rw[abM,EY] at h;obtain⟨d,b⟩:=a (j+1) h.2
   cases x with
   |bxa off e=>cases h.1
   |_=>exact⟨by unfold bR;rw[d];rfl,b⟩
 exact this args 0 c
def DfEnd (E:Env) (fn:Func) (gf:Nat) (d args:ah) (B:Own) (g:Gh) (R:Ending→World→Prop) (f:Ex) (l:St) (w:World):Prop:=
 ∃(rec:V) (k:ah) (mb ml:List (Nat×Nat)) (Φ:V→List (ah)→Prop),((rec=.nilif∧(f=.norm∨f=.ret))∨ ∃u,f=.qi rec∧dh rec=some u)∧
  o7 l.bx 0 (kX 0 d)=some (k,mb,ml)∧o6 mb ml=true∧jY E.P gf=true∧DC E gf k rec Φ∧ ∀h c,Φ h c→ ∃j,pq l none mb ml h c=some j∧
  ∀B4 o i e,B.m=B4.m→B.n=B4.n→(∀a b,(a,b)∈jX 0 args→B.β a=B4.β a)→Inv E B4 g.G w j o i e→ ∃v,(results fn i.tmps).run E.P e=.ok v e∧R (.returned v) e
theorem vV (hE:uL E) {α:Type} {call:Caller α} (ih:lW E call) {fuel f:Nat} {fn:Func} {cA cB:Code} {id:Nat} {n p:Oper} {cl:Call} {t gf:Nat} {first ccaps:Array Operand} {c args:ah}
  (hfn:E.P.funcs[f]? =some fn) (hb:fn.body=some (.seq cA (.seq (.region id #[n,p] false) cB))) (hg1:n.guard=none) (hd1:n.dst=some t) (S:p.op=.defer cl) (hg2:p.guard=none) (hd2:p.dst=none)
  (z:cl.callee=.value (.tmp t)) (k:cl.args.toList=[]) {s1 s2:St}
  (hl1:Leads E cA ⟨A7 fn (bR 0 args),dI 0 args⟩ .norm s1) (hopr:JJ E s1.fr s1.bx n=some (true,.val (.fn gf c))) (htl:t<s1.fr.length) (hal:args.length<5000) (M:Nat.blt gf yU=true)
  (Z:qJ 0 c (s1.put (some t) (.fn gf c))=some s2)
  {B:Own} {g:Gh} {w:World} {us:List Value} {R:Ending→World→Prop} (hdf:B.df=[]) (hi:Inv E B g.G w ⟨bR 0 args,dI 0 args⟩ g ⟨us.toArray,[]⟩ w)
  (hl3: ∀(B2:Own) (G0:aU) (w0:World) (g5:Gh) (a5:Act) (x:World),Inv E B2 G0 w0 s2 g5 a5 x→ ∀Q:Exit→Act→World→Prop,(∀e3 s3 g' a' w',DfEnd E fn gf c args B g R e3 s3 w→Inv E B2 G0 w0 s3 g' a' w'→Q (PK e3) a' w')→cB.wp E.P Q a5 x):Calls E.P f us.toArray w R:=by
 refine calls_of_wp_defers hfn hb ?_;refine wp_seq (hl1 B g.G w g _ w (mP (fn:=fn) hi) _ fun g1 s x d=>?_);refine wp_seq (wp_region ?_);have K:List.range (#[n,p]:Array Oper).size=[0,1]:=rfl;rw[K];have hdo:=mK (ac:=s) (B:=B) (w:=x) (g:=g1) (o:=n) hE rfl d.gok d.own d.bxs d.hB d.m1 d.ku (fun y=>gD d.fr d.ku y) hopr;obtain⟨fv,A,hfv⟩:=hdo;obtain⟨j,r,I⟩:=hfv;rw[A8 M] at r;subst r;have hi2:=d.put (some t) (v:=.fn gf c) (u:=.func (.func gf) #[] j.toArray) ⟨j,(A8 M).symm,I⟩;obtain⟨B',g',m1,m2,m3,m4,m5,hi2'⟩:=Qt c 0 B _ s2 g1 j hi2 Z I;unfold wpOps;simp only[acg,O8];have hw1: ∀y,Region.wanted n y=true:=fun y=>by unfold Region.wanted;rw[hg1]
 have hw2: ∀y,Region.wanted p y=true:=fun y=>by unfold Region.wanted;rw[hg2]
 rw[if_pos (hw1 _)];refine .inl ?_;unfold Oper.wp;rw[A];show wpOps E.P #[n,p] _ [1] (s.put n.dst _) x;rw[hd1];unfold wpOps;simp only[acg,abB,O8];rw[if_pos (hw2 _)];refine .inl ?_;unfold Oper.wp;have htm:(Act.put s (some t) (.func (.func gf) #[] j.toArray)).eval (.tmp t)=.func (.func gf) #[] j.toArray:=by
  have N:t<s.tmps.size:=by have:=d.fr.1;rw[Kq] at this;omega
  show(s.tmps.setIfInBounds t _).getD t undef=_;simp[Array.getD,N]
 have C:(execOp (Act.put s (some t) (.func (.func gf) #[] j.toArray)).eval p).run E.P x=.ok (.defer {target:=.fn (.func gf) j.toArray,args:= #[]}) x:=by
  obtain⟨callee,F,cts⟩:=cl;simp only at z k;subst z;obtain rfl:F= #[]:=by rw[←Px];simpa using k
  simp only[execOp,S,resolve,Deferred.ofValue,htm];simp
 rw[C];rw[Oper.upon_defer,hd2];unfold wpOps;have hdf1:s.defers=[]:=d.df.trans hdf;have l:=hi2'.redf [{target:=.fn (.func gf) j.toArray,args:= #[]}];have e1:(Act.put s (some t) (.func (.func gf) #[] j.toArray)).defers=[]:=hdf1;rw[e1];refine hl3 _ g.G w _ _ x l _ fun e3 s3 g3 L T hP l=>?_
 obtain⟨rec,as,mb,ml,Φ,O,m,X,hbg,hDC,W⟩:=hP;have h: ∀u,WW rec u→Leaves E.P fn L.tmps R L.defers u T:=by
  intro u hu;have hd3:L.defers=[{target:=.fn (.func gf) j.toArray,args:= #[]}]:=l.df;rw[hd3];have hcv:PW (MJ g3) (kX 0 c) j:=Jf c 0 j I.1 fun i v hv=>by obtain⟨b,q1,q2⟩:=m5 i v hv;exact⟨b,by rw[l.ext.2.2 _ (by omega)];exact q1,q2⟩
  have Y:=pY l hcv m X;have hrun:u≠.run:=by
   rcases hu with⟨_,rfl⟩|⟨q,_,rfl⟩
   ·intro e;cases e
   intro e;cases e
  refine leaves_cons (f:=gf) (args:=j.toArray) hrun ?_ ?_
  ·show(callFunc gf (#[]++j.toArray)).run E.P T=_
   rw[OW hE hbg];simp
  refine CallsD.mono (hDC (yj g3 T mb ml) (qG g3 mb ml) T j rfl Y u hu) ?_;rintro e u' w4 ⟨x0,bs0,g4,v4,hΦ,⟨v',rfl⟩,U,hx⟩;obtain⟨s4,J,hfin⟩:=W x0 bs0 hΦ;obtain⟨g5,h5⟩:=Dp l m X J hx;have D: ∀a b,(a,b)∈jX 0 args→B.β a=B'.β a:=fun a b hab=>by have h6:=WZ args 0 hab;exact(m4 a (by generalize HL=H at*;omega)).symm
  obtain⟨v,hv1,hv2⟩:=hfin {B' with df:=[{target:=.fn (.func gf) j.toArray,args:= #[]}]} g5 L w4 m1.symm m2.symm D h5;show Leaves E.P fn L.tmps R [] (settle u') w4;rw[U];exact⟨v,hv1,hv2⟩
 rcases O with⟨rfl,hee⟩|⟨u,rfl,hu⟩
 ·rcases hee with rfl|rfl
  ·exact h .returning (.inl ⟨rfl,rfl⟩)
  exact h .returning (.inl ⟨rfl,rfl⟩)
 show bodyPostD E.P fn R (.panic [{v:=(dh rec).getD undef,recovered:=false}]) L T;rw[hu];exact h _ (.inr ⟨u,hu,rfl⟩)
theorem Qu (hE:uL E) {α:Type} {call:Caller α} (ih:lW E call) (fuel:Nat):lW E (Gy false E call fuel):=by
 intro f args K r h;unfold Gy at h;split at h
 ·cases h
 rename_i fn H;split at h
 ·rename_i c X hb p
  have ha:=p;rw[Br p] at h ha;clear p X;split at h
  ·
   obtain⟨e,s',he,hl⟩:=jv hE ih _ rfl fuel c _ _ r h;rw[FI] at he;obtain⟨v,hK,hv⟩:=lK he;refine⟨v,hK,?_⟩;rcases hv with⟨ho,hh,D,A⟩|⟨x,bs,rfl,D,k⟩|⟨x,bs,u,rfl,⟨y,rfl,hu⟩,k⟩
   ·refine .inl ⟨ho,jJ ha hh fun B g w us b L=>calls_of_wp H hb ?_⟩
    have hst:=mP (fn:=fn) L;rw[(nM hh).1,(nM hh).2] at hl;refine hl B g.G w g _ w hst _ fun g' a' w' i=>?_
    obtain⟨u,J,d,z,o⟩:=A (B2:=B) rfl rfl i;have j:=i.df.trans b;rw[b] at z;rcases D with rfl|rfl
    ·exact⟨j,_,d,_,J,rfl,z,o⟩
    exact⟨j,_,d,_,J,rfl,z,o⟩
   ·refine .inr (.inl ⟨false,x,bs,rfl,fun B g w us b L=>calls_of_wp H hb ?_⟩)
    refine hl B g.G w g _ w (mP (fn:=fn) L) _ fun g' a' w' i=>?_
    obtain⟨u,J,d,h2⟩:=k rfl rfl b (fun _ _ _=>rfl) i;have j:=i.df.trans b;rcases D with rfl|rfl
    ·exact⟨j,_,d,J,_,rfl,h2⟩
    exact⟨j,_,d,J,_,rfl,h2⟩
   refine .inr (.inl ⟨true,x,bs,rfl,fun B g w us b L=>calls_of_wp H hb ?_⟩);refine hl B g.G w g _ w (mP (fn:=fn) L) _ fun g' a' w' i=>?_
   obtain⟨J,h2⟩:=k rfl rfl b (fun _ _ _=>rfl) i;have j:=i.df.trans b;show bodyPost E.P fn _ (.panic [{v:=(dh y).getD undef,recovered:=false}]) a' w';rw[hu];exact⟨j,J,_,rfl,h2⟩
  ·
   rename_i cA o1 o2 cB N;obtain⟨id,rfl⟩:=Je N;split at h
   ·rename_i gf first ccaps t cl hop1 hg1 hd1 R hg2 hd2
    split at h
    ·rename_i t' U q
     have Z:=aP h;obtain⟨Y,h9⟩:=Z;clear h;have Y:t=t':=by simpa using Y
     subst Y;obtain⟨e1,s1,l,hl1⟩:=jv hE ih _ rfl fuel cA _ _ r h9
     cases e1 with
     |exit id=>cases l
     |ret=>cases l
     |qi v=>cases l
     |norm=>
     simp only at l;split at l
     ·rename_i g' V T
      obtain⟨hc1,he2⟩:=aP l;clear l;rw[bC,bC] at hc1;obtain⟨⟨hgg,M⟩,m⟩:=hc1;obtain⟨m,W⟩:=Bool.and_eq_true_iff.1 m;have hgg:g'=gf:=by simpa using hgg
      subst hgg;have M:=kz M;obtain⟨m,W⟩:=Bool.and_eq_true_iff.1 m;have m:=kz m;split at he2
      ·rename_i s2 S
       obtain⟨e3,s3,n,hl3⟩:=jv hE ih _ rfl fuel cB _ _ r he2;have s: ∃rec,dfK false E call fuel fn g' (kX 0 V) (qF args) K rec s3=some r∧((rec=.nilif∧(e3=.norm∨e3=.ret))∨ ∃u,e3=.qi rec∧dh rec=some u):=by
        cases e3 with
        |norm=>exact⟨.nilif,n,.inl ⟨rfl,.inl rfl⟩⟩
        |ret=>exact⟨.nilif,n,.inl ⟨rfl,.inr rfl⟩⟩
        |exit id=>cases n
        |qi v=>
         have n:(match dh v with|some _=>dfK false E call fuel fn g' (kX 0 V) (qF args) K v s3|none=>none)=some r:=n;split at n
         ·rename_i u hu;exact⟨v,n,.inr ⟨u,rfl,hu⟩⟩
         cases n
       obtain⟨rec,s,O⟩:=s;unfold dfK at s;split at s
       ·rename_i as mb ml C
        obtain⟨hnh,hdk2⟩:=aP s;obtain⟨hbg,x0,bs0,I,hDC⟩:=ZA hE ih hdk2;simp only at I;split at I
        ·rename_i s4 F
         rw[FI] at I;obtain⟨v,hK,hv⟩:=lK I;refine⟨v,hK,?_⟩;rcases hv with⟨ho,hh,D,A⟩|⟨x,bs,rfl,D,k⟩|⟨x,bs,u,rfl,⟨y,hy,hu⟩,k⟩
         ·refine .inl ⟨ho,jJ ha hh fun B g w us b L=>?_⟩
          have hi0:Inv E B g.G w ⟨bR 0 args,dI 0 args⟩ g ⟨us.toArray,[]⟩ w:=by rw[(nM hh).1,(nM hh).2];exact L
          refine vV hE ih H hb hg1 hd1 R hg2 hd2 U q hl1 T M m W S (fuel:=fuel) (first:=first) (ccaps:=ccaps) b hi0 fun B2 G0 w0 g5 a5 w5 hi5 Q hq=>hl3 B2 G0 w0 g5 a5 w5 hi5 Q fun g' a' w' i=>hq e3 s3 g' a' w' ⟨rec,as,mb,ml,_,O,C,hnh,hbg,hDC,fun _ _ hΦ=>⟨s4,by rw[hΦ.1,hΦ.2];exact F,fun B4 g4 a4 w4 q1 q2 q3 hi4=>?_⟩⟩ i
          obtain⟨u,J,d,z,o⟩:=A (B2:=B) q1 q2 hi4;rw[b] at z;rw[←q1] at o;exact⟨_,d,_,J,rfl,z,o⟩
         ·refine .inr (.inl ⟨false,x,bs,rfl,fun B g w us b L=>?_⟩)
          refine vV hE ih H hb hg1 hd1 R hg2 hd2 U q hl1 T M m W S (fuel:=fuel) (first:=first) (ccaps:=ccaps) b L fun B2 G0 w0 g5 a5 w5 hi5 Q hq=>hl3 B2 G0 w0 g5 a5 w5 hi5 Q fun g' a' w' i=>hq e3 s3 g' a' w' ⟨rec,as,mb,ml,_,O,C,hnh,hbg,hDC,fun _ _ hΦ=>⟨s4,by rw[hΦ.1,hΦ.2];exact F,fun B4 g4 a4 w4 q1 q2 q3 hi4=>?_⟩⟩ i
          obtain⟨u,J,d,h2⟩:=k q1 q2 b q3 hi4;exact⟨_,d,J,_,rfl,h2⟩
         cases hy
        cases I
       cases s
      cases he2
     cases l
    cases h
   cases h
 cases h
def pE:V→V
 | .ni b x y=>match b with|true=>pE x|false=>pE y
 |v=>v
theorem xD {α:Type} {K:V→Option α} {r:α}: ∀v:V,Fa K v=some r→K (pE v)=some r
 | .ni b x y,h=>by
  unfold Fa at h;unfold pE;rcases l6 h with⟨rfl,h⟩|⟨rfl,h⟩
  ·exact xD x h
  exact xD y h
 | .any,h=>h
 | .bool _,h=>h
 | .int _ _,h=>h
 | .str _,h=>h
 | .agg _,h=>h
 | .tup _,h=>h
 | .nilsl,h=>h
 | .sl _ _ _ _,h=>h
 | .rptr _ _ _,h=>h
 | .box _ _,h=>h
 | .eptr _ _ _ _ _ _,h=>h
 | .fn _ _,h=>h
 | .nilif,h=>h
 | .nilp,h=>h
 | .iface _ _,h=>h
 | .bxa _ _,h=>h
 | .out _ _ _,h=>h
 | .old _,h=>h
 | .slz _ _ _ _ _ _ _ _ _ _,h=>h
 | .epz _ _ _ _ _,h=>h
 | .keep _ _,h=>h
def SpecOk (E:Env) (f:Nat) (args:ah) (r:V):Prop:=(f<GX→aj E f args r)∧(GX≤f→ ∀p x bs,pE r=.out p x bs→XC E (f-GX) args p x bs)∧(KX≤f→ ∀p x,pE r=.keep p x→KC E (f-KX) args p x)
def bf (E:Env) (S:List (Nat×aC)):Prop:=∀f a,gI S f=some a→ ∀args r,a args=some (true,r)→SpecOk E f args r
theorem bf.nil:bf E []:=fun f a h=>by cases h
theorem bf.consG {S:List (Nat×aC)} {f:Nat} {d:aC} (h: ∀args r,d args=some (true,r)→SpecOk E f args r) (i:bf E S):bf E ((f,d)::S):=by
 intro g c a args r e;unfold gI at a
 cases b:f==g with
 |true=>
  rw[b,lm] at a;simp only[aR] at a;subst a;have:f=g:=by simpa using b
  subst this;exact h args r e
 |false=>rw[b,jW] at a;exact i g c a args r e
theorem bf.cons {S:List (Nat×aC)} {f:Nat} {c:aC} (h: ∀args r,c args=some (true,r)→aj E f args r) (d:bf E S) (b:Nat.blt f GX=true:=by rfl):bf E ((f,c)::S):=
 bf.consG (fun args r e=>⟨fun _=>h args r e,fun a=>absurd (kz b) (Nat.not_lt.2 a),fun a=>absurd (kz b) (Nat.not_lt.2 (Cr (show GX≤KX by decide) a))⟩) d
theorem bf.nH {S:List (Nat×aC)} {f:Nat} {b:aC} (h: ∀args r,b args=some (true,r)→ ∀p x bs,pE r=.out p x bs→XC E f args p x bs) (c:bf E S) (a:Nat.blt f GX=true:=by rfl):bf E ((GX+f,b)::S):=
 bf.consG (fun args r d=>⟨fun a=>absurd a (by omega),fun _ p x bs g=>by rw[show GX+f-GX=f by omega];exact h args r d p x bs g,fun e=>absurd e (by have:=kz a;unfold GX KX at*;omega)⟩) c
theorem bf.consK {S:List (Nat×aC)} {f:Nat} {b:aC} (h: ∀args r,b args=some (true,r)→ ∃p x,pE r=.keep p x∧KC E f args p x) (i:bf E S):bf E ((KX+f,b)::S):=
 bf.consG (fun args r g=>by
  obtain⟨j,k,c,e⟩:=h args r g;refine⟨fun d=>absurd d (by unfold GX KX;omega),fun _ p x bs a=>?_,fun _ p x a=>?_⟩
  ·rw[c] at a;cases a
  rw[c] at a;cases a;rw[show KX+f-KX=f by omega];exact e) i
theorem W9 {g:Gh} {x:V} {v:Value} (h:aT g x v):aT g x.xS v:=by
 cases x with
 |sl e sh o xs=>exact bZ rfl (xw (o:=o) (lz h))
 |old y=>
  show aT g (bif y.fG then y else .any) v
  cases y.fG
  ·exact jr
  exact bZ h.2.2 h.2.1
 |_=>exact h
theorem vW: ∀(l:ah) (j:Nat),iP l=false→bR j l=l∧dI j l=[]∧ ∀bs,fJ j l bs=[]
 |[],_,_=>⟨rfl,rfl,fun _=>rfl⟩
 |x::l,j,h=>by
  unfold iP at h;rw[abM,EY] at h;obtain⟨b,a,c⟩:=vW l (j+1) h.2
  cases x with
  |bxa off d=>cases h.1
  |_=>exact⟨by unfold bR;rw[b];rfl,a,fun bs=>c bs⟩
theorem Jg (l:ah):iP (l.map V.xS)=iP l:=by
 unfold iP;rw[List.any_map];congr 1;funext x
 cases x with
 |old y=>
  show(bif y.fG then y else .any).AO=false
  cases y with
  |sl e sh o xs=>cases o<;>rfl
  |_=>rfl
 |_=>rfl
theorem xc_unl {f:Nat} {args:ah} {p:Bool} {x:V} {bs:List (ah)} (d:iP args=false) (h:XC E f (args.map V.xS) p x bs):XC E f args p x bs:=by
 obtain⟨q,i,j⟩:=vW args 0 d;obtain⟨e,m,n⟩:=vW (args.map V.xS) 0 (by rw[Jg];exact d);intro B g w vs b a;rw[q,i] at a;have c:Inv E B g.G w ⟨bR 0 (args.map V.xS),dI 0 (args.map V.xS)⟩ g ⟨vs.toArray,[]⟩ w:=by rw[e,m];exact a.less (dW a.fr fun y _ v o=>W9 o) (fun k r l=>l)
 have:=h B g w vs b c;rw[n] at this;rw[j];exact this
theorem Cc {f:Nat} {args:ah} {r:V} (h:aj E f (args.map V.xS) r):aj E f args r:=by
 intro G w vs d a c;refine h G w vs d a (dW c fun y _ v b=>?_)
 cases y with
 |sl e sh o xs=>exact xw (o:=o) b
 |old y=>unfold aV at b;exact b.elim
 |_=>exact b
theorem unl_unl (args:ah):(args.map V.xS).map V.xS=args.map V.xS:=by
 rw[Fy];refine abe fun x _=>?_
 cases x with
 |old y=>
  show(bif y.fG then y else .any).xS=(bif y.fG then y else .any)
  cases y with
  |sl e sh o xs=>cases o<;>rfl
  |_=>rfl
 |_=>rfl
theorem kc_unl {f:Nat} {args:ah} {p:Bool} {x:V} (d:iP args=false) (h:KC E f (args.map V.xS) p x):KC E f args p x:=by
 obtain⟨n,i,o⟩:=vW args 0 d;obtain⟨e,l,q⟩:=vW (args.map V.xS) 0 (by rw[Jg];exact d);intro B g w vs b a;rw[n,i] at a;have c:Inv E B g.G w ⟨bR 0 (args.map V.xS),dI 0 (args.map V.xS)⟩ g ⟨vs.toArray,[]⟩ w:=by rw[e,l];exact a.less (dW a.fr fun y _ v m=>W9 m) (fun k r j=>j)
 exact h B g w vs b c
theorem Ie (hE:uL E) {S:List (Nat×aC)} (u:bf E S) (fuel:Nat) {α:Type}: ∀d,lW E (bu (α:=α) E S fuel d):=by
 have i: ∀f a,gI S (KX+f)=some a→ ∀args (K:V→Option α) r,(match a args with|some (c,r)=>sel c (Fa (fun v=>match v with| .keep p x=>K (.keep p x)|_=>none) r) none|none=>none)=some r→ ∃v,K v=some r∧FOk E f args v:=by
  intro f a b args K r h;split at h
  ·rename_i c v e
   rcases l6 h with⟨rfl,h⟩|⟨_,h⟩
   ·have j:=xD v h
    split at j
    ·rename_i p x m
     have:=(u _ a b args v e).2.2 (by omega) p x m;rw[show KX+f-KX=f by omega] at this;exact⟨_,j,.inr (.inr ⟨p,x,rfl,this⟩)⟩
    cases j
   cases h
  cases h
 have k: ∀f a,gI S (GX+f)=some a→ ∀args (K:V→Option α) r,(match a args with|some (c,r)=>sel c (Fa (fun v=>match v with| .out p x bs=>K (.out p x bs)|_=>none) r) none|none=>none)=some r→ ∃v,K v=some r∧FOk E f args v:=by
  intro f a b args K r h;split at h
  ·rename_i c v e
   rcases l6 h with⟨rfl,h⟩|⟨_,h⟩
   ·have j:=xD v h
    split at j
    ·rename_i p x bs m
     have:=(u _ a b args v e).2.1 (by omega) p x bs m;rw[show GX+f-GX=f by omega] at this;exact⟨_,j,.inr (.inl ⟨p,x,bs,rfl,this⟩)⟩
    cases j
   cases h
  cases h
 have l: ∀f a,gI S f=some a→f<GX→ ∀args (K:V→Option α) r,(match a (args.map V.xS) with|some (c,r)=>sel c (match r with| .out _ _ _=>none| .keep _ _=>none|r=>K r) none|none=>none)=some r→ ∃v,K v=some r∧FOk E f args v:=by
  intro f a b g args K r h;split at h
  ·rename_i c v e
   rcases l6 h with⟨rfl,h⟩|⟨_,h⟩
   ·have q:=(u _ a b _ v e).1 g
    split at h
    ·cases h
    ·cases h
    rename_i s n;refine⟨v,h,.inl ⟨?_,q⟩⟩
    cases v<;>first|rfl|exact absurd rfl (s _ _ _)|exact absurd rfl (n _ _)
   cases h
  cases h
 have one: ∀(f:Nat) (args:ah) (K:V→Option α) (r:α) (X:Option α),(X=some r→ ∃v,K v=some r∧FOk E f args v)→(match gI S (KX+f) with
  |some a=>match a args with|some (c,r)=>sel c (Fa (fun v=>match v with| .keep p x=>K (.keep p x)|_=>none) r) none|none=>none
  |none=>match gI S (GX+f) with
  |some a=>match a args with|some (c,r)=>sel c (Fa (fun v=>match v with| .out p x bs=>K (.out p x bs)|_=>none) r) none|none=>none
  |none=>bif Nat.blt f GX then(match gI S f with
   |some a=>match a (args.map V.xS) with|some (c,r)=>sel c (match r with| .out _ _ _=>none| .keep _ _=>none|r=>K r) none|none=>none
   |none=>X) else none)=some r→ ∃v,K v=some r∧FOk E f args v:=by
  intro f args K r X w h;split at h
  ·rename_i a b;exact i f a b args K r h
  split at h
  ·rename_i a b;exact k f a b args K r h
  obtain⟨g,h⟩:=aP h;split at h
  ·rename_i a b;exact l f a b (kz g) args K r h
  exact w h
 intro d;induction d with
 |zero=>intro f args K r h;exact one f args K r none (fun h=>by cases h) h
 |succ d A=>
  intro f args K r h;refine one f args K r _ (fun h=>?_) h;obtain⟨v,y,e⟩:=Qu hE A fuel f _ K r h;refine⟨v,y,?_⟩
  cases o:iP args with
  |true=>rw[o,lm] at e;exact e
  |false=>
   rw[o,jW] at e;rcases e with⟨z,q⟩|⟨p,x,bs,rfl,t⟩|⟨p,x,rfl,t⟩
   ·rw[unl_unl] at q;exact .inl ⟨z,q⟩
   ·exact .inr (.inl ⟨p,x,bs,rfl,xc_unl o t⟩)
   exact .inr (.inr ⟨p,x,rfl,kc_unl o t⟩)
theorem fok_fin {f:Nat} {args:ah} {r:V} {fn:Func} {c:Code} (t:E.P.funcs[f]? =some fn) (L:fn.body=some c) (R:x9 args=some args) (M:rW r=false→handed args=false)
  (m: ∀(B:Own) (g:Gh) (w:World) (us:List Value),Inv E B g.G w ⟨bR 0 args,dI 0 args⟩ g ⟨us.toArray,[]⟩ w→ ∀Q:Exit→Act→World→Prop,(∀e A g' z w',Gr E.P fn args some e A=some r→Inv E B g.G w A g' z w'→Q (PK e) z w')→c.wp E.P Q (Act.mk (us.toArray++Array.replicate (fn.ntmps-us.toArray.size) undef) []) w):FOk E f args r:=by
 cases i:rW r with
 |false=>
  refine .inl ⟨i,jJ R (M i) fun B g w us b D=>calls_of_wp t L ?_⟩;refine m B g w us (by rw[(nM (M i)).1,(nM (M i)).2];exact D) _ fun e A g' z w' F d=>?_
  obtain⟨v,k,H⟩:=lK F;simp only[aR] at k;subst k;rcases H with⟨_,_,n,C⟩|⟨x,bs,rfl,_,_⟩|⟨x,bs,u,rfl,_,_⟩
  ·obtain⟨u,o,h,q,l⟩:=C (B2:=B) rfl rfl d
   have a:=d.df.trans b;rw[b] at q;rcases n with rfl|rfl
   ·exact⟨a,_,h,_,o,rfl,q,l⟩
   exact⟨a,_,h,_,o,rfl,q,l⟩
  ·cases i
  cases i
 |true=>
  cases r with
  |out p J K=>
   refine .inr (.inl ⟨p,J,K,rfl,fun B g w us b D=>calls_of_wp t L ?_⟩);refine m B g w us D _ fun e A g' z w' F d=>?_
   obtain⟨v,k,H⟩:=lK F;simp only[aR] at k;subst k;rcases H with⟨i,_⟩|⟨x,bs,s,n,j⟩|⟨x,bs,u,s,⟨y,rfl,N⟩,j⟩
   ·cases i
   ·cases s
    obtain⟨u,o,h,I⟩:=j rfl rfl b (fun _ _ _=>rfl) d;have a:=d.df.trans b;rcases n with rfl|rfl
    ·exact⟨a,_,h,o,_,rfl,I⟩
    exact⟨a,_,h,o,_,rfl,I⟩
   cases s;obtain⟨o,I⟩:=j rfl rfl b (fun _ _ _=>rfl) d;have a:=d.df.trans b;show bodyPost E.P fn _ (.panic [{v:=(dh y).getD undef,recovered:=false}]) z w';rw[N];exact⟨a,o,_,rfl,I⟩
  |keep O J=>exact .inr (.inr ⟨O,J,rfl,fun B g w us b D=>calls_of_wp t L (m B g w us D _ fun e A g' z w' F d=>by
    obtain⟨v,k,H⟩:=lK F;simp only[aR] at k;subst k;rcases H with⟨i,_⟩|⟨x,bs,s,_⟩|⟨x,bs,u,s,_⟩
    ·cases i
    ·cases s
    cases s)⟩)
  |_=>cases i
theorem Uf (hE:uL E) {call:Caller V} (ih:lW E call) (fuel:Nat) {f:Nat} {args:ah} {r:V} (h:bA E call fuel f args some=some r):FOk E f args r:=by
 have low:Gy false E call fuel f args some=some r→FOk E f args r:=fun h=>by obtain⟨v,Y,hv⟩:=Qu hE ih fuel f args some r h;simp only[aR] at Y;subst Y;exact hv
 unfold bA at h;by_cases hh:handed args=false;rotate_left
 ·have hh:handed args=true:=by simpa using hh
  refine low ?_;unfold Gy at h⊢
  cases F:E.P.funcs[f]? with
  |none=>rw[F] at h;cases h
  |some fn=>
   rw[F] at h;simp only at h⊢
   cases d:x9 args with
   |none=>rw[d] at h;split at h<;>rename_i hq<;>first|cases hq|cases h
   |some K=>
    have hh2:handed K=true:=by rw[Br d];exact hh
    cases hb:fn.body with
    |none=>rw[hb] at h;cases h
    |some c=>simp only[hb,d,hh2] at h⊢;exact h
 unfold Gy at h;split at h
 ·cases h
 rename_i fn F;split at h
 ·rename_i c K hb d
  have ha:=d;rw[Br d] at h ha;split at h
  ·rename_i hsp
   have fin: ∀(B:Own) (g:Gh) (w:World) (us:List Value),Inv E B g.G w ⟨bR 0 args,dI 0 args⟩ g ⟨us.toArray,[]⟩ w→ ∀Q:Exit→Act→World→Prop,(∀e s' g' a' w',Gr E.P fn args some e s'=some r→Inv E B g.G w s' g' a' w'→Q (PK e) a' w')→c.wp E.P Q (Act.mk (us.toArray++Array.replicate (fn.ntmps-us.toArray.size) undef) []) w:=by
    intro B g w us hi Q hq;refine pz hE ih _ fuel c _ _ r h g _ w (mP (fn:=fn) hi) Q fun e s' g' a' w' he hi'=>?_
    rw[FI] at he;exact hq e s' g' a' w' he hi'
   exact fok_fin F hb ha (fun _=>hh) fin
  ·
   rename_i cA o1 o2 cB hsplit;obtain⟨id,rfl⟩:=Je hsplit;split at h
   ·rename_i gf first ccaps t cl hop1 hg1 hd1 L hg2 hd2
    split at h
    ·rename_i t' Z m
     obtain⟨htt,h9⟩:=aP h;clear h;have htt:t=t':=by simpa using htt
     subst htt;obtain⟨e1,s1,o,hl1⟩:=jv hE ih _ rfl fuel cA _ _ r h9
     cases e1 with
     |exit id=>cases o
     |ret=>cases o
     |qi v=>cases o
     |norm=>
     simp only at o;split at o
     ·rename_i g' I U
      obtain⟨hc1,he2⟩:=aP o;clear o;rw[bC,bC] at hc1;obtain⟨⟨hgg,W⟩,k⟩:=hc1;obtain⟨k,hgA⟩:=Bool.and_eq_true_iff.1 k;have hgg:g'=gf:=by simpa using hgg
      subst hgg;have W:=kz W;obtain⟨k,hgA⟩:=Bool.and_eq_true_iff.1 k;have k:=kz k;split at he2
      ·rename_i s2 O
       have N: ∀n D,dfEx (true&& !handed args) E call fuel fn g' (kX 0 I) (qF args) some n D=some r→ ∃(rec:V) (as:ah) (mb ml:List (Nat×Nat)) (Φ:V→List (ah)→Prop),
         ((rec=.nilif∧(n=.norm∨n=.ret))∨ ∃u,n=.qi rec∧dh rec=some u)∧o7 D.bx 0 (kX 0 I)=some (as,mb,ml)∧o6 mb ml=true∧jY E.P g'=true∧DC E g' as rec Φ∧ ∀x0 l,Φ x0 l→ ∃s4,pq D none mb ml x0 l=some s4∧Gr E.P fn args some .ret s4=some r:=by
        intro n D q;have J: ∃rec,dfK (true&& !handed args) E call fuel fn g' (kX 0 I) (qF args) some rec D=some r∧((rec=.nilif∧(n=.norm∨n=.ret))∨ ∃u,n=.qi rec∧dh rec=some u):=by
         cases n with
         |norm=>exact⟨.nilif,q,.inl ⟨rfl,.inl rfl⟩⟩
         |ret=>exact⟨.nilif,q,.inl ⟨rfl,.inr rfl⟩⟩
         |exit id=>cases q
         |qi v=>
          have q:(match dh v with|some _=>dfK (true&& !handed args) E call fuel fn g' (kX 0 I) (qF args) some v D|none=>none)=some r:=q;split at q
          ·rename_i u hu;exact⟨v,q,.inr ⟨u,rfl,hu⟩⟩
          cases q
        obtain⟨rec,J,i⟩:=J;unfold dfK at J;split at J
        ·rename_i as mb ml b
         obtain⟨A,hdk2⟩:=aP J;obtain⟨C,H⟩:=clo_cps hE ih hdk2;refine⟨rec,as,mb,ml,_,i,b,A,C,H,fun x0 l j=>?_⟩;simp only at j;split at j
         ·rename_i s4 T
          rw[FI] at j;exact⟨s4,T,j⟩
         cases j
        cases J
       cases ho:rW r with
       |false=>
        refine .inl ⟨ho,jJ ha hh fun B g w us z hi=>?_⟩;have hi0:Inv E B g.G w ⟨bR 0 args,dI 0 args⟩ g ⟨us.toArray,[]⟩ w:=by rw[(nM hh).1,(nM hh).2];exact hi
        refine vV hE ih F hb hg1 hd1 L hg2 hd2 Z m hl1 U W k hgA O (fuel:=fuel) (first:=first) (ccaps:=ccaps) z hi0 fun B2 G0 w0 g5 a5 w5 X Q hq=>pz hE ih _ fuel cB s2 _ r he2 g5 a5 w5 X Q fun n D g6 a6 w6 R M=>?_
        obtain⟨rec,as,mb,ml,Φ,i,b,A,C,H,s⟩:=N n D R;refine hq n D g6 a6 w6 ⟨rec,as,mb,ml,Φ,i,b,A,C,H,fun x0 l hΦ=>(s x0 l hΦ).imp fun s4 hs=>⟨hs.1,fun B4 g4 a4 w4 q1 q2 q3 hi4=>?_⟩⟩ M;have j:=hs.2;obtain⟨v,Y,hv⟩:=lK j;simp only[aR] at Y;subst Y;rcases hv with⟨_,_,hee,hret⟩|⟨x,bs,rfl,_,_⟩|⟨x,bs,u,rfl,_,_⟩
        ·obtain⟨u,g2,S,hfo,hres⟩:=hret (B2:=B) q1 q2 hi4
         rw[z] at hfo;rw[←q1] at hres;exact⟨_,S,_,g2,rfl,hfo,hres⟩
        ·cases ho
        cases ho
       |true=>
        cases r with
        |out p x0' bs0'=>
         refine .inr (.inl ⟨p,x0',bs0',rfl,fun B g w us z hi=>?_⟩);refine vV hE ih F hb hg1 hd1 L hg2 hd2 Z m hl1 U W k hgA O (fuel:=fuel) (first:=first) (ccaps:=ccaps) z hi fun B2 G0 w0 g5 a5 w5 X Q hq=>pz hE ih _ fuel cB s2 _ _ he2 g5 a5 w5 X Q fun n D g6 a6 w6 R M=>?_
         obtain⟨rec,as,mb,ml,Φ,i,b,A,C,H,s⟩:=N n D R;refine hq n D g6 a6 w6 ⟨rec,as,mb,ml,Φ,i,b,A,C,H,fun x0 l hΦ=>(s x0 l hΦ).imp fun s4 hs=>⟨hs.1,fun B4 g4 a4 w4 q1 q2 q3 hi4=>?_⟩⟩ M;have j:=hs.2;obtain⟨v,Y,hv⟩:=lK j;simp only[aR] at Y;subst Y;rcases hv with⟨ho,_⟩|⟨x,bs,hx,hee,hfin⟩|⟨x,bs,u,hx,⟨y,hy,hu⟩,hfin⟩
         ·cases ho
         ·cases hx
          obtain⟨u,g2,S,h2⟩:=hfin q1 q2 z q3 hi4;exact⟨_,S,g2,_,rfl,h2⟩
         cases hy
        |keep p0 x0'=>exact .inr (.inr ⟨p0,x0',rfl,fun B g w us z hi=>by
          refine vV hE ih F hb hg1 hd1 L hg2 hd2 Z m hl1 U W k hgA O (fuel:=fuel) (first:=first) (ccaps:=ccaps) z hi fun B2 G0 w0 g5 a5 w5 X Q hq=>pz hE ih _ fuel cB s2 _ _ he2 g5 a5 w5 X Q fun n D g6 a6 w6 R M=>?_
          obtain⟨rec,as,mb,ml,Φ,i,b,A,C,H,s⟩:=N n D R;refine hq n D g6 a6 w6 ⟨rec,as,mb,ml,Φ,i,b,A,C,H,fun x0 l hΦ=>?_⟩ M;obtain⟨s4,T,j⟩:=s x0 l hΦ;obtain⟨v,Y,hv⟩:=lK j;simp only[aR] at Y;subst Y;exfalso;rcases hv with⟨ho,_⟩|⟨x,bs,hx,_⟩|⟨x,bs,u,hx,_⟩
          ·cases ho
          ·cases hx
          cases hx⟩)
        |_=>cases ho
      cases he2
     cases o
    cases h
   cases h
 cases h
theorem au (hE:uL E) {S:List (Nat×aC)} (c:bf E S) (fuel d:Nat) {f:Nat} {args:ah} {r:V} (h:bA E (bu E S fuel d) fuel f args some=some r) (b:rW r=false:=by rfl):aj E f args r:=by
 have a:=Uf hE (Ie hE c fuel (α:=V) d) fuel h;rcases a with⟨_,a⟩|⟨p,x,bs,rfl,_⟩|⟨p,x,rfl,_⟩
 ·exact Cc a
 ·cases b
 cases b
theorem Fh (hE:uL E) {S:List (Nat×aC)} (c:bf E S) (fuel d:Nat) {f:Nat} {args:ah} {r:V} (h:bA E (bu E S fuel d) fuel f args some=some r) (b:rW r=false:=by rfl):aj E f (args.map V.xS) r:=by
 have a:=Uf hE (Ie hE c fuel (α:=V) d) fuel h;rcases a with⟨_,a⟩|⟨p,x,bs,rfl,_⟩|⟨p,x,rfl,_⟩
 ·exact a
 ·cases b
 cases b
theorem fQ (hE:uL E) {S:List (Nat×aC)} (i:bf E S) (fuel d:Nat) {f:Nat} {args:ah} {p:Bool} {x:V} {bs:List (ah)} (h:bA E (bu E S fuel d) fuel f args some=some (.out p x bs)):XC E f args p x bs:=by
 have k:=Uf hE (Ie hE i fuel (α:=V) d) fuel h;rcases k with⟨b,_⟩|⟨j,c,g,a,e⟩|⟨j,c,a,_⟩
 ·cases b
 ·cases a;exact e
 cases a
end
theorem bK {α:Type} (c:Bool) (a b:α):sel c a b=if c=true then a else b:=by cases c<;>rfl
theorem ax {α:Type} {c:Bool} {a b:α} (h:c=true):sel c a b=a:=by subst h;rfl
theorem aK {α:Type} {c:Bool} {a b:α} (h:c=false):sel c a b=b:=by subst h;rfl
theorem bq (a b:Int):(aW a b=true)=(a<b):=by unfold aW;simp
theorem aB (a b:Int):(av a b=true)=(a≤b):=by unfold av;simp
theorem aN (a b:Int):(ieq a b=true)=(a=b):=by unfold ieq;simp
theorem Ba (a b:Nat):(nle a b=true)=(a≤b):=by unfold nle;simp
theorem aM (a b:Bool):(ak a b=true)=(a=true∧b=true):=by cases a<;>cases b<;>simp[ak]
theorem bW (a:Bool):(aL a=true)= ¬(a=true):=by cases a<;>simp[aL]
theorem beq_iff (a b:Bool):(beq a b=true)=(a=b):=by unfold beq;simp
theorem cK (a b:af):(seq a b=true)=(a=b):=by unfold seq;simp
theorem gX (a b:af):(fu a b=true)=(a.length+b.length≤1152921504606846976):=by unfold fu;rw[Ba]
theorem Dt (a:af):(Ky a=true)=(a.length≤1152921504606846976):=by unfold Ky;rw[Ba]
theorem iY (a b:ah):(eD a b=true)=(a.length+b.length≤16777216):=by unfold eD;rw[Ba]
theorem bH {a b:Int} (h:a<b):aW a b=true:=by rw[bq];exact h
theorem bF {a b:Int} (h:b≤a):aW a b=false:=by unfold aW;simp;omega
theorem bg {a b:Int} (h:a≤b):av a b=true:=by rw[aB];exact h
theorem mr {a b:Int} (h:b<a):av a b=false:=by unfold av;simp;omega
theorem bn {a b:Int} (h:a=b):ieq a b=true:=by rw[aN];exact h
theorem bD {a b:Int} (h:a≠b):ieq a b=false:=by unfold ieq;simpa using h
theorem cZ {a b:Int} (h: -9223372036854775808≤a+b∧a+b≤9223372036854775807):bJ .i64 a b=a+b:=IntWalk.i64_in _ h
theorem dO {a b:Int} (h: -9223372036854775808≤a-b∧a-b≤9223372036854775807):dw .i64 a b=a-b:=IntWalk.i64_in _ h
theorem og {a b:Int} (h: -9223372036854775808≤a*b∧a*b≤9223372036854775807):mF .i64 a b=a*b:=IntWalk.i64_in _ h
theorem iaddu64 {a b:Int} (h:0≤a+b∧a+b≤18446744073709551615):bJ .u64 a b=a+b:=IntWalk.u64_in _ h
theorem imulu64 {a b:Int} (h:0≤a*b∧a*b≤18446744073709551615):mF .u64 a b=a*b:=IntWalk.u64_in _ h
theorem icnvu64 {a:Int} (h:0≤a∧a≤18446744073709551615):qm .u64 a=a:=IntWalk.u64_in _ h
theorem icnv64 {a:Int} (h: -9223372036854775808≤a∧a≤9223372036854775807):qm .i64 a=a:=IntWalk.i64_in _ h
theorem icnvu8 {a:Int} (h:0≤a∧a≤255):qm .u8 a=a:=IntWalk.u8_in _ h
theorem isubu8 {a b:Int} (h:0≤a-b∧a-b≤255):dw .u8 a b=a-b:=IntWalk.u8_in _ h
theorem Qv {k:IntKind} {a b:Int} (d:0≤a) (c:k.wrap (a/b)=a/b):gF k a b=a/b:=by unfold gF;rw[Int.tdiv_eq_ediv_of_nonneg d];exact c
theorem div_le_self {a b:Int} (c:0≤a) (d:0<b):0≤a/b∧a/b≤a:=⟨Int.ediv_nonneg c (by omega),Int.ediv_le_self b c⟩
theorem pF {a b:Int} (c:0≤a) (d:0<b) (h:a≤9223372036854775807):gF .i64 a b=a/b:=
 Qv c (IntWalk.i64_in _ (by have:=div_le_self c d;omega))
theorem NJ {a b:Int} (c:0≤a) (d:0<b) (h:a≤18446744073709551615):gF .u64 a b=a/b:=
 Qv c (IntWalk.u64_in _ (by have:=div_le_self c d;omega))
theorem nN {a b:Int} (c:0≤a):tH a b=a%b:=Int.tmod_eq_emod_of_nonneg c
theorem aI (l:af):aA l=(l.length:Int):=rfl
theorem aD (l:ah):ay l=(l.length:Int):=rfl
theorem sat_nat (l:af) (i:Nat):sat l (i:Int)=((l.getD i 0).toNat:Int):=rfl
theorem Ig (l:af) (a b:Nat):dN l (a:Int) (b:Int)=(l.drop a).take (b-a):=rfl
theorem eX (l:ah) (i:Nat):aG l (i:Int)=l.getD i .any:=rfl
theorem aj.env {E E':Env} {f:Nat} {args:ah} {r:V} (e:E.P=E'.P) (h: ∀n v,E.glob n=some v→E'.glob n=some v) (c:aj E f args r):aj E' f args r:=by intro G w vs d b a;have:=c G w vs d (fun n v g=>b n v (h n v g)) a;rw[e] at this;exact this
def nR (E:Env) (f:Nat) (args:ah) (r:V):Prop:=∀p x bs,pE r=.out p x bs→XC E f args p x bs
theorem nR.out {E:Env} {f:Nat} {args:ah} {p:Bool} {x:V} {bs:List (ah)} (h:XC E f args p x bs):nR E f args (.out p x bs):=by
 intro c d a b
 cases b;exact h
theorem nR.ni {E:Env} {f:Nat} {args:ah} {c:Bool} {a b:V} (g:c=true→nR E f args a) (e:c=false→nR E f args b):nR E f args (.ni c a b):=by
 intro p x bs d
 cases c with
 |true=>exact g rfl p x bs d
 |false=>exact e rfl p x bs d
theorem Inv.env {E E':Env} {B:Own} {G0:aU} {b:World} {s:St} {g:Gh} {a:Act} {w:World} (c:E.P=E'.P) (d:lV E' G0 b) (h:Inv E B G0 b s g a w):Inv E' B G0 b s g a w:=
 ⟨h.fr,h.df,h.gok,h.own,c▸h.bxs,h.lS,h.hB,h.ext,⟨d,h.glob.2⟩,h.g1,h.zb⟩
theorem XC.env {E E':Env} {f:Nat} {args:ah} {p:Bool} {x:V} {bs:List (ah)} (b:E.P=E'.P) (h: ∀n v,E.glob n=some v→E'.glob n=some v) (c:XC E f args p x bs):XC E' f args p x bs:=by intro B g w vs a i;have d:=i.glob.1;have:=c B g w vs a (i.env b.symm fun n v k=>d n v (h n v k));rw[b] at this;refine Calls.mono this ?_;rintro e w' ⟨g',v,l,j⟩;exact⟨g',v,l,j.env b d⟩
theorem nR.env {E E':Env} {f:Nat} {args:ah} {r:V} (a:E.P=E'.P) (h: ∀n v,E.glob n=some v→E'.glob n=some v) (c:nR E f args r):nR E' f args r:=fun p x bs b=>(c p x bs b).env a h
def uG (w:World):aU:=fun b=>match w.heap[b]? with|some (.cells c _ _)=>some c.toList|_=>none
theorem heapG_ok (w:World):xU (uG w) w:=by
 intro b l h;unfold uG at h;split at h
 ·rename_i c e fr a
  simp only[aR] at h;subst h;exact⟨c,e,fr,a,abJ⟩
 cases h
def KJ {H:Type} (P:Program):Nat→TypeId→DataW H→Nat→Option V
 |0,_,_,_=>none
 |f+1,t,d,i=>
  match P.underlying t,d with
  |some (.int k),.lit (.int _ n)=>(match i with|0=>some (.int k n)|_=>none)
  |some .bool,.lit (.bool b)=>(match i with|0=>some (.bool b)|_=>none)
  |some .string,.lit (.string l)=>(match i with|0=>some (.str l)|_=>none)
  |some (.struct g),.agg c=>(List.range c.length).findSome? fun j=>
   match g[j]?,c[j]? with
   |some a,some x=>(match Nat.ble a.offset i&&Nat.blt i (a.offset+P.cellsOf a.type) with|true=>KJ P f a.type x (i-a.offset)|false=>none)
   |_,_=>none
  |some (.array n e),.agg c=>(match c[i/P.cellsOf e]? with|some x=>KJ P f e x (i%P.cellsOf e)|none=>none)
  |_,_=>none
variable {H:Type} {enc:TypeId×Value→H} {P:Program} {w:World} {base:Nat} {spare:Nat→Bool} {held:Bool}
theorem Du (G:aU): ∀(f:Nat) (t:TypeId) (d:DataW H) (i:Nat) (v:V),KJ P f t d i=some v→ ∀(fuel:Nat) (F:List Value) (p:List MemPlace),DataW.trod enc P w base spare held fuel t F=some (d,p)→
  ∃u,F[i]? =some u∧aV G v u
 |0,_,_,_,_,h,_,_,_,_=>by simp[KJ] at h
 |f+1,t,d,i,v,h,fuel,F,p,r=>by
  unfold KJ at h;split at h
  ·rename_i k R n c
   obtain⟨m,rfl,e,_⟩:=DataW.trod_int c r;simp only[bM,DataW.lit.injEq,Lit.int.injEq] at e;obtain⟨⟨rfl,rfl⟩,_⟩:=e;split at h
   ·simp only[aR] at h
    subst h;exact⟨_,rfl,by unfold aV;rfl⟩
   cases h
  ·rename_i b c
   obtain⟨m,rfl,e⟩:=DataW.trod_bool c r;simp only[bM,DataW.lit.injEq,Lit.bool.injEq] at e;obtain⟨rfl,_⟩:=e;split at h
   ·simp only[aR] at h
    subst h;exact⟨_,rfl,by unfold aV;rfl⟩
   cases h
  ·rename_i l c
   obtain⟨s,rfl,e,_⟩:=DataW.trod_string c r;simp only[bM,DataW.lit.injEq,Lit.string.injEq] at e;obtain⟨rfl,_⟩:=e;split at h
   ·simp only[aR] at h
    subst h;exact⟨_,rfl,by unfold aV;cases s;simp⟩
   cases h
  ·rename_i S N c
   obtain⟨xs,m,_,e,z,L,o⟩:=DataW.trod_struct c r;simp only[bM,DataW.agg.injEq] at e;obtain⟨j,_,B⟩:=List.exists_of_findSome?_eq_some h;split at B
   ·rename_i q x J A
    split at B
    ·rename_i E
     rw[bC] at E;have Q:=aa6 E.1;have O:i<q.offset+P.cellsOf q.type:=by have:=E.2;rwa [Gb] at this
     rw[e.1,sW] at A;obtain⟨y,C,g⟩:=Option.map_eq_some_iff.1 A;have:=o j q J;rw[C] at this;obtain⟨u,a,I⟩:=Du G f q.type x _ v B m _ y.2 (by rw[this,←g]);refine⟨u,?_,I⟩;rw[acw (by omega),Tk,show q.offset+(i-q.offset)=i by omega] at a;exact a
    cases B
   cases B
  ·rename_i n e N c
   obtain⟨xs,m,_,K,z,L,o⟩:=DataW.trod_array c r;simp only[bM,DataW.agg.injEq] at K;split at h
   ·rename_i x A
    rw[K.1,sW] at A;obtain⟨y,C,g⟩:=Option.map_eq_some_iff.1 A;have D:i/P.cellsOf e<n:=by rw[←L];exact(List.getElem?_eq_some_iff.1 C).1
    have:=o _ D;rw[C] at this;obtain⟨u,a,I⟩:=Du G f e x _ v h m _ y.2 (by rw[this,←g]);refine⟨u,?_,I⟩;by_cases M:P.cellsOf e=0
    ·rw[M,List.take_zero] at a
     cases a
    rw[acw (acL _ (by omega)),Tk,Nat.mul_comm,Nat.div_add_mod] at a;exact a
   cases h
  cases h
theorem Qw {α β:Type} {f:α→Option β}: ∀{l:List α} {ys:List β},l.mapM f=some ys→ys.length=l.length∧ ∀(i:Nat) a y,l[i]? =some a→ys[i]? =some y→f a=some y
 |[],ys,h=>by simp at h;subst h;exact⟨rfl,by simp⟩
 |a::l,ys,h=>by
  rw[acW] at h
  cases c:f a with
  |none=>rw[c] at h;cases h
  |some y=>
   rw[c] at h
   cases b:l.mapM f with
   |none=>rw[b] at h;cases h
   |some zs=>
    rw[b] at h;simp at h;subst h;obtain⟨k,g⟩:=Qw b;refine⟨by simp[k],fun i j m e d=>?_⟩
    cases i with
    |zero=>simp at e d;subst e;subst d;exact c
    |succ i=>exact g i j m (by simpa using e) (by simpa using d)
theorem xE {j:String} {g:Nat} {h:Array Value} {t:TypeId} {fuel f:Nat} {d:DataW H} {p:List MemPlace} {sh:List Kd} {xs:ah} (z:P.globalNamed j=some g) (l:w.var? P j=some h)
  (v:DataW.trod enc P w base spare held fuel t h.toList=some (d,p)) (D:(List.range sh.length).mapM (KJ P f t d)=some xs) (B:ig sh (.agg xs)=true):
  aV (uG w) (.rptr sh (.agg xs) 0) (.pointer (some ⟨g,0,none⟩)):=by
 obtain⟨o,y⟩:=Qw D;rw[ac1] at o;have a: ∀(i:Nat) (x:V),xs[i]? =some x→ ∃u,h.toList[i]? =some u∧aV (uG w) x u:=by
  intro i x b;have r:i<sh.length:=by rw[←o];exact(List.getElem?_eq_some_iff.1 b).1
  exact Du (uG w) f t d i x (y i i x (by rw[ab1 r]) b) fuel _ p v
 have A:xs.length≤h.toList.length:=by
  rcases acU h.toList.length xs.length with n|m
  ·obtain⟨u,s,_⟩:=a h.toList.length xs[h.toList.length] (iZ n)
   rw[abF (lg _)] at s
   cases s
  exact m
 unfold aV;refine⟨g,0,h.toList,rfl,?_,B,.agg (h.toList.take sh.length).toArray,?_,?_⟩
 ·simp only[World.var?,z,Option.bind_some] at l
  split at l
  ·rename_i c e fr E
   simp only[aR] at l;subst l;unfold uG;rw[E]
  cases l
 ·unfold aV
  refine⟨_,rfl,?_⟩;rw[fH];refine⟨by rw[JG];omega,fun i x u b k=>?_⟩;obtain⟨F,q,C⟩:=a i x b;have r:i<sh.length:=by rw[←o];exact(List.getElem?_eq_some_iff.1 b).1
  rw[acw r,q] at k;simp only[aR] at k;rw[←k];exact C
 simp[Value.cells]
theorem ZC {g:Nat} {k:IntKind} {m:Int} (h:w.cell? ⟨g,0,none⟩=some (.int k m)):aV (uG w) (.rptr [.int k] (.int k m) 0) (.pointer (some ⟨g,0,none⟩)):=by
 simp only[World.cell?] at h;split at h
 ·rename_i c e fr d
  unfold aV;refine⟨g,0,c.toList,rfl,by unfold uG;rw[d],by simp[ig,V.cells,fU,fits,ak],.int k m,by unfold aV;rfl,?_⟩;have b:c.toList[0]? =some (.int k m):=by simpa using h
  cases d:c.toList with
  |nil=>rw[d] at b;cases b
  |cons a t=>rw[d] at b;simp at b;subst b;rfl
 cases h
theorem OX {E:Env} {f:Nat} {args:ah} {vs:List Value} (c:aj E f args (.bool true)) (d:lV E (uG w) w) (a:PW (aV (uG w)) args vs):
  Calls E.P f vs.toArray w fun e w'=>e=.returned (.bool true)∧Below w.heap.size w w':=by
 refine(c (uG w) w vs (heapG_ok w) d a).mono ?_;rintro e w' ⟨v,G',rfl,g,b⟩;have:v=.bool true:=b;rw[this];exact⟨rfl,g.1⟩
end Nt.Ev
