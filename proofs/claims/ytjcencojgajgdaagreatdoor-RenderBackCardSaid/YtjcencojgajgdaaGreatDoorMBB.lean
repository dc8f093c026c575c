/-
  The evaluator is right: functions; those that are handed boxes and labelled slices, that raise, that defer a closure which takes back.
-/
import Derived.Test.YtjcencojgajgdaaGreatDoorMBS
import Derived.Recover
import Derived.IntWalk
import Derived.ChangeArms
import Derived.OpenShut
import Derived.FnData
set_option linter.all false
namespace Nt.Ev
open Go Go.RowKit
section
variable {E:Env}
theorem argV_eq {x y:V} (h:ZH x=some y):y=x:=by
 cases x with
 |fn f c=>cases c<;>(simp[ZH,V.deep] at h;exact h.symm)
 |bxa off a=>simp only[ZH,aT] at h;exact h.symm
 |sl e sh o xs=>simp only[ZH,aT] at h;exact h.symm
 |old z=>have h:(bif z.fJ then some (V.old z) else none)=some y:=h;obtain⟨_,h⟩:=aP h;simp only[aT] at h;exact h.symm
 |_=>simp[ZH,V.deep] at h<;>exact h.symm
theorem Bu: ∀{xs ys:ah},AR xs=some ys→ys=xs
 |[],ys,h=>by simp only[AR,aT] at h;exact h.symm
 |x::xs,ys,h=>by
  unfold AR at h;split at h
  ·rename_i a b c d
   simp only[aT] at h;rw[←h,argV_eq c,Bu d]
  cases h
theorem PY (args:ah):handed (qE args)=handed args:=by
 unfold qE
 cases h:handed args with
 |false=>rfl
 |true=>
  rw[lC];unfold handed at h⊢;rw[Nk] at h⊢;obtain⟨x,b,a⟩:=h
  cases x with
  |bxa off c=>exact⟨_,List.mem_map.2 ⟨_,b,rfl⟩,rfl⟩
  |sl e sh o xs=>cases o with
   |none=>cases a
   |some L=>exact⟨_,List.mem_map.2 ⟨_,b,rfl⟩,rfl⟩
  |_=>cases a
theorem JI (s:St): ∀(args:ah) (j:Nat),(∀x∈args,x.AQ=false)→om s j args=some []∧jX j args=[]
 |[],j,_=>⟨rfl,rfl⟩
 |x::args,j,h=>by
  have a:=JI s args (j+1) fun y b=>h y (uO _ b)
  have c:=h x rf
  cases x<;>first|exact a|cases c
theorem Ml (s:St) (f:V→V) (h: ∀x,(f x).AQ=x.AQ): ∀(args:ah) (j:Nat),om s j (args.map f)=om s j args∧jX j (args.map f)=jX j args
 |[],j=>⟨rfl,rfl⟩
 |x::args,j=>by
  have e:=Ml s f h args (j+1);have c:=h x;rw[rA];have b: ∀y:V,y.AQ=false→om s j (y::args)=om s (j+1) args∧jX j (y::args)=jX (j+1) args:=fun y g=>by cases y<;>first|exact⟨rfl,rfl⟩|cases g
  have a: ∀y:V,y.AQ=false→om s j (y::args.map f)=om s (j+1) (args.map f)∧jX j (y::args.map f)=jX (j+1) (args.map f):=fun y g=>by cases y<;>first|exact⟨rfl,rfl⟩|cases g
  cases d:x.AQ with
  |false=>rw[d] at c;rw[(b x d).1,(b x d).2,(a _ c).1,(a _ c).2];exact e
  |true=>
   rw[d] at c;generalize f x=y at c
   cases x<;>first|cases d|skip
   cases y<;>first|cases c|skip
   simp only[om,jX,e.1,e.2];exact⟨trivial,trivial⟩
theorem Mm (s:St) (args:ah):om s 0 (qE args)=om s 0 args∧jX 0 (qE args)=jX 0 args:=by
 unfold qE
 cases h:handed args with
 |false=>
  have a:=JI s args 0 fun x b=>by
   unfold handed at h;rw[abz] at h;have:=h x b
   cases x<;>first|rfl|(exfalso;exact this rfl)
  rw[jW,a.1,a.2];exact⟨rfl,rfl⟩
 |true=>rw[lC];exact Ml s _ (fun x=>by cases x<;>first|rfl|(rename_i o _;cases o<;>rfl)) args 0
theorem outOf_sh {α:Type} (p:Bool) (x:V) (s:St) (args:ah) (K:V→Option α):qD p x s (qE args) K=qD p x s args K:=by unfold qD;rw[(Mm s args).1,(Mm s args).2]
theorem Gc {α:Type} (P:Program) (fn:Func) (args:ah) (K:V→Option α):Kv P fn (qE args) K=Kv P fn args K:=by
 funext e s
 cases e<;>simp only[Kv,PY,outOf_sh]
theorem Rp: ∀(bs:List (ah)) (j:Nat) (p:Nat×Nat),p∈ZJ j bs→ ∃i,p.2=fP true p.1 i
 |[],j,p,h=>by cases h
 |cs::bs,j,p,h=>by
  unfold ZJ at h;rcases List.mem_append.1 h with h|h
  ·obtain⟨i,a⟩:=iV _ _ _ h
   exact⟨_,a⟩
  exact Rp bs (j+1) p h
theorem cls_lt' {L i:Nat} (h:fP true L i<HL):L<HL:=by
 unfold fP at h;rw[Ke] at h
 cases a:Nat.ble HL L with
 |true=>rw[a,lC] at h;omega
 |false=>
  refine abv fun e=>?_
  rw[ace e] at a
  cases a
theorem OC: ∀(args:ah) (j:Nat) {a b:Nat},(a,b)∈jX j args→a=b∧HL≤a
 |[],j,a,b,h=>by cases h
 |x::args,j,a,b,h=>by
  have c:(a,b)∈jX (j+1) args→a=b∧HL≤a:=OC args (j+1)
  cases x with
  |bxa off d=>
   unfold jX at h;rcases List.mem_cons.1 h with h|h
   ·simp only[bP] at h
    obtain⟨rfl,rfl⟩:=h;exact⟨rfl,by omega⟩
   exact c h
  |_=>exact c h
theorem oP {s:St} (f:ah→ah): ∀(args:ah) (j:Nat) (bs:List (ah)),om s j args=some bs→ ∀k c,aK (fK j args (bs.map f)) k=some c→ ∃a,aK s.bx k=some a∧c=f a
 |[],j,bs,h,k,c,b=>by cases b
 |x::args,j,bs,h,k,c,b=>by
  have d:om s (j+1) args=some bs→aK (fK (j+1) args (bs.map f)) k=some c→ ∃a,aK s.bx k=some a∧c=f a:=fun i e=>oP f args (j+1) bs i k c e
  cases x with
  |bxa off c0=>
   unfold om at h;split at h
   ·rename_i m l i e
    simp only[aT] at h;subst h;rw[rA] at b;unfold fK aK at b
    cases g:HL+j==k with
    |true=>
     rw[g,lC] at b;simp only[aT] at b;obtain rfl:HL+j=k:=by simpa using g
     exact⟨m,i,b.symm⟩
    |false=>rw[g,jW] at b;exact oP f args (j+1) l e k c b
   cases h
  |_=>exact d h b
theorem mK: ∀(args:ah) (j:Nat) (bs:List (ah)) {k:Nat} {d:ah},aK (fK j args bs) k=some d→ ∃b,(k,b)∈jX j args
 |[],j,bs,k,d,h=>by cases h
 |x::args,j,bs,k,d,h=>by
  have c:aK (fK (j+1) args bs) k=some d→ ∃b,(k,b)∈jX (j+1) args:=fun h=>mK args (j+1) bs h
  cases x with
  |bxa off c0=>
   cases bs with
   |nil=>obtain⟨b,a⟩:=mK args (j+1) [] h;exact⟨b,uO _ a⟩
   |cons f bs=>
    unfold fK aK at h
    cases e:HL+j==k with
    |true=>
     obtain rfl:HL+j=k:=by simpa using e
     exact⟨_,rf⟩
    |false=>rw[e,jW] at h;obtain⟨b,a⟩:=mK args (j+1) bs h;exact⟨b,uO _ a⟩
  |_=>exact c h
theorem Gf {α:Type} {p:Bool} {x:V} {s:St} {args:ah} {K:V→Option α} {r:α} (h:qD p x s args K=some r):
  ∃x' bs,K (.out p x' bs)=some r∧(∀t y,x=.iface t y→x'=.iface t y)∧(x=.tup []→x'=.tup [])∧ ∀{B B2:Own} {G0:aW} {w0:World} {g:Gh} {a:Act} {w:World} {v:Value},B2.m=B.m→B2.n=B.n→B2.df=[]→(∀a b,(a,b)∈jX 0 args→B2.β a=B.β a)→Inv E B G0 w0 s g a w→aU g x v→ ∃g',Inv E B2 G0 w0 ⟨[x'],fK 0 args bs⟩ g' ⟨#[v],[]⟩ w:=by
 unfold qD at h;split at h
 ·rename_i bs F
  simp only at h;obtain⟨hn,h⟩:=aP h;rw[uk] at hn;have hf:=qN (qA (fun L i=>fP true L i) 0 (CY x)++ZJ 0 bs) [];generalize hml:pu [] (qA (fun L i=>fP true L i) 0 (CY x)++ZJ 0 bs)=ml at h hn hf;have Z: ∀p∈ml,∃i,p.2=fP true p.1 i:=fun p hp=>by
   rcases List.mem_append.1 (hf.2 p hp).1 with h|h
   ·obtain⟨i,f⟩:=iV _ _ _ h
    exact⟨_,f⟩
   exact Rp bs 0 p h
  refine⟨_,_,h,fun t y e=>(by subst e;rfl),fun e=>(by subst e;rfl),fun {B B2 G0 w0 g a w v} D N hd2 hβ2 f hv=>?_⟩;let O2:Nat→Option (Value×Nat×Nat):=fun n=>match lk (fG ml) n with|some L=>g.O L|none=>none
  have hO: ∀L n,lk ml L=some n→O2 n=g.O L:=fun L n S=>by show(match lk (fG ml) n with|some L=>g.O L|none=>none)=_;rw[jZ hn (kD S)]
  have d: ∀n x,O2 n=some x→ ∃L,(L,n)∈ml∧g.O L=some x:=fun n x z=>by
   have z:(match lk (fG ml) n with|some L=>g.O L|none=>none)=some x:=z;split at z
   ·rename_i L hL;exact⟨L,pM.1 (kD hL),z⟩
   cases z
  let β2:Nat→Option Nat:=fun k=>if HL≤k then B2.β k else g.β k
  have hβk: ∀a b,(a,b)∈jX 0 args→β2 a=g.β a:=fun a b X=>by have o:=(OC args 0 X).2;show(if HL≤a then B2.β a else g.β a)=_;rw[if_pos o,hβ2 a b X,f.ext.2.2 a o]
  let C2:Nat→Option (List Value):=fun n=>match lk (fG ml) n with|some L=>g.C L|none=>none
  have hC: ∀L n,lk ml L=some n→C2 n=g.C L:=fun L n S=>by show(match lk (fG ml) n with|some L=>g.C L|none=>none)=_;rw[jZ hn (kD S)]
  have hCm: ∀L n,(L,n)∈ml→C2 n=g.C L:=fun L n S=>by show(match lk (fG ml) n with|some L=>g.C L|none=>none)=_;rw[jZ hn S]
  let g2:Gh:=⟨g.G,O2,β2,g.G1,C2⟩
  have I: ∀(y:V) (u:Value),aU g y u→aU g2 (y.ren (jX 0 args) ml) u:=fun y u hy=>IR (g:=g) (g':=g2) rfl hO hC (fun k n q=>by have o:=kD q;rw[←(OC args 0 o).1];exact hβk k n o) hy
  have W: ∀L b,B2.ok L b↔B.ok L b:=fun L b=>by unfold Own.ok;rw[D,N]
  refine⟨g2,PW.cons (I x v hv) .nil,hd2.symm,f.gok,⟨fun n v' e R M=>?_,fun n n' v1 v2 e e' R sz' b o h2 hb1 hb2=>?_⟩,⟨fun k j q=>?_,fun k k' j cs' q P H=>?_⟩,by rw[D];exact f.mh,by rw[D,N];exact f.hB,⟨fun b H=>f.ext.1 b (by rw[←D];exact H),f.ext.2.1,fun k q=>if_pos q⟩,by rw[N];exact f.glob,f.g1,fun k j n v' e R b q M H hβ=>?_⟩
  ·obtain⟨L,hL,z⟩:=d n _ M
   obtain⟨q1,q2⟩:=f.own.1 L v' e R z;refine⟨q1,q2.imp id ?_⟩;rintro⟨b,m,cap,cur,l,hv',T,hh,hnc,hcm,hcs,J,hln⟩;refine⟨b,m,cap,cur,l,hv',(W n b).2 ⟨T.1,fun U=>T.2 ?_⟩,hh,hnc,hcm,hcs,by unfold mZ at J⊢;rw[show g2.C n=g.C L from hCm L n hL];exact J,hln⟩;obtain⟨i,Q⟩:=Z _ hL;simp only at Q;rw[Q] at U;exact cls_lt' U
  ·obtain⟨L,hL,z⟩:=d n _ o
   obtain⟨L',hL',hx'⟩:=d n' _ h2;have:=f.own.2 L L' v1 v2 e e' R sz' b z hx' hb1 hb2;subst this;exact Br hf.1 hL hL'
  ·obtain⟨cs0,o,rfl⟩:=oP (s:=s) (fun j=>j.map (V.ren (jX 0 args) ml)) args 0 bs F k j q
   obtain⟨b,c,e,q1,q2,q3,q4,q5,q6,q7⟩:=f.bxs.1 k cs0 o;obtain⟨Y,A⟩:=mK args 0 _ q;exact⟨b,c,e,(hβk k Y A).trans q1,by rw[D];exact q2,q3,eu q4 fun y _ u=>I y u,q5,q6,kP (IG _ _) q7⟩
  ·obtain⟨Y,A⟩:=mK args 0 _ q
   obtain⟨k1,hk1⟩:=mK args 0 _ P;have H:β2 k=β2 k':=H;rw[hβk k Y A,hβk k' k1 hk1] at H;obtain⟨c1,o,_⟩:=oP (s:=s) (fun j=>j.map (V.ren (jX 0 args) ml)) args 0 bs F k j q;obtain⟨c2,h2,_⟩:=oP (s:=s) (fun j=>j.map (V.ren (jX 0 args) ml)) args 0 bs F k' cs' P;exact f.bxs.2 k k' c1 c2 o h2 H
  obtain⟨L,hL,z⟩:=d n _ M;obtain⟨Y,A⟩:=mK args 0 _ q;obtain⟨c1,o,_⟩:=oP (s:=s) (fun j=>j.map (V.ren (jX 0 args) ml)) args 0 bs F k j q;have hβ:β2 k=some b:=hβ;rw[hβk k Y A] at hβ;exact f.zb k c1 L v' e R b o z H hβ
 cases h
theorem EO {G:aW} {x:V} {u:Value} (h:nG x=some u):aV G x u:=by
 cases x with
 |bool b=>simp only[nG,aT] at h;unfold aV;exact h.symm
 |int k n=>simp only[nG,aT] at h;unfold aV;exact h.symm
 |_=>cases h
theorem EP {G:aW}: ∀{xs:ah} {us:List Value},nH xs=some us→PW (aV G) xs us
 |[],us,h=>by simp only[nH,aT] at h;subst h;exact .nil
 |x::xs,us,h=>by
  unfold nH at h;split at h
  ·rename_i a b c d
   simp only[aT] at h;subst h;exact .cons (EO c) (EP d)
  cases h
theorem zU {g:Gh} {x:V} {u:Value} (h:dn x=some u):aU g x u∧ ∃t y,x=.iface t y:=by
 unfold dn at h;split at h
 ·rename_i t c
  split at h
  ·rename_i l a
   simp only[aT] at h;subst h;exact⟨jQ.2 ⟨_,rfl,by unfold aV;exact⟨l,rfl,(fe _ _).2 (EP a)⟩⟩,_,_,rfl⟩
  cases h
 ·rename_i t y _
  split at h
  ·rename_i z b
   simp only[aT] at h;subst h;exact⟨jQ.2 ⟨_,rfl,EO b⟩,_,_,rfl⟩
  cases h
 cases h
theorem adK {g:Gh} {vs:ah} {us:List Value} (h:PW (fun x v=>bQ g x v∧nZ x=true) vs us):aU g (Xu vs) (AU us):=by
 have a: ∀(vs:ah) (us:List Value),PW (fun x v=>bQ g x v∧nZ x=true) vs us→aU g (.tup vs) (.tuple us.toArray):=fun vs us h=>⟨us,rfl,h.mono fun _ _ _ h=>h.1⟩
 match vs,us,h with
 |[],us,h=>rw[h.cO];exact a [] [] .nil
 |[x],us,h=>
  obtain⟨u,t,rfl,⟨f,d⟩,e⟩:=h.cons_inv;rw[e.cO];have b:x.single=true:=by cases x<;>first|rfl|cases d
  exact bJ b f
 |x::y::vs,us,h=>
  have c:=h.1;match us,c with
  |u::v::us,_=>exact a _ _ h
theorem mM {B:Own} {g:Gh} {w:World} {fr:ah} {bx:List (Nat×ah)} {vs:List Value} {fn:Func} {G0:aW} {f:World} (a:Inv E B G0 f ⟨fr,bx⟩ g ⟨vs.toArray,[]⟩ w):
  Inv E B G0 f ⟨Ba fn fr,bx⟩ g {tmps:=vs.toArray++Array.replicate (fn.ntmps-vs.toArray.size) undef,defers:=[]} w:=by
 have b:PW (aU g) fr vs:=by simpa using a.fr
 refine⟨?_,a.df,a.gok,a.own,a.bxs,a.mh,a.hB,a.ext,a.glob,a.g1,a.zb⟩;show PW (aU g) (fr++List.replicate (fn.ntmps-fr.length) (.tup [])) (vs.toArray++Array.replicate (fn.ntmps-vs.toArray.size) undef).toList;have h:(vs.toArray++Array.replicate (fn.ntmps-vs.toArray.size) undef).toList=vs++List.replicate (fn.ntmps-fr.length) undef:=by rw[b.1];simp
 rw[h];refine b.append ⟨by simp,fun i x v c d=>?_⟩;rw[List.getElem?_replicate] at c d;split at c
 ·rename_i e
  rw[if_pos e] at d;simp only[aT] at c d;subst c;subst d;exact⟨[],rfl,.nil⟩
 cases c
def X5 (rec:V) (u:FrameMode):Prop:=(rec=.nilif∧u=.returning)∨ ∃q,dn rec=some q∧u=.panicking [{v:=q,recovered:=false}]
def DC (E:Env) (f:Nat) (args:ah) (rec:V) (Φ:V→List (ah)→Prop):Prop:=
 ∀(B:Own) (g:Gh) (w:World) (vs:List Value),B.df=[]→Inv E B g.G w ⟨bU 0 args,dU 0 args⟩ g ⟨vs.toArray,[]⟩ w→ ∀u,X5 rec u→
  CallsD E.P f vs.toArray u w fun e b w'=>∃x bs g' v,Φ x bs∧(∃a,e=.returned a)∧settle b=.returning∧Inv E B g.G w ⟨[x],fK 0 args bs⟩ g' ⟨#[v],[]⟩ w'
theorem adL (hE:uQ E) {α:Type} {call:Caller α} (hc:lS E call) {fuel f:Nat} {args:ah} {rec:V} {K:V→Option α} {r:α} (h:QW false E call fuel f args rec K=some r):jY E.P f=true∧ ∃x bs,K (.out false x bs)=some r∧DC E f args rec (fun x' Z=>x'=x∧Z=bs):=by
 unfold QW at h;split at h
 ·cases h
 rename_i fn N;split at h
 ·rename_i c k
  split at h
  ·rename_i id ops b
   split at h
   ·rename_i o D
    split at h
    ·rename_i cl d hop hg hd J
     split at h
     ·rename_i p n
      obtain⟨e,s',X,hl⟩:=jv hE hc _ rfl fuel b _ _ r h;have R:qD false (.tup []) s' args K=some r∧(e=.norm∨e=.ret):=by
       cases e with
       |norm=>exact⟨X,.inl rfl⟩
       |ret=>exact⟨X,.inr rfl⟩
       |exit id=>cases X
       |qi v=>cases X
      obtain⟨ho,Y⟩:=R;obtain⟨x',bs,hK,_,htup,S⟩:=Gf (E:=E) ho;refine⟨by unfold jY;rw[N];simp only[k];rfl,x',bs,hK,fun B g w vs U hi u hu=>?_⟩;refine callsD_of_wpS N k fun c₀ t hc₀=>?_
      have C:ops= #[o]:=by rw[←Qu];simpa using D
      subst C;refine wpS_seq (wpS_region ?_);have s: ∀ρ,(execOp ρ o).run E.P w=.ok .recover w:=by intro ρ;obtain⟨callee,cargs,cts⟩:=cl;simp only at p n;subst p;simp only[execOp,hop,resolve];simp[invoke,builtin]
      have z:List.range (#[o]:Array Oper).size=[0]:=rfl;rw[z];unfold wpOpsS;simp only[acg,Nh];have hw: ∀y,Region.wanted o y=true:=fun y=>by unfold Region.wanted;rw[hg]
      rw[if_pos (hw _),s];simp only[hd];have m:=mM (fn:=fn) hi;have T: ∀(v:Value) (A:FrameMode),settle A=.returning→aU g rec v→
        Code.wpS E.P b (bodyPostS E.P fn c₀ t fun e A w'=>∃O i g' v,(O=x'∧i=bs)∧(∃v',e=.returned v')∧settle A=.returning∧Inv E B g.G w ⟨[O],fK 0 args i⟩ g' ⟨#[v],[]⟩ w')
         (Act.put {tmps:=vs.toArray++Array.replicate (fn.ntmps-vs.toArray.size) undef,defers:=[]} (some d) v) ({c₀ with mode:=A}::t) w:=by
       intro v A W hv;refine wpS_of_wp (hl B g.G w g _ w (m.put (some d) hv) _ fun g' H w' F=>?_);have I:(results fn H.tmps).run E.P w'=.ok (.tuple #[]) w':=by have:=nP (fn:=fn) (a:=H) (w:=w') (E:=E) (us:=[]) (by rw[J];rfl);simpa[AU] using this
       have Q:H.defers=[]:=F.df.trans U;have M: ∃g2,Inv E B g.G w ⟨[x'],fK 0 args bs⟩ g2 ⟨#[.tuple #[]],[]⟩ w':=by exact S rfl rfl U (fun _ _ _=>rfl) F (v:=.tuple #[]) ⟨[],rfl,.nil⟩
       obtain⟨g2,h2⟩:=M;have l:H.defers=[]∧ ∃L,({c₀ with mode:=A}::t:List Frame)={c₀ with mode:=L}::t∧ ∃v,(results fn H.tmps).run E.P w'=.ok v w'∧ ∃O i g' v_1,(O=x'∧i=bs)∧(∃v',Ending.returned v=.returned v')∧settle L=.returning∧Inv E B g.G w ⟨[O],fK 0 args i⟩ g' ⟨#[v_1],[]⟩ w':=
        ⟨Q,A,rfl,_,I,_,_,g2,_,⟨rfl,rfl⟩,⟨_,rfl⟩,W,h2⟩
       rcases Y with rfl|rfl
       ·exact l
       exact l
      rcases hu with⟨rfl,rfl⟩|⟨q,hq,rfl⟩
      ·have j:recoverD (c₀::t)=none:=by simp only[recoverD,hc₀]
       rw[j];have:=T .nilIface .returning rfl (mO.2 rfl);have e1:({c₀ with mode:=.returning}:Frame)=c₀:=by rw[←hc₀]
       rw[e1] at this;exact this
      have j:recoverD (c₀::t)=some (q,{c₀ with mode:=.panicking [{v:=q,recovered:=true}]}::t):=by simp only[recoverD,hc₀]
      rw[j];exact T q _ rfl (zU hq).1
     cases h
    cases h
   cases h
  cases h
 cases h
theorem clo_cps (hE:uQ E) {α:Type} {call:Caller α} (hc:lS E call) {fuel f:Nat} {args:ah} {rec:V} {K:V→Option α} {r:α} {o:Bool} (h:QW o E call fuel f args rec K=some r):jY E.P f=true∧DC E f args rec (fun x bs=>K (.out false x bs)=some r):=by
 unfold QW at h;split at h
 ·cases h
 rename_i fn M;split at h
 ·rename_i c j
  split at h
  ·rename_i id ops b
   split at h
   ·rename_i op C
    split at h
    ·rename_i cl d Y hg hd I
     split at h
     ·rename_i n m
      refine⟨by unfold jY;rw[M];simp only[j];rfl,fun B g w vs S hi u hu=>?_⟩;refine callsD_of_wpS M j fun c₀ s hc₀=>?_
      have A:ops= #[op]:=by rw[←Qu];simpa using C
      subst A;refine wpS_seq (wpS_region ?_);have p: ∀ρ,(execOp ρ op).run E.P w=.ok .recover w:=by intro ρ;obtain⟨callee,cargs,cts⟩:=cl;simp only at n m;subst n;simp only[execOp,Y,resolve];simp[invoke,builtin]
      have t:List.range (#[op]:Array Oper).size=[0]:=rfl;rw[t];unfold wpOpsS;simp only[acg,Nh];have hw: ∀y,Region.wanted op y=true:=fun y=>by unfold Region.wanted;rw[hg]
      rw[if_pos (hw _),p];simp only[hd];have l:=mM (fn:=fn) hi;have R: ∀(v:Value) (z:FrameMode),settle z=.returning→aU g rec v→
        Code.wpS E.P b (bodyPostS E.P fn c₀ s fun e z w'=>∃x' bs g' v,K (.out false x' bs)=some r∧(∃X,e=.returned X)∧settle z=.returning∧Inv E B g.G w ⟨[x'],fK 0 args bs⟩ g' ⟨#[v],[]⟩ w')
         (Act.put {tmps:=vs.toArray++Array.replicate (fn.ntmps-vs.toArray.size) undef,defers:=[]} (some d) v) ({c₀ with mode:=z}::s) w:=by
       intro v z T hv;refine wpS_of_wp (pF hE hc _ fuel b _ _ r h g _ w (l.put (some d) hv) _ fun e s' g' F w' U D=>?_);have O:qD false (.tup []) s' args K=some r∧(e=.norm∨e=.ret):=by
        cases e with
        |norm=>exact⟨U,.inl rfl⟩
        |ret=>exact⟨U,.inr rfl⟩
        |exit id=>cases U
        |qi v=>cases U
       obtain⟨ho,W⟩:=O;obtain⟨x',bs,hK,_,htup,Q⟩:=Gf (E:=E) ho;have H:(results fn F.tmps).run E.P w'=.ok (.tuple #[]) w':=by have:=nP (fn:=fn) (a:=F) (w:=w') (E:=E) (us:=[]) (by rw[I];rfl);simpa[AU] using this
       have N:F.defers=[]:=D.df.trans S;have L: ∃Z,Inv E B g.G w ⟨[x'],fK 0 args bs⟩ Z ⟨#[.tuple #[]],[]⟩ w':=by exact Q rfl rfl S (fun _ _ _=>rfl) D (v:=.tuple #[]) ⟨[],rfl,.nil⟩
       obtain⟨Z,h2⟩:=L;have k:F.defers=[]∧ ∃J,({c₀ with mode:=z}::s:List Frame)={c₀ with mode:=J}::s∧ ∃v,(results fn F.tmps).run E.P w'=.ok v w'∧ ∃x' bs g' v_1,K (.out false x' bs)=some r∧(∃X,Ending.returned v=.returned X)∧settle J=.returning∧Inv E B g.G w ⟨[x'],fK 0 args bs⟩ g' ⟨#[v_1],[]⟩ w':=
        ⟨N,z,rfl,_,H,x',bs,Z,_,hK,⟨_,rfl⟩,T,h2⟩
       rcases W with rfl|rfl
       ·exact k
       exact k
      rcases hu with⟨rfl,rfl⟩|⟨q,hq,rfl⟩
      ·have i:recoverD (c₀::s)=none:=by simp only[recoverD,hc₀]
       rw[i];have:=R .nilIface .returning rfl (mO.2 rfl);have e1:({c₀ with mode:=.returning}:Frame)=c₀:=by rw[←hc₀]
       rw[e1] at this;exact this
      have i:recoverD (c₀::s)=some (q,{c₀ with mode:=.panicking [{v:=q,recovered:=true}]}::s):=by simp only[recoverD,hc₀]
      rw[i];exact R q _ rfl (zU hq).1
     cases h
    cases h
   cases h
  cases h
 cases h
def FOk (E:Env) (f:Nat) (args:ah) (v:V):Prop:=(uH v=false∧aj E f (args.map V.xW) v)∨(∃p x bs,v=.out p x bs∧XC E f args p x bs)∨ ∃p x,v=.keep p x∧KC E f args p x
theorem KR {x:V} (h:x.fJ=true):x.plain=true:=by
 cases x with
 |sl e sh o xs=>cases o<;>first|rfl|cases h
 |agg a=>rfl
 |rptr sh y off=>rfl
 |iface t y=>rfl
 |_=>cases h
theorem EQ {G:aW} {g:Gh} (m:g.G=G) (q:g.G1=G): ∀{args:ah} {us:List Value},AR args=some args→handed args=false→PW (aV G) (args.map V.xW) us→PW (aU g) args us
 |[],us,_,_,n=>by rw[n.cO];exact .nil
 |x::l,us,j,i,n=>by
  obtain⟨v,t,rfl,d,w⟩:=n.cons_inv;unfold handed at i;rw[abM,Fz] at i;unfold AR at j;split at j
  ·rename_i a b h p
   simp only[aT,Qg] at j;obtain⟨rfl,rfl⟩:=j;refine .cons ?_ (EQ m q p i.2 w);have k: ∀{y:V},y.deep=some y→aV G y v→aU g y v:=fun u z=>cK (jP u) (by rw[m];exact z)
   cases a with
   |bxa off r=>cases i.1
   |sl e sh o xs=>cases o with
    |none=>exact k rfl d
    |some L=>cases i.1
   |old y=>have h:(bif y.fJ then some (V.old y) else none)=some (.old y):=h;obtain⟨s,_⟩:=aP h;have d:aV G (bif y.fJ then y else .any) v:=d;rw[s,lC] at d;exact⟨by rw[q];exact d,by rw[m];exact d,KR s⟩
   |fn f c=>cases c with
    |nil=>exact k rfl d
    |cons c r=>have d:aV G (.fn f (c::r)) v:=d;unfold aV at d;exact absurd d.2 (by simp)
   |_=>exact k h d
  cases j
theorem jL {f:Nat} {args:ah} {r:V} (y:AR args=some args) (s:handed args=false)
  (h: ∀(B:Own) (g:Gh) (w:World) (us:List Value),B.df=[]→Inv E B g.G w ⟨args,[]⟩ g ⟨us.toArray,[]⟩ w→Calls E.P f us.toArray w fun e w'=>∃v g',e=.returned v∧Inv E B g.G w ⟨[],[]⟩ g' ⟨#[],[]⟩ w'∧fQ g'.G w' B.m r v):aj E f (args.map V.xW) r:=by
 intro G w us o a i;have i:=EQ (g:=⟨G,fun _=>none,fun _=>none,G,fun _=>none⟩) rfl rfl y s i;have x:Inv E ⟨(w.heap.size≤ ·),w.heap.size,fun _=>none,[]⟩ G w ⟨args,[]⟩ ⟨G,fun _=>none,fun _=>none,G,fun _=>none⟩ ⟨us.toArray,[]⟩ w:=by refine⟨?_,rfl,o,⟨fun L v e n h=>(by cases h),fun L L' v z e A n u b h=>(by cases h)⟩,⟨fun k j h=>(by cases h),fun k C j q h=>(by cases h)⟩,.refl _ _,⟨kG _,fun b d=>d⟩,⟨fun _ _=>rfl,.refl _,fun _ _=>rfl⟩,⟨a,fun b l d=>fD o d⟩,.refl _,fun k j L v e n b p=>(by cases p)⟩;show PW _ args us.toArray.toList;rw[acu];exact i
 refine Calls.mono (h _ ⟨G,fun _=>none,fun _=>none,G,fun _=>none⟩ w us rfl x) ?_;rintro e w' ⟨v,g',rfl,c,t⟩;exact⟨v,g'.G,rfl,⟨c.mh.below,fun b d=>c.ext.1 b (Nat.not_le.2 d),c.gok⟩,t⟩
theorem Inv.drop {B B2:Own} {G0:aW} {i:World} {s:St} {g:Gh} {a:Act} {w:World} (h:Inv E B G0 i s g a w) (d:B2.m=B.m) (j:B2.n=B.n): ∃g',g'.G=g.G∧Inv E B2 G0 i ⟨[],[]⟩ g' ⟨#[],B2.df⟩ w:=by refine⟨⟨g.G,fun _=>none,B2.β,g.G1,fun _=>none⟩,rfl,⟨.nil,rfl,h.gok,⟨fun L v e f hL=>(by cases hL),fun L L' v r e t f p b hL=>(by cases hL)⟩,⟨fun k l c=>(by cases c),fun k u l o c=>(by cases c)⟩,by rw[d];exact h.mh,by rw[d,j];exact h.hB,⟨fun b q=>h.ext.1 b (by rw[←d];exact q),h.ext.2.1,fun _ _=>rfl⟩,by rw[j];exact h.glob,h.g1,fun k l L v e f b c=>(by cases c)⟩⟩
theorem adM {s:St} {rs:List ResultVar} {p:Bool} {x:V} {bs:List (ah)} (h:rQ E.P s rs=some [.out p x bs]):uH (.out p x bs)=false:=by
 exfalso
 cases rs with
 |nil=>cases h
 |cons r rs=>
  simp only[rQ] at h;split at h
  ·cases h
  rename_i y a;split at h
  ·cases h
  simp only[aT,Qg] at h;obtain⟨rfl,_⟩:=h;have:=EN a;rcases this with h|⟨e,sh,o,xs,h⟩|⟨b,h⟩
  ·cases h
  ·cases h
  cases h
theorem VU {s:St} {rs:List ResultVar} {p:Bool} {x:V} (h:rQ E.P s rs=some [.keep p x]):uH (.keep p x)=false:=by
 exfalso
 cases rs with
 |nil=>cases h
 |cons r rs=>
  simp only[rQ] at h;split at h
  ·cases h
  rename_i y a;split at h
  ·cases h
  simp only[aT,Qg] at h;obtain⟨rfl,_⟩:=h;have:=EN a;rcases this with h|⟨e,sh,o,xs,h⟩|⟨b,h⟩
  ·cases h
  ·cases h
  cases h
def Xv (E:Env) (fn:Func) (s:St) (v:V):Prop:=
 ∀{B B2:Own} {G0:aW} {c:World} {g:Gh} {a:Act} {w:World},B2.m=B.m→B2.n=B.n→Inv E B G0 c s g a w→ ∃u b,(results fn a.tmps).run E.P w=.ok u w∧Inv E B2 G0 c ⟨[],[]⟩ b ⟨#[],B2.df⟩ w∧fQ b.G w B.m v u
theorem VW {fn:Func} {s:St} {vs:ah} (h:rQ E.P s fn.results.toList=some vs):Xv E fn s (QV vs):=by intro B B2 G0 m g a w k j c;obtain⟨us,i,d⟩:=q9 c _ _ h;have b:=ret_res c.own d;obtain⟨l,f,e⟩:=c.drop (B2:=B2) k j;rw[←f] at b;exact⟨_,l,nP i,e,b⟩
theorem kd_fits {v y:V} {k:Kd} (h:UE v=some k) (a:v.deep=some y):fits k y=true:=by
 cases v with
 |bool b=>simp only[UE,aT] at h;simp only[V.deep,aT] at a;subst h;subst a;rfl
 |int k n=>simp only[UE,aT] at h;simp only[V.deep,aT] at a;subst h;subst a;simp[fits]
 |str l=>simp only[UE,aT] at h;simp only[V.deep,aT] at a;subst h;subst a;rfl
 |sl e sh o xs=>simp only[UE] at h;obtain⟨d,c⟩:=aP h;simp only[V.deep,aT] at a;simp only[aT] at c;subst c;subst a;simp[fits,d]
 |_=>simp[UE] at h
theorem Rq: ∀{vs ys:ah} {ks:List Kd},Lp vs=some ks→V.x9 vs=some ys→bW ks ys=true
 |[],ys,ks,h,a=>by simp only[Lp,aT] at h;simp only[V.x9,aT] at a;subst h;subst a;rfl
 |v::l,ys,ks,h,a=>by
  simp only[Lp] at h;simp only[V.x9] at a;split at h
  ·rename_i k g e b
   split at a
   ·rename_i y d f c
    simp only[aT] at h a;subst h;subst a;simp only[bW,kd_fits e f,Rq b c];rfl
   cases a
  cases h
theorem X6 {s:St} {rs:List ResultVar} {v:V} (h:Hu s rs=some v): ∃t k cells sh b,rs=[.tmp t]∧slot s.fr t=.box k 0∧aK s.bx k=some cells∧Lp cells=some sh∧V.x9 cells=some b∧v=.rptr sh (.agg b) 0:=by
 unfold Hu at h;split at h
 ·rename_i t
  split at h
  ·rename_i k off c
   obtain⟨f,a⟩:=aP h;obtain rfl:off=0:=by simpa using f
   split at a
   ·rename_i cells g
    split at a
    ·rename_i sh e
     split at a
     ·rename_i b d
      simp only[aT] at a;exact⟨t,k,cells,sh,b,rfl,c,g,e,d,a.symm⟩
     cases a
    cases a
   cases a
  cases h
 cases h
theorem frz_out {s:St} {rs:List ResultVar} {v:V} (h:Hu s rs=some v):uH v=false:=by obtain⟨_,_,_,_,_,_,_,_,_,_,rfl⟩:=X6 h;rfl
theorem VX {fn:Func} {s:St} {v:V} (h:Hu s fn.results.toList=some v):Xv E fn s v:=by
 obtain⟨t,k,cells,sh,n,C,F,N,p,J,rfl⟩:=X6 h;intro B B2 G0 w0 g a w H hn o;have z:aU g (slot s.fr t) (a.tmps.getD t undef):=gD o.fr o.oZ (.tmp t);rw[F] at z;obtain⟨b,M,T⟩:=d9.1 z;obtain⟨b',c,e,q,D,Z,Y,ho,S,_⟩:=o.bxs.1 k cells N;rw[M] at q;simp only[aT] at q;subst q;have y:(fn.results.toList.mapM (zw a)).run E.P w=.ok [a.tmps.getD t undef] w:=by rw[C,acY];rfl
 have f:mg g.G (upd g.G b c.toList):=by
  intro j l d;have:j≠b:=fun e=>by rw[e,S] at d;cases d
  exact⟨l,by rw[gT _ _ _ _ this];exact d,Uh _⟩
 have m:=Rq p J;have r:PW (aV (upd g.G b c.toList)) n c.toList:=(IE cells n c.toList J Y).mono fun x _ u R=>iA f x u R
 obtain⟨U,X,i⟩:=o.drop (B2:=B2) H hn;refine⟨_,⟨upd g.G b c.toList,fun _=>none,B2.β,U.G1,fun _=>none⟩,nP y,?_,?_⟩
 ·refine⟨.nil,rfl,?_,⟨fun L v e I hL=>(by cases hL),fun L L' v v' e e' I Q b hL=>(by cases hL)⟩,⟨fun k n p=>(by cases p),fun k k' n O p=>(by cases p)⟩,i.mh,i.hB,⟨fun j d=>?_,?_,fun _ _=>rfl⟩,i.glob,i.g1,fun k n L v e I b p=>(by cases p)⟩
  ·intro j l d
   have d:upd g.G b c.toList j=some l:=d;by_cases A:j=b
   ·subst A
    rw[upd_same] at d;obtain rfl:=Option.some.inj d;exact⟨c,e,_,Z,abH⟩
   rw[gT _ _ _ _ A] at d;exact o.gok j l d
  ·have:j≠b:=fun A=>d (by rw[A,H];exact D)
   show upd g.G b c.toList j=_;rw[gT _ _ _ _ this];exact o.ext.1 j (by rw[←H];exact d)
  exact o.ext.2.1.trans f
 rw[show AU [a.tmps.getD t undef]=a.tmps.getD t undef from rfl,T];show aV (upd g.G b c.toList) (.rptr sh (.agg n) 0) _;unfold aV;refine⟨b,0,c.toList,rfl,upd_same _ _ _,m,.agg c,?_,?_⟩
 ·unfold aV
  exact⟨c.toList,by simp,(fe _ _).2 r⟩
 have W:=jA _ _ m;have K:n.length=c.toList.length:=r.1;rw[WX,W,K,abH];simp[Value.cells]
theorem lH {α:Type} {fn:Func} {args:ah} {K:V→Option α} {r:α} {e:Ex} {i:St} (o:Kv E.P fn args K e i=some r):
  ∃v,K v=some r∧((uH v=false∧handed args=false∧(e=.norm∨e=.ret)∧Xv E fn i v)∨
   (∃x bs,v=.out false x bs∧(e=.norm∨e=.ret)∧ ∀{B B2:Own} {G0:aW} {f:World} {g:Gh} {a:Act} {w:World},B2.m=B.m→B2.n=B.n→B2.df=[]→(∀a b,(a,b)∈jX 0 args→B2.β a=B.β a)→Inv E B G0 f i g a w→ ∃u g',(results fn a.tmps).run E.P w=.ok u w∧Inv E B2 G0 f ⟨[x],fK 0 args bs⟩ g' ⟨#[u],[]⟩ w)∨
   (∃x bs u,v=.out true x bs∧(∃y,e=.qi y∧dn y=some u)∧ ∀{B B2:Own} {G0:aW} {f:World} {g:Gh} {a:Act} {w:World},B2.m=B.m→B2.n=B.n→B2.df=[]→(∀a b,(a,b)∈jX 0 args→B2.β a=B.β a)→Inv E B G0 f i g a w→ ∃g',Inv E B2 G0 f ⟨[x],fK 0 args bs⟩ g' ⟨#[u],[]⟩ w)):=by
 have d:(e=.norm∨e=.ret)→(match rQ E.P i fn.results.toList with|some vs=>(bif handed args then qD false (Xu vs) i args K else K (QV vs))|none=>bif handed args then none else(match Hu i fn.results.toList with|some r=>K r|none=>none))=some r→
   ∃v,K v=some r∧((uH v=false∧handed args=false∧(e=.norm∨e=.ret)∧Xv E fn i v)∨
   (∃x bs,v=.out false x bs∧(e=.norm∨e=.ret)∧ ∀{B B2:Own} {G0:aW} {f:World} {g:Gh} {a:Act} {w:World},B2.m=B.m→B2.n=B.n→B2.df=[]→(∀a b,(a,b)∈jX 0 args→B2.β a=B.β a)→Inv E B G0 f i g a w→ ∃u g',(results fn a.tmps).run E.P w=.ok u w∧Inv E B2 G0 f ⟨[x],fK 0 args bs⟩ g' ⟨#[u],[]⟩ w)∨
   (∃x bs u,v=.out true x bs∧(∃y,e=.qi y∧dn y=some u)∧ ∀{B B2:Own} {G0:aW} {f:World} {g:Gh} {a:Act} {w:World},B2.m=B.m→B2.n=B.n→B2.df=[]→(∀a b,(a,b)∈jX 0 args→B2.β a=B.β a)→Inv E B G0 f i g a w→ ∃g',Inv E B2 G0 f ⟨[x],fK 0 args bs⟩ g' ⟨#[u],[]⟩ w)):=by
  intro p h;split at h
  ·rename_i vs c
   cases q:handed args with
   |false=>
    rw[q,jW] at h;refine⟨_,h,.inl ⟨?_,rfl,p,VW c⟩⟩
    cases vs with
    |nil=>rfl
    |cons v l=>cases l with
     |cons _ _=>rfl
     |nil=>
      have:nZ v=true:=by
       cases k:fn.results.toList with
       |nil=>rw[k] at c;cases c
       |cons x rs=>
        rw[k] at c;simp only[rQ] at c;split at c
        ·cases c
        rename_i y I;split at c
        ·cases c
        simp only[aT,Qg] at c;rw[←c.1];exact adJ I
      show uH v=false
      cases v with
      |out _ _ _=>exact adM c
      |keep _ _=>exact VU c
      |_=>rfl
   |true=>rw[q,lC] at h;obtain⟨x',bs,C,_,_,j⟩:=Gf (E:=E) h;refine⟨_,C,.inr (.inl ⟨x',bs,rfl,p,fun {B B2 G0 f g a w} m1 z A F t=>?_⟩)⟩;obtain⟨us,s,D⟩:=q9 t _ _ c;obtain⟨g',H⟩:=j m1 z A F t (adK D);exact⟨_,g',nP s,H⟩
  cases q:handed args with
  |true=>rw[q,lC] at h;cases h
  |false=>
   rw[q,jW] at h;split at h
   ·rename_i v G
    exact⟨v,h,.inl ⟨frz_out G,rfl,p,VX G⟩⟩
   cases h
 cases e with
 |norm=>exact d (.inl rfl) o
 |ret=>exact d (.inr rfl) o
 |exit id=>cases o
 |qi y=>
  have o:(match dn y with|some _=>qD true y i args K|none=>none)=some r:=o;split at o
  ·rename_i u s
   obtain⟨x',bs,C,J,_,j⟩:=Gf (E:=E) o;refine⟨_,C,.inr (.inr ⟨x',bs,u,rfl,⟨y,rfl,s⟩,fun {B B2 G0 f g a w} m1 z A F t=>j m1 z A F t (zU s).1⟩)⟩
  cases o
theorem Inv.redf {B:Own} {G0:aW} {b:World} {s:St} {g:Gh} {a:Act} {w:World} (h:Inv E B G0 b s g a w) (df:List Deferred):Inv E {B with df:=df} G0 b s g {a with defers:=df} w:=
 ⟨h.fr,rfl,h.gok,h.own,h.bxs,h.mh,h.hB,h.ext,h.glob,h.g1,h.zb⟩
theorem JJ {c a b:Code} {f e:Oper} (h:Ow c=some (a,f,e,b)): ∃id,c=.seq a (.seq (.region id #[f,e] false) b):=by
 unfold Ow at h;split at h
 ·rename_i x id ops y
  split at h
  ·rename_i p q d
   split at h
   ·simp only[aT,bP] at h
    obtain⟨rfl,rfl,rfl,rfl⟩:=h;have:ops= #[p,q]:=by rw[←Qu];simpa using d
    exact⟨id,by rw[this]⟩
   cases h
  cases h
 cases h
end
section
variable {E:Env}
theorem Bv {g:Gh} {β':Nat→Option Nat} {k a:Nat} (o:β' a=g.β k) (i: ∀j,j≠a→β' j=g.β j) {x:V} {v:Value} (m:tV a x=false) (h:bQ g x v):bQ {g with β:=β'} (rbV k a x) v:=by
 cases x with
 |box j off=>
  obtain⟨b,d,f⟩:=h;show bQ _ (bif j==k then .box a off else .box j off) v
  cases n:j==k with
  |true=>
   obtain rfl:j=k:=by simpa using n
   exact⟨b,o.trans d,f⟩
  |false=>
   have c:j≠a:=fun e=>by subst e;simp[tV] at m
   exact⟨b,(i j c).trans d,f⟩
 |sl e sh l xs=>cases l<;>exact h
 |eptr _ _ _ _ _ _=>exact h
 |_=>exact h
theorem VY {k a:Nat} {x:V} (h:x.single=true):(rbV k a x).single=true:=by
 cases x with
 |box j off=>show(bif j==k then V.box a off else .box j off).single=true;cases j==k<;>rfl
 |tup _=>cases h
 |fn _ _=>cases h
 |_=>rfl
theorem X7 {g:Gh} {β':Nat→Option Nat} {k i:Nat} (e:β' i=g.β k) (d: ∀j,j≠i→β' j=g.β j) {x:V} {v:Value} (b:x.gM i=false) (h:aU g x v):aU {g with β:=β'} (x.rb k i) v:=by
 cases x with
 |tup vs=>obtain⟨a,rfl,h⟩:=h;simp only[V.gM,abz] at b;exact⟨a,rfl,eu h fun y l v m=>Bv e d (by have:=b y l;simpa using this) m⟩
 |fn f c=>obtain⟨a,rfl,h⟩:=h;simp only[V.gM,abz] at b;exact⟨a,rfl,eu h fun y l v m=>Bv e d (by have:=b y l;simpa using this) m⟩
 |box j off=>exact bJ (VY (x:=.box j off) rfl) (Bv (x:=.box j off) e d b (bf (x:=.box j off) rfl h))
 |_=>simp only[aU,V.gM] at h b⊢;exact Bv e d b h
theorem sK {k g:Nat}: ∀(l:List (Nat×ah)),(∀p∈l,p.1≠g)→ ∀j m,aK (rbBx k g l) j=some m→ ∃d b,aK l d=some b∧m=b.map (V.rb k g)∧j=if d=k then g else d
 |[],_,j,m,h=>by cases h
 |(i,c)::l,o,j,m,h=>by
  have u:i≠g:=o (i,c) rf;unfold rbBx aK at h
  cases f:(bif i==k then g else i)==j with
  |true=>
   rw[f,lC] at h;simp only[aT] at h;refine⟨i,c,by unfold aK;rw[Qf,lC],h.symm,?_⟩;rw[iJ] at f;rw[←f];by_cases a:i=k
   ·subst a;rw[Qf,lC,if_pos rfl]
   have:(i==k)=false:=by simpa using a
   rw[this,jW,if_neg a]
  |false=>
   rw[f,jW] at h;obtain⟨d,b,t,s,q⟩:=sK l (fun p r=>o p (uO _ r)) j m h;refine⟨d,b,?_,s,q⟩;unfold aK;have n:i≠d:=by
    intro e;subst e;rw[uD] at f;apply f;rw[q];by_cases a:i=k
    ·subst a;rw[Qf,lC,if_pos rfl]
    have:(i==k)=false:=by simpa using a
    rw[this,jW,if_neg a]
   have:(i==d)=false:=by simpa using n
   rw[this,jW];exact t
theorem Inv.rb {B:Own} {G0:aW} {K:World} {s:St} {g:Gh} {a:Act} {w:World} (h:Inv E B G0 K s g a w) {k f:Nat} (y:s.mq f=true) (W:k≠f):
  Inv E {B with β:=fun j=>if j=f then g.β k else B.β j} G0 K (s.rb k f) {g with β:=fun j=>if j=f then g.β k else g.β j} a w:=by
 have J:(fun j=>if j=f then g.β k else g.β j) f=g.β k:=if_pos rfl;have H: ∀j,j≠f→(fun j=>if j=f then g.β k else g.β j) j=g.β j:=fun j o=>if_neg o
 have d: ∀p∈s.bx,p.1≠f:=fun p T e=>by unfold St.mq at y;rw[bF,lM,lM] at y;have:=y.2 p T;simp only[bF] at this;have:=fO this.1;rw[uD] at this;exact this e
 refine⟨eu h.fr fun x F v=>X7 J H (IP y x F),h.df,h.gok,h.own,⟨fun j u o=>?_,fun j N u C o A t=>?_⟩,h.mh,h.hB,⟨h.ext.1,h.ext.2.1,fun j o=>?_⟩,h.glob,h.g1,fun j u L v e U b o hL t hβ=>?_⟩
 ·obtain⟨i,m,q,rfl,rfl⟩:=sK s.bx d j u o
  obtain⟨b,c,e,I,V,O,Q,S,P,R⟩:=h.bxs.1 i m q;have n:i≠f:=d _ (jS _ _ _ q);refine⟨b,c,e,?_,V,O,eu Q fun x F v=>X7 J H ((IQ y i m q).2 x F),S,P,kP (rb_nilp _ _) R⟩;show(if(if i=k then f else i)=f then g.β k else g.β (if i=k then f else i))=some b;by_cases l:i=k
  ·subst l;simp[I]
  rw[if_neg l,if_neg n];exact I
 ·obtain⟨i,m,q,_,rfl⟩:=sK s.bx d j u o
  obtain⟨r,D,M,_,rfl⟩:=sK s.bx d N C A;have n:i≠f:=d _ (jS _ _ _ q);have z:r≠f:=d _ (jS _ _ _ M);have G: ∀j,j≠f→(if(if j=k then f else j)=f then g.β k else g.β (if j=k then f else j))=g.β j:=by
   intro j o;by_cases l:j=k
   ·subst l;simp
   rw[if_neg l,if_neg o]
  have t:(if(if i=k then f else i)=f then g.β k else g.β (if i=k then f else i))=(if(if r=k then f else r)=f then g.β k else g.β (if r=k then f else r)):=t;rw[G i n,G r z] at t;rw[h.bxs.2 i r m D q M t]
 ·show(if j=f then g.β k else g.β j)=(if j=f then g.β k else B.β j)
  split
  ·rfl
  exact h.ext.2.2 j o
 obtain⟨i,m,q,_,rfl⟩:=sK s.bx d j u o;have n:i≠f:=d _ (jS _ _ _ q);have hβ:(if(if i=k then f else i)=f then g.β k else g.β (if i=k then f else i))=some b:=hβ;refine h.zb i m L v e U b q hL t ?_;by_cases l:i=k
 ·subst l;simpa using hβ
 rw[if_neg l,if_neg n] at hβ;exact hβ
theorem Rs {G0:aW} {A:World} {a:Act} {w:World}: ∀(c:ah) (j:Nat) (B:Own) (s e:St) (g:Gh) (p:List Value),Inv E B G0 A s g a w→qH j c s=some e→PW (bQ g) c p→
  ∃B' g',B'.m=B.m∧B'.n=B.n∧B'.df=B.df∧(∀k,k<HL+5000+j→B'.β k=B.β k)∧(∀i v,p[i]? =some v→ ∃b,B'.β (HL+5000+j+i)=some b∧v=.pointer (some ⟨b,0,none⟩))∧Inv E B' G0 A e g' a w
 |[],j,B,s,e,g,p,h,d,f=>by simp only[qH,aT] at d;subst d;rw[f.cO];exact⟨B,g,rfl,rfl,rfl,fun _ _=>rfl,fun i v o=>by simp at o,h⟩
 |x::c,j,B,s,e,g,p,h,d,f=>by
  cases x with
  |box k off=>
   cases off with
   |succ n=>cases d
   |zero=>
   unfold qH at d;obtain⟨l,d⟩:=aP d;rw[bF] at l;have H:=ko l.2;obtain⟨v,t,rfl,⟨b,r,o⟩,J⟩:=f.cons_inv;have L:k≠HL+5000+j:=by omega
   have y:=h.rb l.1 L;have z:PW (bQ {g with β:=fun i=>if i=HL+5000+j then g.β k else g.β i}) c t:=by
    refine caps_pw (s:=s.rb k (HL+5000+j)) c (j+1) d J fun i O=>?_
    show(if i=HL+5000+j then g.β k else g.β i)=g.β i;rw[if_neg (by omega)]
   obtain⟨B',g',m1,F,I,C,N,D⟩:=Rs c (j+1) _ _ e _ t y d z;refine⟨B',g',m1,F,I,fun i O=>?_,fun i u q=>?_,D⟩
   ·rw[C i (by omega)]
    show(if i=HL+5000+j then g.β k else B.β i)=B.β i;rw[if_neg (by omega)]
   cases i with
   |zero=>simp only[Nh,aT] at q;subst q;refine⟨b,?_,o⟩;rw[WY,C (HL+5000+j) (by omega)];show(if HL+5000+j=HL+5000+j then g.β k else _)=some b;rw[if_pos rfl];exact r
   |succ i=>simp only[abF] at q;obtain⟨K,M,Q⟩:=N i u q;exact⟨K,by rw[←M];congr 1;omega,Q⟩
  |_=>cases d
where
 caps_pw {g:Gh} {β':Nat→Option Nat} {s e:St}: ∀(c:ah) (j:Nat),qH j c s=some e→ ∀{t:List Value},PW (bQ g) c t→(∀i,i<HL→β' i=g.β i)→PW (bQ {g with β:=β'}) c t:=by
  intro c;induction c generalizing s with
  |nil=>intro j _ t f _;rw[f.cO];exact .nil
  |cons x c P=>
   intro j d t f hβ;obtain⟨v,t,rfl,y,G⟩:=f.cons_inv
   cases x with
   |box k off=>
    cases off with
    |succ n=>cases d
    |zero=>unfold qH at d;obtain⟨l,d⟩:=aP d;rw[bF] at l;obtain⟨b,r,o⟩:=y;exact .cons ⟨b,(hβ k (ko l.2)).trans r,o⟩ (P (j+1) d G hβ)
   |_=>cases d
theorem JK {g:Gh}: ∀(a:ah) (j:Nat) (c:List Value),a.length=c.length→(∀i v,c[i]? =some v→ ∃b,g.β (HL+5000+j+i)=some b∧v=.pointer (some ⟨b,0,none⟩))→PW (Ny g) (kU j a) c
 |[],j,c,d,_=>by have:c=[]:=Zw d.symm;rw[this];exact .nil
 |x::a,j,[],d,_=>by simp at d
 |x::a,j,v::c,d,h=>by unfold kU;obtain⟨b,l,e⟩:=h 0 v rfl;refine .cons (.inr ⟨b,by simpa using l,e⟩) (JK a (j+1) c (by simpa using d) fun i u f=>?_);obtain⟨k,m,n⟩:=h (i+1) u (by simpa using f);exact⟨k,by rw[←m];congr 1;omega,n⟩
theorem X8: ∀(args:ah) (j:Nat) {a b:Nat},(a,b)∈jX j args→a<HL+j+args.length
 |[],j,a,b,h=>by cases h
 |x::args,j,a,b,h=>by
  have c:(a,b)∈jX (j+1) args→a<HL+j+(x::args).length:=fun h=>by have:=X8 args (j+1) h;rw[dN];omega
  cases x with
  |bxa off d=>
   unfold jX at h;rcases List.mem_cons.1 h with h|h
   ·simp only[bP] at h
    obtain⟨rfl,rfl⟩:=h;rw[dN];omega
   exact c h
  |_=>exact c h
theorem PZ (hE:uQ E) {id:Nat} (b:jY E.P id=true) (args:Array Value) (w:World):(callFunc id args).run E.P w=.ok (.enter id args) w:=by
 unfold jY at b;split at b
 ·rename_i fn c
  have a:fn.name≠ "runtime.NumGoroutine" :=by
   have:=Array.all_eq_true_iff_forall_mem.1 hE.names fn (abU c);have d:fn.body.isNone=false:=by cases f:fn.body with|none=>rw[f] at b;cases b|some _=>rfl
   rw[d] at this;simpa using this
  obtain⟨bd,e⟩:=Option.isSome_iff_exists.1 b;simp[callFunc,c,a,e]
 ·cases b
theorem nK {args:ah} (c:handed args=false):bU 0 args=args∧dU 0 args=[]:=by
 have: ∀(l:ah) (j:Nat),handed l=false→bU j l=l∧dU j l=[]:=by
  intro l;induction l with
  |nil=>intro j _;exact⟨rfl,rfl⟩
  |cons x l a=>
   intro j h;unfold handed at h;rw[abM,Fz] at h;obtain⟨d,b⟩:=a (j+1) h.2
   cases x with
   |bxa off e=>cases h.1
   |_=>exact⟨by unfold bU;rw[d];rfl,b⟩
 exact this args 0 c
def DfEnd (E:Env) (fn:Func) (gf:Nat) (d args:ah) (B:Own) (g:Gh) (R:Ending→World→Prop) (f:Ex) (l:St) (w:World):Prop:=
 ∃(rec:V) (k:ah) (mb ml:List (Nat×Nat)) (Φ:V→List (ah)→Prop),((rec=.nilif∧(f=.norm∨f=.ret))∨ ∃u,f=.qi rec∧dn rec=some u)∧
  o9 l.bx 0 (kU 0 d)=some (k,mb,ml)∧o8 mb ml=true∧jY E.P gf=true∧DC E gf k rec Φ∧ ∀h c,Φ h c→ ∃j,pz l none mb ml h c=some j∧
  ∀B4 o i e,B.m=B4.m→B.n=B4.n→(∀a b,(a,b)∈jX 0 args→B.β a=B4.β a)→Inv E B4 g.G w j o i e→ ∃v,(results fn i.tmps).run E.P e=.ok v e∧R (.returned v) e
theorem vU (hE:uQ E) {α:Type} {call:Caller α} (ih:lS E call) {fuel f:Nat} {fn:Func} {cA cB:Code} {id:Nat} {n p:Oper} {cl:Call} {t gf:Nat} {first ccaps:Array Operand} {c args:ah}
  (hfn:E.P.funcs[f]? =some fn) (hb:fn.body=some (.seq cA (.seq (.region id #[n,p] false) cB))) (hg1:n.guard=none) (hd1:n.dst=some t) (S:p.op=.defer cl) (hg2:p.guard=none) (hd2:p.dst=none)
  (z:cl.callee=.value (.tmp t)) (k:cl.args.toList=[]) {s1 s2:St}
  (hl1:Leads E cA ⟨Ba fn (bU 0 args),dU 0 args⟩ .norm s1) (hopr:Kh E s1.fr s1.bx n=some (true,.val (.fn gf c))) (htl:t<s1.fr.length) (hal:args.length<5000) (M:Nat.blt gf yX=true)
  (Z:qH 0 c (s1.put (some t) (.fn gf c))=some s2)
  {B:Own} {g:Gh} {w:World} {us:List Value} {R:Ending→World→Prop} (hdf:B.df=[]) (hi:Inv E B g.G w ⟨bU 0 args,dU 0 args⟩ g ⟨us.toArray,[]⟩ w)
  (hl3: ∀(B2:Own) (G0:aW) (w0:World) (g5:Gh) (a5:Act) (x:World),Inv E B2 G0 w0 s2 g5 a5 x→ ∀Q:Exit→Act→World→Prop,(∀e3 s3 g' a' w',DfEnd E fn gf c args B g R e3 s3 w→Inv E B2 G0 w0 s3 g' a' w'→Q (UG e3) a' w')→cB.wp E.P Q a5 x):Calls E.P f us.toArray w R:=by
 refine calls_of_wp_defers hfn hb ?_;refine wp_seq (hl1 B g.G w g _ w (mM (fn:=fn) hi) _ fun g1 s x d=>?_);refine wp_seq (wp_region ?_);have K:List.range (#[n,p]:Array Oper).size=[0,1]:=rfl;rw[K];have hdo:=mI (ac:=s) (B:=B) (w:=x) (g:=g1) (o:=n) hE rfl d.gok d.own d.bxs d.hB d.m1 (fun y=>gD d.fr d.oZ y) hopr;obtain⟨fv,A,hfv⟩:=hdo;obtain⟨j,r,I⟩:=hfv;rw[Bb M] at r;subst r;have hi2:=d.put (some t) (v:=.fn gf c) (u:=.func (.func gf) #[] j.toArray) ⟨j,(Bb M).symm,I⟩;obtain⟨B',g',m1,m2,m3,m4,m5,hi2'⟩:=Rs c 0 B _ s2 g1 j hi2 Z I;unfold wpOps;simp only[acg,Nh];have hw1: ∀y,Region.wanted n y=true:=fun y=>by unfold Region.wanted;rw[hg1]
 have hw2: ∀y,Region.wanted p y=true:=fun y=>by unfold Region.wanted;rw[hg2]
 rw[if_pos (hw1 _)];refine .inl ?_;unfold Oper.wp;rw[A];show wpOps E.P #[n,p] _ [1] (s.put n.dst _) x;rw[hd1];unfold wpOps;simp only[acg,abF,Nh];rw[if_pos (hw2 _)];refine .inl ?_;unfold Oper.wp;have htm:(Act.put s (some t) (.func (.func gf) #[] j.toArray)).eval (.tmp t)=.func (.func gf) #[] j.toArray:=by
  have N:t<s.tmps.size:=by have:=d.fr.1;rw[Km] at this;omega
  show(s.tmps.setIfInBounds t _).getD t undef=_;simp[Array.getD,N]
 have C:(execOp (Act.put s (some t) (.func (.func gf) #[] j.toArray)).eval p).run E.P x=.ok (.defer {target:=.fn (.func gf) j.toArray,args:= #[]}) x:=by
  obtain⟨callee,F,cts⟩:=cl;simp only at z k;subst z;obtain rfl:F= #[]:=by rw[←Qu];simpa using k
  simp only[execOp,S,resolve,Deferred.ofValue,htm];simp
 rw[C];rw[Oper.upon_defer,hd2];unfold wpOps;have hdf1:s.defers=[]:=d.df.trans hdf;have l:=hi2'.redf [{target:=.fn (.func gf) j.toArray,args:= #[]}];have e1:(Act.put s (some t) (.func (.func gf) #[] j.toArray)).defers=[]:=hdf1;rw[e1];refine hl3 _ g.G w _ _ x l _ fun e3 s3 g3 L T hP l=>?_
 obtain⟨rec,as,mb,ml,Φ,O,m,X,hbg,hDC,W⟩:=hP;have h: ∀u,X5 rec u→Leaves E.P fn L.tmps R L.defers u T:=by
  intro u hu;have hd3:L.defers=[{target:=.fn (.func gf) j.toArray,args:= #[]}]:=l.df;rw[hd3];have hcv:PW (Ny g3) (kU 0 c) j:=JK c 0 j I.1 fun i v hv=>by obtain⟨b,q1,q2⟩:=m5 i v hv;exact⟨b,by rw[l.ext.2.2 _ (by omega)];exact q1,q2⟩
  have Y:=p8 l hcv m X;have hrun:u≠.run:=by
   rcases hu with⟨_,rfl⟩|⟨q,_,rfl⟩
   ·intro e;cases e
   intro e;cases e
  refine leaves_cons (f:=gf) (args:=j.toArray) hrun ?_ ?_
  ·show(callFunc gf (#[]++j.toArray)).run E.P T=_
   rw[PZ hE hbg];simp
  refine CallsD.mono (hDC (yu g3 T mb ml) (qF g3 mb ml) T j rfl Y u hu) ?_;rintro e u' w4 ⟨x0,bs0,g4,v4,hΦ,⟨v',rfl⟩,U,hx⟩;obtain⟨s4,J,hfin⟩:=W x0 bs0 hΦ;obtain⟨g5,h5⟩:=DI l m X J hx;have D: ∀a b,(a,b)∈jX 0 args→B.β a=B'.β a:=fun a b hab=>by have h6:=X8 args 0 hab;exact(m4 a (by generalize HL=H at*;omega)).symm
  obtain⟨v,hv1,hv2⟩:=hfin {B' with df:=[{target:=.fn (.func gf) j.toArray,args:= #[]}]} g5 L w4 m1.symm m2.symm D h5;show Leaves E.P fn L.tmps R [] (settle u') w4;rw[U];exact⟨v,hv1,hv2⟩
 rcases O with⟨rfl,hee⟩|⟨u,rfl,hu⟩
 ·rcases hee with rfl|rfl
  ·exact h .returning (.inl ⟨rfl,rfl⟩)
  exact h .returning (.inl ⟨rfl,rfl⟩)
 show bodyPostD E.P fn R (.panic [{v:=(dn rec).getD undef,recovered:=false}]) L T;rw[hu];exact h _ (.inr ⟨u,hu,rfl⟩)
theorem Rt (hE:uQ E) {α:Type} {call:Caller α} (ih:lS E call) (fuel:Nat):lS E (Hw false E call fuel):=by
 intro f args K r h;unfold Hw at h;split at h
 ·cases h
 rename_i fn H;split at h
 ·rename_i c X hb p
  have ha:=p;rw[Bu p] at h ha;clear p X;split at h
  ·
   obtain⟨e,s',he,hl⟩:=jv hE ih _ rfl fuel c _ _ r h;rw[Gc] at he;obtain⟨v,hK,hv⟩:=lH he;refine⟨v,hK,?_⟩;rcases hv with⟨ho,hh,D,A⟩|⟨x,bs,rfl,D,k⟩|⟨x,bs,u,rfl,⟨y,rfl,hu⟩,k⟩
   ·refine .inl ⟨ho,jL ha hh fun B g w us b L=>calls_of_wp H hb ?_⟩
    have hst:=mM (fn:=fn) L;rw[(nK hh).1,(nK hh).2] at hl;refine hl B g.G w g _ w hst _ fun g' a' w' i=>?_
    obtain⟨u,J,d,z,o⟩:=A (B2:=B) rfl rfl i;have j:=i.df.trans b;rw[b] at z;rcases D with rfl|rfl
    ·exact⟨j,_,d,_,J,rfl,z,o⟩
    exact⟨j,_,d,_,J,rfl,z,o⟩
   ·refine .inr (.inl ⟨false,x,bs,rfl,fun B g w us b L=>calls_of_wp H hb ?_⟩)
    refine hl B g.G w g _ w (mM (fn:=fn) L) _ fun g' a' w' i=>?_
    obtain⟨u,J,d,h2⟩:=k rfl rfl b (fun _ _ _=>rfl) i;have j:=i.df.trans b;rcases D with rfl|rfl
    ·exact⟨j,_,d,J,_,rfl,h2⟩
    exact⟨j,_,d,J,_,rfl,h2⟩
   refine .inr (.inl ⟨true,x,bs,rfl,fun B g w us b L=>calls_of_wp H hb ?_⟩);refine hl B g.G w g _ w (mM (fn:=fn) L) _ fun g' a' w' i=>?_
   obtain⟨J,h2⟩:=k rfl rfl b (fun _ _ _=>rfl) i;have j:=i.df.trans b;show bodyPost E.P fn _ (.panic [{v:=(dn y).getD undef,recovered:=false}]) a' w';rw[hu];exact⟨j,J,_,rfl,h2⟩
  ·
   rename_i cA o1 o2 cB N;obtain⟨id,rfl⟩:=JJ N;split at h
   ·rename_i gf first ccaps t cl hop1 hg1 hd1 R hg2 hd2
    split at h
    ·rename_i t' U q
     have Z:=aP h;obtain⟨Y,h9⟩:=Z;clear h;have Y:t=t':=by simpa using Y
     subst Y;obtain⟨e1,s1,l,hl1⟩:=jv hE ih _ rfl fuel cA _ _ r h9
     cases e1 with
     |exit id=>cases l
     |ret=>cases l
     |qi v=>cases l
     |norm=>
     simp only at l;split at l
     ·rename_i g' V T
      obtain⟨hc1,he2⟩:=aP l;clear l;rw[bF,bF] at hc1;obtain⟨⟨hgg,M⟩,m⟩:=hc1;obtain⟨m,W⟩:=Bool.and_eq_true_iff.1 m;have hgg:g'=gf:=by simpa using hgg
      subst hgg;have M:=ko M;obtain⟨m,W⟩:=Bool.and_eq_true_iff.1 m;have m:=ko m;split at he2
      ·rename_i s2 S
       obtain⟨e3,s3,n,hl3⟩:=jv hE ih _ rfl fuel cB _ _ r he2;have s: ∃rec,dfK false E call fuel fn g' (kU 0 V) (qE args) K rec s3=some r∧((rec=.nilif∧(e3=.norm∨e3=.ret))∨ ∃u,e3=.qi rec∧dn rec=some u):=by
        cases e3 with
        |norm=>exact⟨.nilif,n,.inl ⟨rfl,.inl rfl⟩⟩
        |ret=>exact⟨.nilif,n,.inl ⟨rfl,.inr rfl⟩⟩
        |exit id=>cases n
        |qi v=>
         have n:(match dn v with|some _=>dfK false E call fuel fn g' (kU 0 V) (qE args) K v s3|none=>none)=some r:=n;split at n
         ·rename_i u hu;exact⟨v,n,.inr ⟨u,rfl,hu⟩⟩
         cases n
       obtain⟨rec,s,O⟩:=s;unfold dfK at s;split at s
       ·rename_i as mb ml C
        obtain⟨hnh,hdk2⟩:=aP s;obtain⟨hbg,x0,bs0,I,hDC⟩:=adL hE ih hdk2;simp only at I;split at I
        ·rename_i s4 F
         rw[Gc] at I;obtain⟨v,hK,hv⟩:=lH I;refine⟨v,hK,?_⟩;rcases hv with⟨ho,hh,D,A⟩|⟨x,bs,rfl,D,k⟩|⟨x,bs,u,rfl,⟨y,hy,hu⟩,k⟩
         ·refine .inl ⟨ho,jL ha hh fun B g w us b L=>?_⟩
          have hi0:Inv E B g.G w ⟨bU 0 args,dU 0 args⟩ g ⟨us.toArray,[]⟩ w:=by rw[(nK hh).1,(nK hh).2];exact L
          refine vU hE ih H hb hg1 hd1 R hg2 hd2 U q hl1 T M m W S (fuel:=fuel) (first:=first) (ccaps:=ccaps) b hi0 fun B2 G0 w0 g5 a5 w5 hi5 Q hq=>hl3 B2 G0 w0 g5 a5 w5 hi5 Q fun g' a' w' i=>hq e3 s3 g' a' w' ⟨rec,as,mb,ml,_,O,C,hnh,hbg,hDC,fun _ _ hΦ=>⟨s4,by rw[hΦ.1,hΦ.2];exact F,fun B4 g4 a4 w4 q1 q2 q3 hi4=>?_⟩⟩ i
          obtain⟨u,J,d,z,o⟩:=A (B2:=B) q1 q2 hi4;rw[b] at z;rw[←q1] at o;exact⟨_,d,_,J,rfl,z,o⟩
         ·refine .inr (.inl ⟨false,x,bs,rfl,fun B g w us b L=>?_⟩)
          refine vU hE ih H hb hg1 hd1 R hg2 hd2 U q hl1 T M m W S (fuel:=fuel) (first:=first) (ccaps:=ccaps) b L fun B2 G0 w0 g5 a5 w5 hi5 Q hq=>hl3 B2 G0 w0 g5 a5 w5 hi5 Q fun g' a' w' i=>hq e3 s3 g' a' w' ⟨rec,as,mb,ml,_,O,C,hnh,hbg,hDC,fun _ _ hΦ=>⟨s4,by rw[hΦ.1,hΦ.2];exact F,fun B4 g4 a4 w4 q1 q2 q3 hi4=>?_⟩⟩ i
          obtain⟨u,J,d,h2⟩:=k q1 q2 b q3 hi4;exact⟨_,d,J,_,rfl,h2⟩
         cases hy
        cases I
       cases s
      cases he2
     cases l
    cases h
   cases h
 cases h
def pG:V→V
 | .oq b x y=>match b with|true=>pG x|false=>pG y
 |v=>v
theorem xG {α:Type} {K:V→Option α} {r:α}: ∀v:V,FK K v=some r→K (pG v)=some r
 | .oq b x y,h=>by
  unfold FK at h;unfold pG;rcases lY h with⟨rfl,h⟩|⟨rfl,h⟩
  ·exact xG x h
  exact xG y h
 | .any,h=>h
 | .bool _,h=>h
 | .int _ _,h=>h
 | .str _,h=>h
 | .agg _,h=>h
 | .tup _,h=>h
 | .nilsl,h=>h
 | .sl _ _ _ _,h=>h
 | .rptr _ _ _,h=>h
 | .box _ _,h=>h
 | .eptr _ _ _ _ _ _,h=>h
 | .fn _ _,h=>h
 | .nilif,h=>h
 | .nilp,h=>h
 | .iface _ _,h=>h
 | .bxa _ _,h=>h
 | .out _ _ _,h=>h
 | .old _,h=>h
 | .slz _ _ _ _ _ _ _ _ _ _,h=>h
 | .epz _ _ _ _ _,h=>h
 | .keep _ _,h=>h
def SpecOk (E:Env) (f:Nat) (args:ah) (r:V):Prop:=(f<GX→aj E f args r)∧(GX≤f→ ∀p x bs,pG r=.out p x bs→XC E (f-GX) args p x bs)∧(KX≤f→ ∀p x,pG r=.keep p x→KC E (f-KX) args p x)
def aZ (E:Env) (S:List (Nat×aD)):Prop:=∀f a,gH S f=some a→ ∀args r,a args=some (true,r)→SpecOk E f args r
theorem aZ.nil:aZ E []:=fun f a h=>by cases h
theorem aZ.consG {S:List (Nat×aD)} {f:Nat} {d:aD} (h: ∀args r,d args=some (true,r)→SpecOk E f args r) (i:aZ E S):aZ E ((f,d)::S):=by
 intro g c a args r e;unfold gH at a
 cases b:f==g with
 |true=>
  rw[b,lC] at a;simp only[aT] at a;subst a;have:f=g:=by simpa using b
  subst this;exact h args r e
 |false=>rw[b,jW] at a;exact i g c a args r e
theorem aZ.cons {S:List (Nat×aD)} {f:Nat} {c:aD} (h: ∀args r,c args=some (true,r)→aj E f args r) (d:aZ E S) (b:Nat.blt f GX=true:=by rfl):aZ E ((f,c)::S):=
 aZ.consG (fun args r e=>⟨fun _=>h args r e,fun a=>absurd (ko b) (Nat.not_lt.2 a),fun a=>absurd (ko b) (Nat.not_lt.2 (FZ (show GX≤KX by decide) a))⟩) d
theorem aZ.ny {S:List (Nat×aD)} {f:Nat} {b:aD} (h: ∀args r,b args=some (true,r)→ ∀p x bs,pG r=.out p x bs→XC E f args p x bs) (c:aZ E S) (a:Nat.blt f GX=true:=by rfl):aZ E ((GX+f,b)::S):=
 aZ.consG (fun args r d=>⟨fun a=>absurd a (by omega),fun _ p x bs g=>by rw[show GX+f-GX=f by omega];exact h args r d p x bs g,fun e=>absurd e (by have:=ko a;unfold GX KX at*;omega)⟩) c
theorem aZ.consK {S:List (Nat×aD)} {f:Nat} {b:aD} (h: ∀args r,b args=some (true,r)→ ∃p x,pG r=.keep p x∧KC E f args p x) (i:aZ E S):aZ E ((KX+f,b)::S):=
 aZ.consG (fun args r g=>by
  obtain⟨j,x',c,e⟩:=h args r g;refine⟨fun d=>absurd d (by unfold GX KX;omega),fun _ p x bs a=>?_,fun _ p x a=>?_⟩
  ·rw[c] at a;cases a
  rw[c] at a;cases a;rw[show KX+f-KX=f by omega];exact e) i
theorem X9 {g:Gh} {x:V} {v:Value} (h:aU g x v):aU g x.xW v:=by
 cases x with
 |sl e sh o xs=>exact cK rfl (xA (o:=o) (lg h))
 |old y=>
  show aU g (bif y.fJ then y else .any) v
  cases y.fJ
  ·exact jr
  exact cK h.2.2 h.2.1
 |_=>exact h
theorem vV: ∀(l:ah) (j:Nat),iN l=false→bU j l=l∧dU j l=[]∧ ∀bs,fK j l bs=[]
 |[],_,_=>⟨rfl,rfl,fun _=>rfl⟩
 |x::l,j,h=>by
  unfold iN at h;rw[abM,Fz] at h;obtain⟨b,a,c⟩:=vV l (j+1) h.2
  cases x with
  |bxa off d=>cases h.1
  |_=>exact⟨by unfold bU;rw[b];rfl,a,fun bs=>c bs⟩
theorem JL (l:ah):iN (l.map V.xW)=iN l:=by
 unfold iN;rw[List.any_map];congr 1;funext x
 cases x with
 |old y=>
  show(bif y.fJ then y else .any).AQ=false
  cases y with
  |sl e sh o xs=>cases o<;>rfl
  |_=>rfl
 |_=>rfl
theorem xc_unl {f:Nat} {args:ah} {p:Bool} {x:V} {bs:List (ah)} (d:iN args=false) (h:XC E f (args.map V.xW) p x bs):XC E f args p x bs:=by
 obtain⟨q,i,j⟩:=vV args 0 d;obtain⟨e,m,n⟩:=vV (args.map V.xW) 0 (by rw[JL];exact d);intro B g w vs b a;rw[q,i] at a;have c:Inv E B g.G w ⟨bU 0 (args.map V.xW),dU 0 (args.map V.xW)⟩ g ⟨vs.toArray,[]⟩ w:=by rw[e,m];exact a.less (eu a.fr fun y _ v o=>X9 o) (fun k r l=>l)
 have:=h B g w vs b c;rw[n] at this;rw[j];exact this
theorem Cc {f:Nat} {args:ah} {r:V} (h:aj E f (args.map V.xW) r):aj E f args r:=by
 intro G w vs d a c;refine h G w vs d a (eu c fun y _ v b=>?_)
 cases y with
 |sl e sh o xs=>exact xA (o:=o) b
 |old y=>unfold aV at b;exact b.elim
 |_=>exact b
theorem unl_unl (args:ah):(args.map V.xW).map V.xW=args.map V.xW:=by
 rw[F3];refine abf fun x _=>?_
 cases x with
 |old y=>
  show(bif y.fJ then y else .any).xW=(bif y.fJ then y else .any)
  cases y with
  |sl e sh o xs=>cases o<;>rfl
  |_=>rfl
 |_=>rfl
theorem kc_unl {f:Nat} {args:ah} {p:Bool} {x:V} (d:iN args=false) (h:KC E f (args.map V.xW) p x):KC E f args p x:=by
 obtain⟨n,i,o⟩:=vV args 0 d;obtain⟨e,l,q⟩:=vV (args.map V.xW) 0 (by rw[JL];exact d);intro B g w vs b a;rw[n,i] at a;have c:Inv E B g.G w ⟨bU 0 (args.map V.xW),dU 0 (args.map V.xW)⟩ g ⟨vs.toArray,[]⟩ w:=by rw[e,l];exact a.less (eu a.fr fun y _ v m=>X9 m) (fun k r j=>j)
 exact h B g w vs b c
theorem IX (hE:uQ E) {S:List (Nat×aD)} (u:aZ E S) (fuel:Nat) {α:Type}: ∀d,lS E (bC (α:=α) E S fuel d):=by
 have i: ∀f a,gH S (KX+f)=some a→ ∀args (K:V→Option α) r,(match a args with|some (c,r)=>sel c (FK (fun v=>match v with| .keep p x=>K (.keep p x)|_=>none) r) none|none=>none)=some r→ ∃v,K v=some r∧FOk E f args v:=by
  intro f a b args K r h;split at h
  ·rename_i c v e
   rcases lY h with⟨rfl,h⟩|⟨_,h⟩
   ·have j:=xG v h
    split at j
    ·rename_i p x m
     have:=(u _ a b args v e).2.2 (by omega) p x m;rw[show KX+f-KX=f by omega] at this;exact⟨_,j,.inr (.inr ⟨p,x,rfl,this⟩)⟩
    cases j
   cases h
  cases h
 have k: ∀f a,gH S (GX+f)=some a→ ∀args (K:V→Option α) r,(match a args with|some (c,r)=>sel c (FK (fun v=>match v with| .out p x bs=>K (.out p x bs)|_=>none) r) none|none=>none)=some r→ ∃v,K v=some r∧FOk E f args v:=by
  intro f a b args K r h;split at h
  ·rename_i c v e
   rcases lY h with⟨rfl,h⟩|⟨_,h⟩
   ·have j:=xG v h
    split at j
    ·rename_i p x bs m
     have:=(u _ a b args v e).2.1 (by omega) p x bs m;rw[show GX+f-GX=f by omega] at this;exact⟨_,j,.inr (.inl ⟨p,x,bs,rfl,this⟩)⟩
    cases j
   cases h
  cases h
 have l: ∀f a,gH S f=some a→f<GX→ ∀args (K:V→Option α) r,(match a (args.map V.xW) with|some (c,r)=>sel c (match r with| .out _ _ _=>none| .keep _ _=>none|r=>K r) none|none=>none)=some r→ ∃v,K v=some r∧FOk E f args v:=by
  intro f a b g args K r h;split at h
  ·rename_i c v e
   rcases lY h with⟨rfl,h⟩|⟨_,h⟩
   ·have q:=(u _ a b _ v e).1 g
    split at h
    ·cases h
    ·cases h
    rename_i s n;refine⟨v,h,.inl ⟨?_,q⟩⟩
    cases v<;>first|rfl|exact absurd rfl (s _ _ _)|exact absurd rfl (n _ _)
   cases h
  cases h
 have one: ∀(f:Nat) (args:ah) (K:V→Option α) (r:α) (X:Option α),(X=some r→ ∃v,K v=some r∧FOk E f args v)→(match gH S (KX+f) with
  |some a=>match a args with|some (c,r)=>sel c (FK (fun v=>match v with| .keep p x=>K (.keep p x)|_=>none) r) none|none=>none
  |none=>match gH S (GX+f) with
  |some a=>match a args with|some (c,r)=>sel c (FK (fun v=>match v with| .out p x bs=>K (.out p x bs)|_=>none) r) none|none=>none
  |none=>bif Nat.blt f GX then(match gH S f with
   |some a=>match a (args.map V.xW) with|some (c,r)=>sel c (match r with| .out _ _ _=>none| .keep _ _=>none|r=>K r) none|none=>none
   |none=>X) else none)=some r→ ∃v,K v=some r∧FOk E f args v:=by
  intro f args K r X w h;split at h
  ·rename_i a b;exact i f a b args K r h
  split at h
  ·rename_i a b;exact k f a b args K r h
  obtain⟨g,h⟩:=aP h;split at h
  ·rename_i a b;exact l f a b (ko g) args K r h
  exact w h
 intro d;induction d with
 |zero=>intro f args K r h;exact one f args K r none (fun h=>by cases h) h
 |succ d A=>
  intro f args K r h;refine one f args K r _ (fun h=>?_) h;obtain⟨v,y,e⟩:=Rt hE A fuel f _ K r h;refine⟨v,y,?_⟩
  cases o:iN args with
  |true=>rw[o,lC] at e;exact e
  |false=>
   rw[o,jW] at e;rcases e with⟨z,q⟩|⟨p,x,bs,rfl,t⟩|⟨p,x,rfl,t⟩
   ·rw[unl_unl] at q;exact .inl ⟨z,q⟩
   ·exact .inr (.inl ⟨p,x,bs,rfl,xc_unl o t⟩)
   exact .inr (.inr ⟨p,x,rfl,kc_unl o t⟩)
theorem U7 (hE:uQ E) {call:Caller V} (ih:lS E call) (fuel:Nat) {f:Nat} {args:ah} {r:V} (h:bE E call fuel f args some=some r):FOk E f args r:=by
 have low:Hw false E call fuel f args some=some r→FOk E f args r:=fun h=>by obtain⟨v,s,Y⟩:=Rt hE ih fuel f args some r h;simp only[aT] at s;subst s;exact Y
 unfold bE at h;by_cases hh:handed args=false;rotate_left
 ·have hh:handed args=true:=by simpa using hh
  refine low ?_;unfold Hw at h⊢
  cases A:E.P.funcs[f]? with
  |none=>rw[A] at h;cases h
  |some fn=>
   rw[A] at h;simp only at h⊢
   cases j:AR args with
   |none=>rw[j] at h;split at h<;>rename_i hq<;>first|cases hq|cases h
   |some Z=>
    have hh2:handed Z=true:=by rw[Bu j];exact hh
    cases hb:fn.body with
    |none=>rw[hb] at h;cases h
    |some c=>simp only[hb,j,hh2] at h⊢;exact h
 unfold Hw at h;split at h
 ·cases h
 rename_i fn A;split at h
 ·rename_i c Z hb j
  have ha:=j;rw[Bu j] at h ha;split at h
  ·rename_i hsp
   have fin: ∀(B:Own) (g:Gh) (w:World) (us:List Value),Inv E B g.G w ⟨bU 0 args,dU 0 args⟩ g ⟨us.toArray,[]⟩ w→ ∀Q:Exit→Act→World→Prop,(∀e s' g' a' w',Kv E.P fn args some e s'=some r→Inv E B g.G w s' g' a' w'→Q (UG e) a' w')→c.wp E.P Q (Act.mk (us.toArray++Array.replicate (fn.ntmps-us.toArray.size) undef) []) w:=by
    intro B g w us X Q hq;refine pF hE ih _ fuel c _ _ r h g _ w (mM (fn:=fn) X) Q fun e s' g' a' w' he o=>?_
    rw[Gc] at he;exact hq e s' g' a' w' he o
   cases F:uH r with
   |false=>
    refine .inl ⟨F,jL ha hh fun B g w us b X=>calls_of_wp A hb ?_⟩;refine fin B g w us (by rw[(nK hh).1,(nK hh).2];exact X) _ fun e s' g' a' w' he o=>?_
    obtain⟨v,s,Y⟩:=lH he;simp only[aT] at s;subst s;rcases Y with⟨_,_,hee,hret⟩|⟨x,bs,rfl,_,_⟩|⟨x,bs,u,rfl,_,_⟩
    ·obtain⟨u,g2,i,W,K⟩:=hret (B2:=B) rfl rfl o
     have l:=o.df.trans b;rw[b] at W;rcases hee with rfl|rfl
     ·exact⟨l,_,i,_,g2,rfl,W,K⟩
     exact⟨l,_,i,_,g2,rfl,W,K⟩
    ·cases F
    cases F
   |true=>
    cases r with
    |out p U n=>
     refine .inr (.inl ⟨p,U,n,rfl,fun B g w us b X=>calls_of_wp A hb ?_⟩);refine fin B g w us X _ fun e s' g' a' w' he o=>?_
     obtain⟨v,s,Y⟩:=lH he;simp only[aT] at s;subst s;rcases Y with⟨F,_⟩|⟨x,bs,R,hee,q⟩|⟨x,bs,u,R,⟨y,rfl,hu⟩,q⟩
     ·cases F
     ·cases R
      obtain⟨u,g2,i,h2⟩:=q rfl rfl b (fun _ _ _=>rfl) o;have l:=o.df.trans b;rcases hee with rfl|rfl
      ·exact⟨l,_,i,g2,_,rfl,h2⟩
      exact⟨l,_,i,g2,_,rfl,h2⟩
     cases R;obtain⟨g2,h2⟩:=q rfl rfl b (fun _ _ _=>rfl) o;have l:=o.df.trans b;show bodyPost E.P fn _ (.panic [{v:=(dn y).getD undef,recovered:=false}]) a' w';rw[hu];exact⟨l,g2,_,rfl,h2⟩
    |keep p0 U=>exact .inr (.inr ⟨p0,U,rfl,fun B g w us b X=>calls_of_wp A hb (fin B g w us X _ fun e s' g' a' w' he o=>by
      obtain⟨v,s,Y⟩:=lH he;simp only[aT] at s;subst s;rcases Y with⟨F,_⟩|⟨x,bs,R,_⟩|⟨x,bs,u,R,_⟩
      ·cases F
      ·cases R
      cases R)⟩)
    |_=>cases F
  ·
   rename_i cA o1 o2 cB hsplit;obtain⟨id,rfl⟩:=JJ hsplit;split at h
   ·rename_i gf first ccaps t cl hop1 hg1 hd1 hop2 hg2 hd2
    split at h
    ·rename_i t' hcal C
     obtain⟨htt,h9⟩:=aP h;clear h;have htt:t=t':=by simpa using htt
     subst htt;obtain⟨e1,s1,H,hl1⟩:=jv hE ih _ rfl fuel cA _ _ r h9
     cases e1 with
     |exit id=>cases H
     |ret=>cases H
     |qi v=>cases H
     |norm=>
     simp only at H;split at H
     ·rename_i g' S hopr
      obtain⟨hc1,he2⟩:=aP H;clear H;rw[bF,bF] at hc1;obtain⟨⟨hgg,htl⟩,z⟩:=hc1;obtain⟨z,hgA⟩:=Bool.and_eq_true_iff.1 z;have hgg:g'=gf:=by simpa using hgg
      subst hgg;have htl:=ko htl;obtain⟨z,hgA⟩:=Bool.and_eq_true_iff.1 z;have z:=ko z;split at he2
      ·rename_i s2 ZK
       have ends: ∀D N,dfEx (true&& !handed args) E call fuel fn g' (kU 0 S) (qE args) some D N=some r→ ∃(rec:V) (as:ah) (mb ml:List (Nat×Nat)) (Φ:V→List (ah)→Prop),
         ((rec=.nilif∧(D=.norm∨D=.ret))∨ ∃u,D=.qi rec∧dn rec=some u)∧o9 N.bx 0 (kU 0 S)=some (as,mb,ml)∧o8 mb ml=true∧jY E.P g'=true∧DC E g' as rec Φ∧ ∀U n,Φ U n→ ∃s4,pz N none mb ml U n=some s4∧Kv E.P fn args some .ret s4=some r:=by
        intro D N I;have T: ∃rec,dfK (true&& !handed args) E call fuel fn g' (kU 0 S) (qE args) some rec N=some r∧((rec=.nilif∧(D=.norm∨D=.ret))∨ ∃u,D=.qi rec∧dn rec=some u):=by
         cases D with
         |norm=>exact⟨.nilif,I,.inl ⟨rfl,.inl rfl⟩⟩
         |ret=>exact⟨.nilif,I,.inl ⟨rfl,.inr rfl⟩⟩
         |exit id=>cases I
         |qi v=>
          have I:(match dn v with|some _=>dfK (true&& !handed args) E call fuel fn g' (kU 0 S) (qE args) some v N|none=>none)=some r:=I;split at I
          ·rename_i u hu;exact⟨v,I,.inr ⟨u,rfl,hu⟩⟩
          cases I
        obtain⟨rec,T,k⟩:=T;unfold dfK at T;split at T
        ·rename_i as mb ml d
         obtain⟨L,hdk2⟩:=aP T;obtain⟨M,O⟩:=clo_cps hE ih hdk2;refine⟨rec,as,mb,ml,_,k,d,L,M,O,fun U n m=>?_⟩;simp only at m;split at m
         ·rename_i s4 hback
          rw[Gc] at m;exact⟨s4,hback,m⟩
         cases m
        cases T
       cases F:uH r with
       |false=>
        refine .inl ⟨F,jL ha hh fun B g w us b X=>?_⟩;have hi0:Inv E B g.G w ⟨bU 0 args,dU 0 args⟩ g ⟨us.toArray,[]⟩ w:=by rw[(nK hh).1,(nK hh).2];exact X
        refine vU hE ih A hb hg1 hd1 hop2 hg2 hd2 hcal C hl1 hopr htl z hgA ZK (fuel:=fuel) (first:=first) (ccaps:=ccaps) b hi0 fun B2 G0 w0 g5 a5 w5 hi5 Q hq=>pF hE ih _ fuel cB s2 _ r he2 g5 a5 w5 hi5 Q fun D N g6 a6 w6 hek hi6=>?_
        obtain⟨rec,as,mb,ml,Φ,k,d,L,M,O,J⟩:=ends D N hek;refine hq D N g6 a6 w6 ⟨rec,as,mb,ml,Φ,k,d,L,M,O,fun U n hΦ=>(J U n hΦ).imp fun s4 hs=>⟨hs.1,fun B4 g4 a4 w4 q1 q2 q3 hi4=>?_⟩⟩ hi6;have m:=hs.2;obtain⟨v,s,Y⟩:=lH m;simp only[aT] at s;subst s;rcases Y with⟨_,_,hee,hret⟩|⟨x,bs,rfl,_,_⟩|⟨x,bs,u,rfl,_,_⟩
        ·obtain⟨u,g2,i,W,K⟩:=hret (B2:=B) q1 q2 hi4
         rw[b] at W;rw[←q1] at K;exact⟨_,i,_,g2,rfl,W,K⟩
        ·cases F
        cases F
       |true=>
        cases r with
        |out p x0' bs0'=>
         refine .inr (.inl ⟨p,x0',bs0',rfl,fun B g w us b X=>?_⟩);refine vU hE ih A hb hg1 hd1 hop2 hg2 hd2 hcal C hl1 hopr htl z hgA ZK (fuel:=fuel) (first:=first) (ccaps:=ccaps) b X fun B2 G0 w0 g5 a5 w5 hi5 Q hq=>pF hE ih _ fuel cB s2 _ _ he2 g5 a5 w5 hi5 Q fun D N g6 a6 w6 hek hi6=>?_
         obtain⟨rec,as,mb,ml,Φ,k,d,L,M,O,J⟩:=ends D N hek;refine hq D N g6 a6 w6 ⟨rec,as,mb,ml,Φ,k,d,L,M,O,fun U n hΦ=>(J U n hΦ).imp fun s4 hs=>⟨hs.1,fun B4 g4 a4 w4 q1 q2 q3 hi4=>?_⟩⟩ hi6;have m:=hs.2;obtain⟨v,s,Y⟩:=lH m;simp only[aT] at s;subst s;rcases Y with⟨F,_⟩|⟨x,bs,R,hee,q⟩|⟨x,bs,u,R,⟨y,hy,hu⟩,q⟩
         ·cases F
         ·cases R
          obtain⟨u,g2,i,h2⟩:=q q1 q2 b q3 hi4;exact⟨_,i,g2,_,rfl,h2⟩
         cases hy
        |keep p0 x0'=>exact .inr (.inr ⟨p0,x0',rfl,fun B g w us b X=>by
          refine vU hE ih A hb hg1 hd1 hop2 hg2 hd2 hcal C hl1 hopr htl z hgA ZK (fuel:=fuel) (first:=first) (ccaps:=ccaps) b X fun B2 G0 w0 g5 a5 w5 hi5 Q hq=>pF hE ih _ fuel cB s2 _ _ he2 g5 a5 w5 hi5 Q fun D N g6 a6 w6 hek hi6=>?_
          obtain⟨rec,as,mb,ml,Φ,k,d,L,M,O,J⟩:=ends D N hek;refine hq D N g6 a6 w6 ⟨rec,as,mb,ml,Φ,k,d,L,M,O,fun U n hΦ=>?_⟩ hi6;obtain⟨s4,hback,m⟩:=J U n hΦ;obtain⟨v,s,Y⟩:=lH m;simp only[aT] at s;subst s;exfalso;rcases Y with⟨F,_⟩|⟨x,bs,R,_⟩|⟨x,bs,u,R,_⟩
          ·cases F
          ·cases R
          cases R⟩)
        |_=>cases F
      cases he2
     cases H
    cases h
   cases h
 cases h
theorem au (hE:uQ E) {S:List (Nat×aD)} (c:aZ E S) (fuel d:Nat) {f:Nat} {args:ah} {r:V} (h:bE E (bC E S fuel d) fuel f args some=some r) (b:uH r=false:=by rfl):aj E f args r:=by
 have a:=U7 hE (IX hE c fuel (α:=V) d) fuel h;rcases a with⟨_,a⟩|⟨p,x,bs,rfl,_⟩|⟨p,x,rfl,_⟩
 ·exact Cc a
 ·cases b
 cases b
theorem FQ (hE:uQ E) {S:List (Nat×aD)} (c:aZ E S) (fuel d:Nat) {f:Nat} {args:ah} {r:V} (h:bE E (bC E S fuel d) fuel f args some=some r) (b:uH r=false:=by rfl):aj E f (args.map V.xW) r:=by
 have a:=U7 hE (IX hE c fuel (α:=V) d) fuel h;rcases a with⟨_,a⟩|⟨p,x,bs,rfl,_⟩|⟨p,x,rfl,_⟩
 ·exact a
 ·cases b
 cases b
theorem fT (hE:uQ E) {S:List (Nat×aD)} (g:aZ E S) (fuel d:Nat) {f:Nat} {args:ah} {p:Bool} {x:V} {bs:List (ah)} (h:bE E (bC E S fuel d) fuel f args some=some (.out p x bs)):XC E f args p x bs:=by
 have j:=U7 hE (IX hE g fuel (α:=V) d) fuel h;rcases j with⟨b,_⟩|⟨i,x',e,a,c⟩|⟨i,x',a,_⟩
 ·cases b
 ·cases a;exact c
 cases a
end
theorem bM {α:Type} (c:Bool) (a b:α):sel c a b=if c=true then a else b:=by cases c<;>rfl
theorem av {α:Type} {c:Bool} {a b:α} (h:c=true):sel c a b=a:=by subst h;rfl
theorem aI {α:Type} {c:Bool} {a b:α} (h:c=false):sel c a b=b:=by subst h;rfl
theorem bq (a b:Int):(aR a b=true)=(a<b):=by unfold aR;simp
theorem aA (a b:Int):(ax a b=true)=(a≤b):=by unfold ax;simp
theorem aO (a b:Int):(ieq a b=true)=(a=b):=by unfold ieq;simp
theorem Bd (a b:Nat):(nle a b=true)=(a≤b):=by unfold nle;simp
theorem aM (a b:Bool):(ak a b=true)=(a=true∧b=true):=by cases a<;>cases b<;>simp[ak]
theorem bY (a:Bool):(aL a=true)= ¬(a=true):=by cases a<;>simp[aL]
theorem beq_iff (a b:Bool):(beq a b=true)=(a=b):=by unfold beq;simp
theorem dx (a b:af):(seq a b=true)=(a=b):=by unfold seq;simp
theorem gV (a b:af):(fC a b=true)=(a.length+b.length≤1152921504606846976):=by unfold fC;rw[Bd]
theorem DL (a:af):(Le a=true)=(a.length≤1152921504606846976):=by unfold Le;rw[Bd]
theorem gW (a b:ah):(dh a b=true)=(a.length+b.length≤16777216):=by unfold dh;rw[Bd]
theorem bu {a b:Int} (h:a<b):aR a b=true:=by rw[bq];exact h
theorem bB {a b:Int} (h:b≤a):aR a b=false:=by unfold aR;simp;omega
theorem bn {a b:Int} (h:a≤b):ax a b=true:=by rw[aA];exact h
theorem nA {a b:Int} (h:b<a):ax a b=false:=by unfold ax;simp;omega
theorem bA {a b:Int} (h:a=b):ieq a b=true:=by rw[aO];exact h
theorem bH {a b:Int} (h:a≠b):ieq a b=false:=by unfold ieq;simpa using h
theorem cr {a b:Int} (h: -9223372036854775808≤a+b∧a+b≤9223372036854775807):bg .i64 a b=a+b:=IntWalk.i64_in _ h
theorem dV {a b:Int} (h: -9223372036854775808≤a-b∧a-b≤9223372036854775807):dB .i64 a b=a-b:=IntWalk.i64_in _ h
theorem og {a b:Int} (h: -9223372036854775808≤a*b∧a*b≤9223372036854775807):mD .i64 a b=a*b:=IntWalk.i64_in _ h
theorem iaddu64 {a b:Int} (h:0≤a+b∧a+b≤18446744073709551615):bg .u64 a b=a+b:=IntWalk.u64_in _ h
theorem imulu64 {a b:Int} (h:0≤a*b∧a*b≤18446744073709551615):mD .u64 a b=a*b:=IntWalk.u64_in _ h
theorem icnvu64 {a:Int} (h:0≤a∧a≤18446744073709551615):qo .u64 a=a:=IntWalk.u64_in _ h
theorem icnv64 {a:Int} (h: -9223372036854775808≤a∧a≤9223372036854775807):qo .i64 a=a:=IntWalk.i64_in _ h
theorem icnvu8 {a:Int} (h:0≤a∧a≤255):qo .u8 a=a:=IntWalk.u8_in _ h
theorem isubu8 {a b:Int} (h:0≤a-b∧a-b≤255):dB .u8 a b=a-b:=IntWalk.u8_in _ h
theorem Ru {k:IntKind} {a b:Int} (d:0≤a) (c:k.wrap (a/b)=a/b):gF k a b=a/b:=by unfold gF;rw[Int.tdiv_eq_ediv_of_nonneg d];exact c
theorem div_le_self {a b:Int} (c:0≤a) (d:0<b):0≤a/b∧a/b≤a:=⟨Int.ediv_nonneg c (by omega),Int.ediv_le_self b c⟩
theorem pI {a b:Int} (c:0≤a) (d:0<b) (h:a≤9223372036854775807):gF .i64 a b=a/b:=
 Ru c (IntWalk.i64_in _ (by have:=div_le_self c d;omega))
theorem OD {a b:Int} (c:0≤a) (d:0<b) (h:a≤18446744073709551615):gF .u64 a b=a/b:=
 Ru c (IntWalk.u64_in _ (by have:=div_le_self c d;omega))
theorem nL {a b:Int} (c:0≤a):tF a b=a%b:=Int.tmod_eq_emod_of_nonneg c
theorem aJ (l:af):aB l=(l.length:Int):=rfl
theorem aC (l:ah):ay l=(l.length:Int):=rfl
theorem sat_nat (l:af) (i:Nat):sat l (i:Int)=((l.getD i 0).toNat:Int):=rfl
theorem IY (l:af) (a b:Nat):dQ l (a:Int) (b:Int)=(l.drop a).take (b-a):=rfl
theorem fo (l:ah) (i:Nat):aG l (i:Int)=l.getD i .any:=rfl
theorem aj.env {E E':Env} {f:Nat} {args:ah} {r:V} (e:E.P=E'.P) (h: ∀n v,E.glob n=some v→E'.glob n=some v) (c:aj E f args r):aj E' f args r:=by intro G w vs d b a;have:=c G w vs d (fun n v g=>b n v (h n v g)) a;rw[e] at this;exact this
def nQ (E:Env) (f:Nat) (args:ah) (r:V):Prop:=∀p x bs,pG r=.out p x bs→XC E f args p x bs
theorem nQ.out {E:Env} {f:Nat} {args:ah} {p:Bool} {x:V} {bs:List (ah)} (h:XC E f args p x bs):nQ E f args (.out p x bs):=by
 intro c x' a b
 cases b;exact h
theorem nQ.oq {E:Env} {f:Nat} {args:ah} {c:Bool} {a b:V} (g:c=true→nQ E f args a) (e:c=false→nQ E f args b):nQ E f args (.oq c a b):=by
 intro p x bs d
 cases c with
 |true=>exact g rfl p x bs d
 |false=>exact e rfl p x bs d
theorem Inv.env {E E':Env} {B:Own} {G0:aW} {b:World} {s:St} {g:Gh} {a:Act} {w:World} (c:E.P=E'.P) (d:nY E' G0) (h:Inv E B G0 b s g a w):Inv E' B G0 b s g a w:=
 ⟨h.fr,h.df,h.gok,h.own,c▸h.bxs,h.mh,h.hB,h.ext,⟨d,h.glob.2⟩,h.g1,h.zb⟩
theorem XC.env {E E':Env} {f:Nat} {args:ah} {p:Bool} {x:V} {bs:List (ah)} (b:E.P=E'.P) (h: ∀n v,E.glob n=some v→E'.glob n=some v) (c:XC E f args p x bs):XC E' f args p x bs:=by intro B g w vs a i;have d:=i.glob.1;have:=c B g w vs a (i.env b.symm fun n v k=>d n v (h n v k));rw[b] at this;refine Calls.mono this ?_;rintro e w' ⟨g',v,l,j⟩;exact⟨g',v,l,j.env b d⟩
theorem nQ.env {E E':Env} {f:Nat} {args:ah} {r:V} (a:E.P=E'.P) (h: ∀n v,E.glob n=some v→E'.glob n=some v) (c:nQ E f args r):nQ E' f args r:=fun p x bs b=>(c p x bs b).env a h
def kM (w:World):aW:=fun b=>match w.heap[b]? with|some (.cells c _ _)=>some c.toList|_=>none
theorem heapG_ok (w:World):xX (kM w) w:=by
 intro b l h;unfold kM at h;split at h
 ·rename_i c e fr a
  simp only[aT] at h;subst h;exact⟨c,e,fr,a,abH⟩
 cases h
def Lr {H:Type} (P:Program):Nat→TypeId→DataW H→Nat→Option V
 |0,_,_,_=>none
 |f+1,t,d,i=>
  match P.underlying t,d with
  |some (.int k),.lit (.int _ n)=>(match i with|0=>some (.int k n)|_=>none)
  |some .bool,.lit (.bool b)=>(match i with|0=>some (.bool b)|_=>none)
  |some .string,.lit (.string l)=>(match i with|0=>some (.str l)|_=>none)
  |some (.struct g),.agg c=>(List.range c.length).findSome? fun j=>
   match g[j]?,c[j]? with
   |some a,some x=>(match Nat.ble a.offset i&&Nat.blt i (a.offset+P.cellsOf a.type) with|true=>Lr P f a.type x (i-a.offset)|false=>none)
   |_,_=>none
  |some (.array n e),.agg c=>(match c[i/P.cellsOf e]? with|some x=>Lr P f e x (i%P.cellsOf e)|none=>none)
  |_,_=>none
variable {H:Type} {enc:TypeId×Value→H} {P:Program} {w:World} {base:Nat} {spare:Nat→Bool} {held:Bool}
theorem DN (G:aW): ∀(f:Nat) (t:TypeId) (d:DataW H) (i:Nat) (v:V),Lr P f t d i=some v→ ∀(fuel:Nat) (F:List Value) (p:List MemPlace),DataW.trod enc P w base spare held fuel t F=some (d,p)→
  ∃u,F[i]? =some u∧aV G v u
 |0,_,_,_,_,h,_,_,_,_=>by simp[Lr] at h
 |f+1,t,d,i,v,h,fuel,F,p,r=>by
  unfold Lr at h;split at h
  ·rename_i k R n c
   obtain⟨m,rfl,e,_⟩:=DataW.trod_int c r;simp only[bP,DataW.lit.injEq,Lit.int.injEq] at e;obtain⟨⟨rfl,rfl⟩,_⟩:=e;split at h
   ·simp only[aT] at h
    subst h;exact⟨_,rfl,by unfold aV;rfl⟩
   cases h
  ·rename_i b c
   obtain⟨m,rfl,e⟩:=DataW.trod_bool c r;simp only[bP,DataW.lit.injEq,Lit.bool.injEq] at e;obtain⟨rfl,_⟩:=e;split at h
   ·simp only[aT] at h
    subst h;exact⟨_,rfl,by unfold aV;rfl⟩
   cases h
  ·rename_i l c
   obtain⟨s,rfl,e,_⟩:=DataW.trod_string c r;simp only[bP,DataW.lit.injEq,Lit.string.injEq] at e;obtain⟨rfl,_⟩:=e;split at h
   ·simp only[aT] at h
    subst h;exact⟨_,rfl,by unfold aV;cases s;simp⟩
   cases h
  ·rename_i S N c
   obtain⟨xs,m,_,e,z,L,o⟩:=DataW.trod_struct c r;simp only[bP,DataW.agg.injEq] at e;obtain⟨j,_,B⟩:=List.exists_of_findSome?_eq_some h;split at B
   ·rename_i q x J A
    split at B
    ·rename_i E
     rw[bF] at E;have Q:=aa3 E.1;have O:i<q.offset+P.cellsOf q.type:=by have:=E.2;rwa [GZ] at this
     rw[e.1,uE] at A;obtain⟨y,C,g⟩:=Option.map_eq_some_iff.1 A;have:=o j q J;rw[C] at this;obtain⟨u,a,I⟩:=DN G f q.type x _ v B m _ y.2 (by rw[this,←g]);refine⟨u,?_,I⟩;rw[acz (by omega),T3,show q.offset+(i-q.offset)=i by omega] at a;exact a
    cases B
   cases B
  ·rename_i n e N c
   obtain⟨xs,m,_,K,z,L,o⟩:=DataW.trod_array c r;simp only[bP,DataW.agg.injEq] at K;split at h
   ·rename_i x A
    rw[K.1,uE] at A;obtain⟨y,C,g⟩:=Option.map_eq_some_iff.1 A;have D:i/P.cellsOf e<n:=by rw[←L];exact(List.getElem?_eq_some_iff.1 C).1
    have:=o _ D;rw[C] at this;obtain⟨u,a,I⟩:=DN G f e x _ v h m _ y.2 (by rw[this,←g]);refine⟨u,?_,I⟩;by_cases M:P.cellsOf e=0
    ·rw[M,List.take_zero] at a
     cases a
    rw[acz (acN _ (by omega)),T3,Nat.mul_comm,Nat.div_add_mod] at a;exact a
   cases h
  cases h
theorem Rv {α β:Type} {f:α→Option β}: ∀{l:List α} {ys:List β},l.mapM f=some ys→ys.length=l.length∧ ∀(i:Nat) a y,l[i]? =some a→ys[i]? =some y→f a=some y
 |[],ys,h=>by simp at h;subst h;exact⟨rfl,by simp⟩
 |a::l,ys,h=>by
  rw[acY] at h
  cases c:f a with
  |none=>rw[c] at h;cases h
  |some y=>
   rw[c] at h
   cases b:l.mapM f with
   |none=>rw[b] at h;cases h
   |some zs=>
    rw[b] at h;simp at h;subst h;obtain⟨k,g⟩:=Rv b;refine⟨by simp[k],fun i j y' e d=>?_⟩
    cases i with
    |zero=>simp at e d;subst e;subst d;exact c
    |succ i=>exact g i j y' (by simpa using e) (by simpa using d)
theorem xH {j:String} {g:Nat} {h:Array Value} {t:TypeId} {fuel f:Nat} {d:DataW H} {p:List MemPlace} {sh:List Kd} {xs:ah} (z:P.globalNamed j=some g) (l:w.var? P j=some h)
  (v:DataW.trod enc P w base spare held fuel t h.toList=some (d,p)) (D:(List.range sh.length).mapM (Lr P f t d)=some xs) (B:fV sh (.agg xs)=true):
  aV (kM w) (.rptr sh (.agg xs) 0) (.pointer (some ⟨g,0,none⟩)):=by
 obtain⟨o,y⟩:=Rv D;rw[acj] at o;have a: ∀(i:Nat) (x:V),xs[i]? =some x→ ∃u,h.toList[i]? =some u∧aV (kM w) x u:=by
  intro i x b;have r:i<sh.length:=by rw[←o];exact(List.getElem?_eq_some_iff.1 b).1
  exact DN (kM w) f t d i x (y i i x (by rw[ab0 r]) b) fuel _ p v
 have A:xs.length≤h.toList.length:=by
  rcases acV h.toList.length xs.length with n|m
  ·obtain⟨u,s,_⟩:=a h.toList.length xs[h.toList.length] (iK n)
   rw[abC (kG _)] at s
   cases s
  exact m
 unfold aV;refine⟨g,0,h.toList,rfl,?_,B,.agg (h.toList.take sh.length).toArray,?_,?_⟩
 ·simp only[World.var?,z,Option.bind_some] at l
  split at l
  ·rename_i c e fr E
   simp only[aT] at l;subst l;unfold kM;rw[E]
  cases l
 ·unfold aV
  refine⟨_,rfl,?_⟩;rw[fe];refine⟨by rw[Kc];omega,fun i x u b k=>?_⟩;obtain⟨F,q,C⟩:=a i x b;have r:i<sh.length:=by rw[←o];exact(List.getElem?_eq_some_iff.1 b).1
  rw[acz r,q] at k;simp only[aT] at k;rw[←k];exact C
 simp[Value.cells]
theorem adN {g:Nat} {k:IntKind} {m:Int} (h:w.cell? ⟨g,0,none⟩=some (.int k m)):aV (kM w) (.rptr [.int k] (.int k m) 0) (.pointer (some ⟨g,0,none⟩)):=by
 simp only[World.cell?] at h;split at h
 ·rename_i c e fr d
  unfold aV;refine⟨g,0,c.toList,rfl,by unfold kM;rw[d],by simp[fV,V.cells,bW,fits,ak],.int k m,by unfold aV;rfl,?_⟩;have b:c.toList[0]? =some (.int k m):=by simpa using h
  cases d:c.toList with
  |nil=>rw[d] at b;cases b
  |cons a t=>rw[d] at b;simp at b;subst b;rfl
 cases h
theorem P4 {E:Env} {f:Nat} {args:ah} {vs:List Value} (c:aj E f args (.bool true)) (d:nY E (kM w)) (a:PW (aV (kM w)) args vs):
  Calls E.P f vs.toArray w fun e w'=>e=.returned (.bool true)∧Below w.heap.size w w':=by
 refine(c (kM w) w vs (heapG_ok w) d a).mono ?_;rintro e w' ⟨v,G',rfl,g,b⟩;have:v=.bool true:=b;rw[this];exact⟨rfl,g.1⟩
end Nt.Ev
