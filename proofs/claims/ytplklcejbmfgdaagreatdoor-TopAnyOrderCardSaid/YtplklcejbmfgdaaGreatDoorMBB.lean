/-
  The evaluator is right: functions; those that are handed boxes and labelled slices, that raise, that defer a closure which takes back. The evaluator is right: bodies of functions, contracts. Small laws on the evaluator's primitives: how printed equations are read. From the evaluator's contracts to the rows: what is known of a world where a statement begins.
-/
import Derived.Test.YtplklcejbmfgdaaGreatDoorMBS
import Derived.Recover
import Derived.IntWalk
import Derived.ChangeArms
import Derived.OpenShut
import Derived.FnData
set_option linter.unusedVariables false
set_option linter.unusedSimpArgs false
set_option linter.unusedSectionVars false
namespace Nt.Ev
open Go Go.RowKit
section
variable {E:Env}
theorem argV_eq {x y:V} (h:Xh x=some y):y=x:=by
 cases x with
 |fn f c=>cases c<;>(simp[Xh,V.deep] at h;exact h.symm)
 |bxa off cs=>simp only[Xh,Option.some.injEq] at h;exact h.symm
 |sl e sh o xs=>simp only[Xh,Option.some.injEq] at h;exact h.symm
 |old z=>
  have h:(bif z.fo then some (V.old z) else none)=some y:=h;obtain⟨_,h⟩:=aD h;simp only[Option.some.injEq] at h;exact h.symm
 |_=>simp[Xh,V.deep] at h<;>exact h.symm
theorem Bg: ∀{xs ys:List V},Ay xs=some ys→ys=xs
 |[],ys,h=>by simp only[Ay,Option.some.injEq] at h;exact h.symm
 |x::xs,ys,h=>by
  unfold Ay at h;split at h
  ·rename_i a b ha hb
   simp only[Option.some.injEq] at h;rw[←h,argV_eq ha,Bg hb]
  ·cases h
theorem NY (args:List V):handed (qz args)=handed args:=by
 unfold qz
 cases h:handed args with
 |false=>rfl
 |true=>
  rw[cond_true];unfold handed at h⊢;rw[List.any_eq_true] at h⊢;obtain⟨x,hx,hh⟩:=h
  cases x with
  |bxa off cs=>exact⟨_,List.mem_map.2 ⟨_,hx,rfl⟩,rfl⟩
  |sl e sh o xs=>cases o with
   |none=>cases hh
   |some L=>exact⟨_,List.mem_map.2 ⟨_,hx,rfl⟩,rfl⟩
  |_=>cases hh
theorem Iq (s:St): ∀(args:List V) (j:Nat),(∀x∈args,x.Aw=false)→nZ s j args=some []∧jO j args=[]
 |[],j,_=>⟨rfl,rfl⟩
 |x::args,j,h=>by
  have ih:=Iq s args (j+1) fun y hy=>h y (List.mem_cons_of_mem _ hy)
  have hx:=h x List.mem_cons_self
  cases x<;>first|exact ih|cases hx
theorem KV (s:St) (f:V→V) (hf: ∀x,(f x).Aw=x.Aw): ∀(args:List V) (j:Nat),nZ s j (args.map f)=nZ s j args∧jO j (args.map f)=jO j args
 |[],j=>⟨rfl,rfl⟩
 |x::args,j=>by
  have ih:=KV s f hf args (j+1);have hx:=hf x;rw[List.map_cons];have other: ∀y:V,y.Aw=false→nZ s j (y::args)=nZ s (j+1) args∧jO j (y::args)=jO (j+1) args:=fun y hy=>by cases y<;>first|exact⟨rfl,rfl⟩|cases hy
  have other': ∀y:V,y.Aw=false→nZ s j (y::args.map f)=nZ s (j+1) (args.map f)∧jO j (y::args.map f)=jO (j+1) (args.map f):=fun y hy=>by cases y<;>first|exact⟨rfl,rfl⟩|cases hy
  cases hb:x.Aw with
  |false=>
   rw[hb] at hx;rw[(other x hb).1,(other x hb).2,(other' _ hx).1,(other' _ hx).2];exact ih
  |true=>
   rw[hb] at hx;generalize f x=y at hx
   cases x<;>first|cases hb|skip
   cases y<;>first|cases hx|skip
   simp only[nZ,jO,ih.1,ih.2];exact⟨trivial,trivial⟩
theorem KW (s:St) (args:List V):nZ s 0 (qz args)=nZ s 0 args∧jO 0 (qz args)=jO 0 args:=by
 unfold qz
 cases h:handed args with
 |false=>
  have h2:=Iq s args 0 fun x hx=>by
   unfold handed at h;rw[List.any_eq_false] at h;have:=h x hx
   cases x<;>first|rfl|(exfalso;exact this rfl)
  rw[cond_false,h2.1,h2.2];exact⟨rfl,rfl⟩
 |true=>
  rw[cond_true];exact KV s _ (fun x=>by cases x<;>first|rfl|(rename_i o _;cases o<;>rfl)) args 0
theorem outOf_sh {α:Type} (p:Bool) (x:V) (s:St) (args:List V) (K:V→Option α):qy p x s (qz args) K=qy p x s args K:=by
 unfold qy;rw[(KW s args).1,(KW s args).2]
theorem Fg {α:Type} (P:Program) (fn:Func) (args:List V) (K:V→Option α):Jb P fn (qz args) K=Jb P fn args K:=by
 funext e s
 cases e<;>simp only[Jb,NY,outOf_sh]
theorem Pz: ∀(bs:List (List V)) (j:Nat) (p:Nat×Nat),p∈Xj j bs→ ∃i,p.2=fF true p.1 i
 |[],j,p,h=>by cases h
 |cs::bs,j,p,h=>by
  unfold Xj at h;rcases List.mem_append.1 h with h|h
  ·obtain⟨i,hi⟩:=iL _ _ _ h
   exact⟨_,hi⟩
  ·exact Pz bs (j+1) p h
theorem cls_lt' {L i:Nat} (h:fF true L i<HL):L<HL:=by
 unfold fF at h;rw[Bool.true_and] at h
 cases hq:Nat.ble HL L with
 |true=>rw[hq,cond_true] at h;omega
 |false=>
  refine Nat.lt_of_not_le fun e=>?_
  rw[Nat.ble_eq_true_of_le e] at hq
  cases hq
theorem MY: ∀(args:List V) (j:Nat) {a b:Nat},(a,b)∈jO j args→a=b∧HL≤a
 |[],j,a,b,h=>by cases h
 |x::args,j,a,b,h=>by
  have rest:(a,b)∈jO (j+1) args→a=b∧HL≤a:=MY args (j+1)
  cases x with
  |bxa off cs=>
   unfold jO at h;rcases List.mem_cons.1 h with h|h
   ·simp only[Prod.mk.injEq] at h
    obtain⟨rfl,rfl⟩:=h;exact⟨rfl,by omega⟩
   ·exact rest h
  |_=>exact rest h
theorem oJ {s:St} (f:List V→List V): ∀(args:List V) (j:Nat) (bs:List (List V)),nZ s j args=some bs→ ∀k cs,ax (fC j args (bs.map f)) k=some cs→ ∃cs0,ax s.bx k=some cs0∧cs=f cs0
 |[],j,bs,h,k,cs,hk=>by cases hk
 |x::args,j,bs,h,k,cs,hk=>by
  have rest:nZ s (j+1) args=some bs→ax (fC (j+1) args (bs.map f)) k=some cs→ ∃cs0,ax s.bx k=some cs0∧cs=f cs0:=fun h1 h2=>oJ f args (j+1) bs h1 k cs h2
  cases x with
  |bxa off c0=>
   unfold nZ at h;split at h
   ·rename_i c1 b1 h1 h2
    simp only[Option.some.injEq] at h;subst h;rw[List.map_cons] at hk;unfold fC ax at hk
    cases hq:HL+j==k with
    |true=>
     rw[hq,cond_true] at hk;simp only[Option.some.injEq] at hk;obtain rfl:HL+j=k:=by simpa using hq
     exact⟨c1,h1,hk.symm⟩
    |false=>
     rw[hq,cond_false] at hk;exact oJ f args (j+1) b1 h2 k cs hk
   ·cases h
  |_=>exact rest h hk
theorem mK: ∀(args:List V) (j:Nat) (bs:List (List V)) {k:Nat} {cs:List V},ax (fC j args bs) k=some cs→ ∃k0,(k,k0)∈jO j args
 |[],j,bs,k,cs,h=>by cases h
 |x::args,j,bs,k,cs,h=>by
  have rest:ax (fC (j+1) args bs) k=some cs→ ∃k0,(k,k0)∈jO (j+1) args:=fun h=>mK args (j+1) bs h
  cases x with
  |bxa off c0=>
   cases bs with
   |nil=>
    obtain⟨k0,hk0⟩:=mK args (j+1) [] h;exact⟨k0,List.mem_cons_of_mem _ hk0⟩
   |cons c1 bs=>
    unfold fC ax at h
    cases hq:HL+j==k with
    |true=>
     obtain rfl:HL+j=k:=by simpa using hq
     exact⟨_,List.mem_cons_self⟩
    |false=>
     rw[hq,cond_false] at h;obtain⟨k0,hk0⟩:=mK args (j+1) bs h;exact⟨k0,List.mem_cons_of_mem _ hk0⟩
  |_=>exact rest h
theorem Fh {α:Type} {p:Bool} {x:V} {s:St} {args:List V} {K:V→Option α} {r:α} (h:qy p x s args K=some r):
  ∃x' bs,K (.out p x' bs)=some r∧(∀t y,x=.iface t y→x'=.iface t y)∧(x=.tup []→x'=.tup [])∧ ∀{B B2:Own} {G0:aP} {w0:World} {g:Gh} {a:Act} {w:World} {v:Value},B2.m=B.m→B2.n=B.n→B2.df=[]→(∀a b,(a,b)∈jO 0 args→B2.β a=B.β a)→Inv E B G0 w0 s g a w→aN g x v→ ∃g',Inv E B2 G0 w0 ⟨[x'],fC 0 args bs⟩ g' ⟨#[v],[]⟩ w:=by
 unfold qy at h;split at h
 ·rename_i bs hbs
  simp only at h;obtain⟨hn,h⟩:=aD h;rw[tF] at hn;have hf:=qG (qp (fun L i=>fF true L i) 0 (Ch x)++Xj 0 bs) [];generalize hml:o7 [] (qp (fun L i=>fF true L i) 0 (Ch x)++Xj 0 bs)=ml at h hn hf;have hcls: ∀p∈ml,∃i,p.2=fF true p.1 i:=fun p hp=>by
   rcases List.mem_append.1 (hf.2 p hp).1 with h|h
   ·obtain⟨i,hi⟩:=iL _ _ _ h
    exact⟨_,hi⟩
   ·exact Pz bs 0 p h
  refine⟨_,_,h,fun t y e=>(by subst e;rfl),fun e=>(by subst e;rfl),fun {B B2 G0 w0 g a w v} hm2 hn2 hd2 hβ2 hi hv=>?_⟩;let O2:Nat→Option (Value×Nat×Nat):=fun n=>match lk (eU ml) n with|some L=>g.O L|none=>none
  have hO: ∀L n,lk ml L=some n→O2 n=g.O L:=fun L n hl=>by
   show(match lk (eU ml) n with|some L=>g.O L|none=>none)=_;rw[jS hn (ku hl)]
  have Az: ∀n x,O2 n=some x→ ∃L,(L,n)∈ml∧g.O L=some x:=fun n x hx=>by
   have hx:(match lk (eU ml) n with|some L=>g.O L|none=>none)=some x:=hx;split at hx
   ·rename_i L hL;exact⟨L,pF.1 (ku hL),hx⟩
   ·cases hx
  let β2:Nat→Option Nat:=fun k=>if HL≤k then B2.β k else g.β k
  have hβk: ∀a b,(a,b)∈jO 0 args→β2 a=g.β a:=fun a b hab=>by
   have h1:=(MY args 0 hab).2;show(if HL≤a then B2.β a else g.β a)=_;rw[if_pos h1,hβ2 a b hab,hi.ext.2.2 a h1]
  let C2:Nat→Option (List Value):=fun n=>match lk (eU ml) n with|some L=>g.C L|none=>none
  have hC: ∀L n,lk ml L=some n→C2 n=g.C L:=fun L n hl=>by
   show(match lk (eU ml) n with|some L=>g.C L|none=>none)=_;rw[jS hn (ku hl)]
  have hCm: ∀L n,(L,n)∈ml→C2 n=g.C L:=fun L n hl=>by
   show(match lk (eU ml) n with|some L=>g.C L|none=>none)=_;rw[jS hn hl]
  let g2:Gh:=⟨g.G,O2,β2,g.G1,C2⟩
  have Ai: ∀(y:V) (u:Value),aN g y u→aN g2 (y.ren (jO 0 args) ml) u:=fun y u hy=>GU (g:=g) (g':=g2) rfl hO hC (fun k n hk=>by
   have h1:=ku hk;rw[←(MY args 0 h1).1];exact hβk k n h1) hy
  have hok2: ∀L b,B2.ok L b↔B.ok L b:=fun L b=>by unfold Own.ok;rw[hm2,hn2]
  refine⟨g2,PW.cons (Ai x v hv) .nil,hd2.symm,hi.gok,⟨fun n v' e sz hn'=>?_,fun n n' v1 v2 e e' sz sz' b h1 h2 hb1 hb2=>?_⟩,⟨fun k cs hk=>?_,fun k k' cs cs' hk hk' hb=>?_⟩,by rw[hm2];exact hi.mg,by rw[hm2,hn2];exact hi.hB,⟨fun b hb=>hi.ext.1 b (by rw[←hm2];exact hb),hi.ext.2.1,fun k hk=>if_pos hk⟩,by rw[hn2];exact hi.glob,hi.g1,fun k cs n v' e sz b hk hn' hb hβ=>?_⟩
  ·obtain⟨L,hL,hx⟩:=Az n _ hn'
   obtain⟨q1,q2⟩:=hi.own.1 L v' e sz hx;refine⟨q1,q2.imp id ?_⟩;rintro⟨b,m,cap,cur,l,hv',hok,hh,hnc,hcm,hcs,hrow,hln⟩;refine⟨b,m,cap,cur,l,hv',(hok2 n b).2 ⟨hok.1,fun hlt=>hok.2 ?_⟩,hh,hnc,hcm,hcs,by
    unfold mZ at hrow⊢;rw[show g2.C n=g.C L from hCm L n hL];exact hrow,hln⟩
   obtain⟨i,hi'⟩:=hcls _ hL;simp only at hi';rw[hi'] at hlt;exact cls_lt' hlt
  ·obtain⟨L,hL,hx⟩:=Az n _ h1
   obtain⟨L',hL',hx'⟩:=Az n' _ h2;have:=hi.own.2 L L' v1 v2 e e' sz sz' b hx hx' hb1 hb2;subst this;exact Bd hf.1 hL hL'
  ·obtain⟨cs0,h1,rfl⟩:=oJ (s:=s) (fun cs=>cs.map (V.ren (jO 0 args) ml)) args 0 bs hbs k cs hk
   obtain⟨b,c,e,q1,q2,q3,q4,q5,q6,q7⟩:=hi.bxs.1 k cs0 h1;obtain⟨k0,hk0⟩:=mK args 0 _ hk;exact⟨b,c,e,(hβk k k0 hk0).trans q1,by rw[hm2];exact q2,q3,dO q4 fun y _ u=>Ai y u,q5,q6,kM (GK _ _) q7⟩
  ·obtain⟨k0,hk0⟩:=mK args 0 _ hk
   obtain⟨k1,hk1⟩:=mK args 0 _ hk';have hb:β2 k=β2 k':=hb;rw[hβk k k0 hk0,hβk k' k1 hk1] at hb;obtain⟨c1,h1,_⟩:=oJ (s:=s) (fun cs=>cs.map (V.ren (jO 0 args) ml)) args 0 bs hbs k cs hk;obtain⟨c2,h2,_⟩:=oJ (s:=s) (fun cs=>cs.map (V.ren (jO 0 args) ml)) args 0 bs hbs k' cs' hk';exact hi.bxs.2 k k' c1 c2 h1 h2 hb
  ·obtain⟨L,hL,hx⟩:=Az n _ hn'
   obtain⟨k0,hk0⟩:=mK args 0 _ hk;obtain⟨c1,h1,_⟩:=oJ (s:=s) (fun cs=>cs.map (V.ren (jO 0 args) ml)) args 0 bs hbs k cs hk;have hβ:β2 k=some b:=hβ;rw[hβk k k0 hk0] at hβ;exact hi.zb k c1 L v' e sz b h1 hx hb hβ
 ·cases h
theorem Ea {G:aP} {x:V} {u:Value} (h:nG x=some u):aO G x u:=by
 cases x with
 |bool b=>simp only[nG,Option.some.injEq] at h;unfold aO;exact h.symm
 |int k n=>simp only[nG,Option.some.injEq] at h;unfold aO;exact h.symm
 |_=>cases h
theorem Eb {G:aP}: ∀{xs:List V} {us:List Value},nH xs=some us→PW (aO G) xs us
 |[],us,h=>by simp only[nH,Option.some.injEq] at h;subst h;exact .nil
 |x::xs,us,h=>by
  unfold nH at h;split at h
  ·rename_i a b ha hb
   simp only[Option.some.injEq] at h;subst h;exact .cons (Ea ha) (Eb hb)
  ·cases h
theorem zP {g:Gh} {x:V} {u:Value} (h:cr x=some u):aN g x u∧ ∃t y,x=.iface t y:=by
 unfold cr at h;split at h
 ·rename_i t cs
  split at h
  ·rename_i l hl
   simp only[Option.some.injEq] at h;subst h;exact⟨jH.2 ⟨_,rfl,by unfold aO;exact⟨l,rfl,(dL _ _).2 (Eb hl)⟩⟩,_,_,rfl⟩
  ·cases h
 ·rename_i t y _
  split at h
  ·rename_i z hz
   simp only[Option.some.injEq] at h;subst h;exact⟨jH.2 ⟨_,rfl,Ea hz⟩,_,_,rfl⟩
  ·cases h
 ·cases h
theorem Yc {g:Gh} {vs:List V} {us:List Value} (h:PW (fun x v=>bH g x v∧nX x=true) vs us):aN g (Va vs) (AA us):=by
 have AV: ∀(vs:List V) (us:List Value),PW (fun x v=>bH g x v∧nX x=true) vs us→aN g (.tup vs) (.tuple us.toArray):=fun vs us h=>⟨us,rfl,h.mono fun _ _ _ h=>h.1⟩
 match vs,us,h with
 |[],us,h=>rw[h.bU];exact AV [] [] .nil
 |[x],us,h=>
  obtain⟨u,t,rfl,⟨h1,h2⟩,h3⟩:=h.cons_inv;rw[h3.bU];have O7:x.single=true:=by cases x<;>first|rfl|cases h2
  exact bu O7 h1
 |x::y::vs,us,h=>
  have hl:=h.1;match us,hl with
  |u::v::us,_=>exact AV _ _ h
theorem mM {B:Own} {g:Gh} {w:World} {fr:List V} {bx:List (Nat×List V)} {vs:List Value} {fn:Func} {G0:aP} {w0:World} (hi:Inv E B G0 w0 ⟨fr,bx⟩ g ⟨vs.toArray,[]⟩ w):
  Inv E B G0 w0 ⟨AQ fn fr,bx⟩ g {tmps:=vs.toArray++Array.replicate (fn.ntmps-vs.toArray.size) undef,defers:=[]} w:=by
 have hfr:PW (aN g) fr vs:=by simpa using hi.fr
 refine⟨?_,hi.df,hi.gok,hi.own,hi.bxs,hi.mg,hi.hB,hi.ext,hi.glob,hi.g1,hi.zb⟩;show PW (aN g) (fr++List.replicate (fn.ntmps-fr.length) (.tup [])) (vs.toArray++Array.replicate (fn.ntmps-vs.toArray.size) undef).toList;have e1:(vs.toArray++Array.replicate (fn.ntmps-vs.toArray.size) undef).toList=vs++List.replicate (fn.ntmps-fr.length) undef:=by
  rw[hfr.1];simp
 rw[e1];refine hfr.append ⟨by simp,fun i x v hx hv=>?_⟩;rw[List.getElem?_replicate] at hx hv;split at hx
 ·rename_i hlt
  rw[if_pos hlt] at hv;simp only[Option.some.injEq] at hx hv;subst hx;subst hv;exact⟨[],rfl,.nil⟩
 ·cases hx
def VK (rec:V) (u:FrameMode):Prop:=(rec=.nilif∧u=.returning)∨ ∃q,cr rec=some q∧u=.panicking [{v:=q,recovered:=false}]
def DC (E:Env) (f:Nat) (args:List V) (rec:V) (Φ:V→List (List V)→Prop):Prop:=
 ∀(B:Own) (g:Gh) (w:World) (vs:List Value),B.df=[]→Inv E B g.G w ⟨bI 0 args,dH 0 args⟩ g ⟨vs.toArray,[]⟩ w→ ∀u,VK rec u→
  CallsD E.P f vs.toArray u w fun e u' w'=>∃x bs g' v,Φ x bs∧(∃v',e=.returned v')∧settle u'=.returning∧Inv E B g.G w ⟨[x],fC 0 args bs⟩ g' ⟨#[v],[]⟩ w'
theorem Yd (hE:tY E) {α:Type} {call:Caller α} (hc:lM E call) {fuel f:Nat} {args:List V} {rec:V} {K:V→Option α} {r:α} (h:O4 false E call fuel f args rec K=some r):jQ E.P f=true∧ ∃x bs,K (.out false x bs)=some r∧DC E f args rec (fun x' bs'=>x'=x∧bs'=bs):=by
 unfold O4 at h;split at h
 ·cases h
 ·rename_i fn hfn
  split at h
  ·rename_i c hbody
   split at h
   ·rename_i id ops b
    split at h
    ·rename_i o hops
     split at h
     ·rename_i cl d hop hg hd hres
      split at h
      ·rename_i lI mD
       obtain⟨e,s',he,hl⟩:=iZ hE hc _ rfl fuel b _ _ r h;have hret:qy false (.tup []) s' args K=some r∧(e=.norm∨e=.ret):=by
        cases e with
        |norm=>exact⟨he,.inl rfl⟩
        |ret=>exact⟨he,.inr rfl⟩
        |exit id=>cases he
        |oL v=>cases he
       obtain⟨ho,hee⟩:=hret;obtain⟨x',bs,hK,_,htup,hinv⟩:=Fh (E:=E) ho;refine⟨by unfold jQ;rw[hfn];simp only[hbody];rfl,x',bs,hK,fun B g w vs hdf hi u hu=>?_⟩;refine callsD_of_wpS hfn hbody fun c₀ cs hc₀=>?_
       have hops':ops= #[o]:=by rw[←Array.toList_inj];simpa using hops
       subst hops';refine wpS_seq (wpS_region ?_);have hexec: ∀ρ,(execOp ρ o).run E.P w=.ok .recover w:=by
        intro ρ;obtain⟨callee,kJ,cts⟩:=cl;simp only at lI mD;subst lI;simp only[execOp,hop,resolve];simp[invoke,builtin]
       have hlist:List.range (#[o]:Array Oper).size=[0]:=rfl;rw[hlist];unfold wpOpsS;simp only[List.getElem?_toArray,List.getElem?_cons_zero];have hw: ∀y,Region.wanted o y=true:=fun y=>by unfold Region.wanted;rw[hg]
       rw[if_pos (hw _),hexec];simp only[hd];have hstart:=mM (fn:=fn) hi;have fin: ∀(v:Value) (u':FrameMode),settle u'=.returning→aN g rec v→
         Code.wpS E.P b (bodyPostS E.P fn c₀ cs fun e u' w'=>∃x1 bs1 g' v,(x1=x'∧bs1=bs)∧(∃v',e=.returned v')∧settle u'=.returning∧Inv E B g.G w ⟨[x1],fC 0 args bs1⟩ g' ⟨#[v],[]⟩ w')
          (Act.put {tmps:=vs.toArray++Array.replicate (fn.ntmps-vs.toArray.size) undef,defers:=[]} (some d) v) ({c₀ with mode:=u'}::cs) w:=by
        intro v u' hset hv;refine wpS_of_wp (hl B g.G w g _ w (hstart.put (some d) hv) _ fun g' a' w' hi'=>?_);have hrun:(results fn a'.tmps).run E.P w'=.ok (.tuple #[]) w':=by
         have:=nN (fn:=fn) (a:=a') (w:=w') (E:=E) (us:=[]) (by rw[hres];rfl);simpa[AA] using this
        have sI:a'.defers=[]:=hi'.df.trans hdf;have hfin: ∃g2,Inv E B g.G w ⟨[x'],fC 0 args bs⟩ g2 ⟨#[.tuple #[]],[]⟩ w':=by
         exact hinv rfl rfl hdf (fun _ _ _=>rfl) hi' (v:=.tuple #[]) ⟨[],rfl,.nil⟩
        obtain⟨g2,h2⟩:=hfin;have hpost:a'.defers=[]∧ ∃u'',({c₀ with mode:=u'}::cs:List Frame)={c₀ with mode:=u''}::cs∧ ∃v,(results fn a'.tmps).run E.P w'=.ok v w'∧ ∃x1 bs1 g' v_1,(x1=x'∧bs1=bs)∧(∃v',Ending.returned v=.returned v')∧settle u''=.returning∧Inv E B g.G w ⟨[x1],fC 0 args bs1⟩ g' ⟨#[v_1],[]⟩ w':=
         ⟨sI,u',rfl,_,hrun,_,_,g2,_,⟨rfl,rfl⟩,⟨_,rfl⟩,hset,h2⟩
        rcases hee with rfl|rfl
        ·exact hpost
        ·exact hpost
       rcases hu with⟨rfl,rfl⟩|⟨q,hq,rfl⟩
       ·have hrec:recoverD (c₀::cs)=none:=by simp only[recoverD,hc₀]
        rw[hrec];have:=fin .nilIface .returning rfl (mO.2 rfl);have e1:({c₀ with mode:=.returning}:Frame)=c₀:=by rw[←hc₀]
        rw[e1] at this;exact this
       ·have hrec:recoverD (c₀::cs)=some (q,{c₀ with mode:=.panicking [{v:=q,recovered:=true}]}::cs):=by simp only[recoverD,hc₀]
        rw[hrec];exact fin q _ rfl (zP hq).1
      ·cases h
     ·cases h
    ·cases h
   ·cases h
  ·cases h
theorem clo_cps (hE:tY E) {α:Type} {call:Caller α} (hc:lM E call) {fuel f:Nat} {args:List V} {rec:V} {K:V→Option α} {r:α} {o:Bool} (h:O4 o E call fuel f args rec K=some r):jQ E.P f=true∧DC E f args rec (fun x bs=>K (.out false x bs)=some r):=by
 unfold O4 at h;split at h
 ·cases h
 ·rename_i fn hfn
  split at h
  ·rename_i c hbody
   split at h
   ·rename_i id ops b
    split at h
    ·rename_i op hops
     split at h
     ·rename_i cl d hop hg hd hres
      split at h
      ·rename_i lI mD
       refine⟨by unfold jQ;rw[hfn];simp only[hbody];rfl,fun B g w vs hdf hi u hu=>?_⟩;refine callsD_of_wpS hfn hbody fun c₀ cs hc₀=>?_
       have hops':ops= #[op]:=by rw[←Array.toList_inj];simpa using hops
       subst hops';refine wpS_seq (wpS_region ?_);have hexec: ∀ρ,(execOp ρ op).run E.P w=.ok .recover w:=by
        intro ρ;obtain⟨callee,kJ,cts⟩:=cl;simp only at lI mD;subst lI;simp only[execOp,hop,resolve];simp[invoke,builtin]
       have hlist:List.range (#[op]:Array Oper).size=[0]:=rfl;rw[hlist];unfold wpOpsS;simp only[List.getElem?_toArray,List.getElem?_cons_zero];have hw: ∀y,Region.wanted op y=true:=fun y=>by unfold Region.wanted;rw[hg]
       rw[if_pos (hw _),hexec];simp only[hd];have hstart:=mM (fn:=fn) hi;have fin: ∀(v:Value) (u':FrameMode),settle u'=.returning→aN g rec v→
         Code.wpS E.P b (bodyPostS E.P fn c₀ cs fun e u' w'=>∃x' bs g' v,K (.out false x' bs)=some r∧(∃v',e=.returned v')∧settle u'=.returning∧Inv E B g.G w ⟨[x'],fC 0 args bs⟩ g' ⟨#[v],[]⟩ w')
          (Act.put {tmps:=vs.toArray++Array.replicate (fn.ntmps-vs.toArray.size) undef,defers:=[]} (some d) v) ({c₀ with mode:=u'}::cs) w:=by
        intro v u' hset hv;refine wpS_of_wp (pq hE hc _ fuel b _ _ r h g _ w (hstart.put (some d) hv) _ fun e s' g' a' w' he hi'=>?_);have hret:qy false (.tup []) s' args K=some r∧(e=.norm∨e=.ret):=by
         cases e with
         |norm=>exact⟨he,.inl rfl⟩
         |ret=>exact⟨he,.inr rfl⟩
         |exit id=>cases he
         |oL v=>cases he
        obtain⟨ho,hee⟩:=hret;obtain⟨x',bs,hK,_,htup,hinv⟩:=Fh (E:=E) ho;have hrun:(results fn a'.tmps).run E.P w'=.ok (.tuple #[]) w':=by
         have:=nN (fn:=fn) (a:=a') (w:=w') (E:=E) (us:=[]) (by rw[hres];rfl);simpa[AA] using this
        have sI:a'.defers=[]:=hi'.df.trans hdf;have hfin: ∃g2,Inv E B g.G w ⟨[x'],fC 0 args bs⟩ g2 ⟨#[.tuple #[]],[]⟩ w':=by
         exact hinv rfl rfl hdf (fun _ _ _=>rfl) hi' (v:=.tuple #[]) ⟨[],rfl,.nil⟩
        obtain⟨g2,h2⟩:=hfin;have hpost:a'.defers=[]∧ ∃u'',({c₀ with mode:=u'}::cs:List Frame)={c₀ with mode:=u''}::cs∧ ∃v,(results fn a'.tmps).run E.P w'=.ok v w'∧ ∃x' bs g' v_1,K (.out false x' bs)=some r∧(∃v',Ending.returned v=.returned v')∧settle u''=.returning∧Inv E B g.G w ⟨[x'],fC 0 args bs⟩ g' ⟨#[v_1],[]⟩ w':=
         ⟨sI,u',rfl,_,hrun,x',bs,g2,_,hK,⟨_,rfl⟩,hset,h2⟩
        rcases hee with rfl|rfl
        ·exact hpost
        ·exact hpost
       rcases hu with⟨rfl,rfl⟩|⟨q,hq,rfl⟩
       ·have hrec:recoverD (c₀::cs)=none:=by simp only[recoverD,hc₀]
        rw[hrec];have:=fin .nilIface .returning rfl (mO.2 rfl);have e1:({c₀ with mode:=.returning}:Frame)=c₀:=by rw[←hc₀]
        rw[e1] at this;exact this
       ·have hrec:recoverD (c₀::cs)=some (q,{c₀ with mode:=.panicking [{v:=q,recovered:=true}]}::cs):=by simp only[recoverD,hc₀]
        rw[hrec];exact fin q _ rfl (zP hq).1
      ·cases h
     ·cases h
    ·cases h
   ·cases h
  ·cases h
def FOk (E:Env) (f:Nat) (args:List V) (v:V):Prop:=(tQ v=false∧af E f (args.map V.xA) v)∨(∃p x bs,v=.out p x bs∧XC E f args p x bs)∨ ∃p x,v=.keep p x∧KC E f args p x
theorem JH {x:V} (h:x.fo=true):x.plain=true:=by
 cases x with
 |sl e sh o xs=>cases o<;>first|rfl|cases h
 |agg cs=>rfl
 |rptr sh y off=>rfl
 |iface t y=>rfl
 |_=>cases h
theorem Ec {G:aP} {g:Gh} (h1:g.G=G) (h2:g.G1=G): ∀{args:List V} {us:List Value},Ay args=some args→handed args=false→PW (aO G) (args.map V.xA) us→PW (aN g) args us
 |[],us,_,_,hp=>by rw[hp.bU];exact .nil
 |x::l,us,ha,hh,hp=>by
  obtain⟨v,t,rfl,hv,ht⟩:=hp.cons_inv;unfold handed at hh;rw[List.any_cons,Bool.or_eq_false_iff] at hh;unfold Ay at ha;split at ha
  ·rename_i a b hxa hlb
   simp only[Option.some.injEq,List.cons.injEq] at ha;obtain⟨rfl,rfl⟩:=ha;refine .cons ?_ (Ec h1 h2 hlb hh.2 ht);have dp: ∀{y:V},y.deep=some y→aO G y v→aN g y v:=fun hd hr=>bR (jG hd) (by rw[h1];exact hr)
   cases a with
   |bxa off cs=>cases hh.1
   |sl e sh o xs=>cases o with
    |none=>exact dp rfl hv
    |some L=>cases hh.1
   |old y=>
    have hxa:(bif y.fo then some (V.old y) else none)=some (.old y):=hxa;obtain⟨ho,_⟩:=aD hxa;have hv:aO G (bif y.fo then y else .any) v:=hv;rw[ho,cond_true] at hv;exact⟨by rw[h2];exact hv,by rw[h1];exact hv,JH ho⟩
   |fn f c=>cases c with
    |nil=>exact dp rfl hv
    |cons c cs=>
     have hv:aO G (.fn f (c::cs)) v:=hv;unfold aO at hv;exact absurd hv.2 (by simp)
   |_=>exact dp hxa hv
  ·cases ha
theorem jr {f:Nat} {args:List V} {r:V} (ha:Ay args=some args) (hh:handed args=false)
  (h: ∀(B:Own) (g:Gh) (w:World) (us:List Value),B.df=[]→Inv E B g.G w ⟨args,[]⟩ g ⟨us.toArray,[]⟩ w→Calls E.P f us.toArray w fun e w'=>∃v g',e=.returned v∧Inv E B g.G w ⟨[],[]⟩ g' ⟨#[],[]⟩ w'∧fG g'.G w' B.m r v):af E f (args.map V.xA) r:=by
 intro G w us hG hglob hp;have hp:=Ec (g:=⟨G,fun _=>none,fun _=>none,G,fun _=>none⟩) rfl rfl ha hh hp;have hi:Inv E ⟨(w.heap.size≤ ·),w.heap.size,fun _=>none,[]⟩ G w ⟨args,[]⟩ ⟨G,fun _=>none,fun _=>none,G,fun _=>none⟩ ⟨us.toArray,[]⟩ w:=by
  refine⟨?_,rfl,hG,⟨fun L v e sz h=>(by cases h),fun L L' v v' e e' sz sz' b h=>(by cases h)⟩,⟨fun k cs h=>(by cases h),fun k k' cs cs' h=>(by cases h)⟩,.refl _ _,⟨Nat.le_refl _,fun b hb=>hb⟩,⟨fun _ _=>rfl,.refl _,fun _ _=>rfl⟩,⟨hglob,fun b l hb=>d9 hG hb⟩,.refl _,fun k cs L v e sz b hk=>(by cases hk)⟩;show PW _ args us.toArray.toList;rw[List.toList_toArray];exact hp
 refine Calls.mono (h _ ⟨G,fun _=>none,fun _=>none,G,fun _=>none⟩ w us rfl hi) ?_;rintro e w' ⟨v,g',rfl,hi',hr⟩;exact⟨v,g'.G,rfl,⟨hi'.mg.below,fun b hb=>hi'.ext.1 b (Nat.not_le.2 hb),hi'.gok⟩,hr⟩
theorem Inv.drop {B B2:Own} {G0:aP} {w0:World} {s:St} {g:Gh} {a:Act} {w:World} (h:Inv E B G0 w0 s g a w) (hm:B2.m=B.m) (hn:B2.n=B.n): ∃g',g'.G=g.G∧Inv E B2 G0 w0 ⟨[],[]⟩ g' ⟨#[],B2.df⟩ w:=by
 refine⟨⟨g.G,fun _=>none,B2.β,g.G1,fun _=>none⟩,rfl,⟨.nil,rfl,h.gok,⟨fun L v e sz hL=>(by cases hL),fun L L' v v' e e' sz sz' b hL=>(by cases hL)⟩,⟨fun k cs hk=>(by cases hk),fun k k' cs cs' hk=>(by cases hk)⟩,by rw[hm];exact h.mg,by rw[hm,hn];exact h.hB,⟨fun b hb=>h.ext.1 b (by rw[←hm];exact hb),h.ext.2.1,fun _ _=>rfl⟩,by rw[hn];exact h.glob,h.g1,fun k cs L v e sz b hk=>(by cases hk)⟩⟩
theorem Ye {s:St} {rs:List ResultVar} {p:Bool} {x:V} {bs:List (List V)} (h:rq E.P s rs=some [.out p x bs]):tQ (.out p x bs)=false:=by
 exfalso
 cases rs with
 |nil=>cases h
 |cons r rs=>
  simp only[rq] at h;split at h
  ·cases h
  ·rename_i y hy
   split at h
   ·cases h
   ·simp only[Option.some.injEq,List.cons.injEq] at h
    obtain⟨rfl,_⟩:=h;have:=D9 hy;rcases this with h|⟨e,sh,o,xs,h⟩|⟨cs,h⟩
    ·cases h
    ·cases h
    ·cases h
theorem T8 {s:St} {rs:List ResultVar} {p:Bool} {x:V} (h:rq E.P s rs=some [.keep p x]):tQ (.keep p x)=false:=by
 exfalso
 cases rs with
 |nil=>cases h
 |cons r rs=>
  simp only[rq] at h;split at h
  ·cases h
  ·rename_i y hy
   split at h
   ·cases h
   ·simp only[Option.some.injEq,List.cons.injEq] at h
    obtain⟨rfl,_⟩:=h;have:=D9 hy;rcases this with h|⟨e,sh,o,xs,h⟩|⟨cs,h⟩
    ·cases h
    ·cases h
    ·cases h
def Vi (E:Env) (fn:Func) (s:St) (v:V):Prop:=
 ∀{B B2:Own} {G0:aP} {w0:World} {g:Gh} {a:Act} {w:World},B2.m=B.m→B2.n=B.n→Inv E B G0 w0 s g a w→ ∃u g2,(results fn a.tmps).run E.P w=.ok u w∧Inv E B2 G0 w0 ⟨[],[]⟩ g2 ⟨#[],B2.df⟩ w∧fG g2.G w B.m v u
theorem T9 {fn:Func} {s:St} {vs:List V} (h:rq E.P s fn.results.toList=some vs):Vi E fn s (O3 vs):=by
 intro B B2 G0 w0 g a w hm hn hi;obtain⟨us,hu,hpu⟩:=qU hi _ _ h;have hres:=ret_res hi.own hpu;obtain⟨g2,hg2,hfo⟩:=hi.drop (B2:=B2) hm hn;rw[←hg2] at hres;exact⟨_,g2,nN hu,hfo,hres⟩
theorem kd_fits {v y:V} {k:Kd} (h:Sm v=some k) (hd:v.deep=some y):fits k y=true:=by
 cases v with
 |bool b=>simp only[Sm,Option.some.injEq] at h;simp only[V.deep,Option.some.injEq] at hd;subst h;subst hd;rfl
 |int k n=>simp only[Sm,Option.some.injEq] at h;simp only[V.deep,Option.some.injEq] at hd;subst h;subst hd;simp[fits]
 |str l=>simp only[Sm,Option.some.injEq] at h;simp only[V.deep,Option.some.injEq] at hd;subst h;subst hd;rfl
 |sl e sh o xs=>
  simp only[Sm] at h;obtain⟨h1,h2⟩:=aD h;simp only[V.deep,Option.some.injEq] at hd;simp only[Option.some.injEq] at h2;subst h2;subst hd;simp[fits,h1]
 |_=>simp[Sm] at h
theorem PD: ∀{vs ys:List V} {ks:List Kd},J9 vs=some ks→V.xJ vs=some ys→bC ks ys=true
 |[],ys,ks,h,hd=>by
  simp only[J9,Option.some.injEq] at h;simp only[V.xJ,Option.some.injEq] at hd;subst h;subst hd;rfl
 |v::l,ys,ks,h,hd=>by
  simp only[J9] at h;simp only[V.xJ] at hd;split at h
  ·rename_i k ks' hk hks
   split at hd
   ·rename_i y ys' hy hys
    simp only[Option.some.injEq] at h hd;subst h;subst hd;simp only[bC,kd_fits hk hy,PD hks hys];rfl
   ·cases hd
  ·cases h
theorem VL {s:St} {rs:List ResultVar} {v:V} (h:FY s rs=some v): ∃t k cells sh cs,rs=[.tmp t]∧slot s.fr t=.box k 0∧ax s.bx k=some cells∧J9 cells=some sh∧V.xJ cells=some cs∧v=.rptr sh (.agg cs) 0:=by
 unfold FY at h;split at h
 ·rename_i t
  split at h
  ·rename_i k off hsl
   obtain⟨h1,h2⟩:=aD h;obtain rfl:off=0:=by simpa using h1
   split at h2
   ·rename_i cells hc
    split at h2
    ·rename_i sh hk
     split at h2
     ·rename_i cs hd
      simp only[Option.some.injEq] at h2;exact⟨t,k,cells,sh,cs,rfl,hsl,hc,hk,hd,h2.symm⟩
     ·cases h2
    ·cases h2
   ·cases h2
  ·cases h
 ·cases h
theorem frz_out {s:St} {rs:List ResultVar} {v:V} (h:FY s rs=some v):tQ v=false:=by
 obtain⟨_,_,_,_,_,_,_,_,_,_,rfl⟩:=VL h;rfl
theorem Ua {fn:Func} {s:St} {v:V} (h:FY s fn.results.toList=some v):Vi E fn s v:=by
 obtain⟨t,k,cells,sh,cs,hrs,hsl,hl,hk,hd,rfl⟩:=VL h;intro B B2 G0 w0 g a w hm hn hi;have hev:aN g (slot s.fr t) (a.tmps.getD t undef):=eF hi.fr hi.nD (.tmp t);rw[hsl] at hev;obtain⟨b,hb,hv⟩:=dM.1 hev;obtain⟨b',c,e,hb',hBb,hh,hp,ho,hG,_⟩:=hi.bxs.1 k cells hl;rw[hb] at hb';simp only[Option.some.injEq] at hb';subst hb';have hrun:(fn.results.toList.mapM (zn a)).run E.P w=.ok [a.tmps.getD t undef] w:=by
  rw[hrs,List.mapM_cons];rfl
 have hmore:lY g.G (upd g.G b c.toList):=by
  intro j l hj;have:j≠b:=fun e=>by rw[e,hG] at hj;cases hj
  exact⟨l,by rw[gI _ _ _ _ this];exact hj,List.prefix_refl _⟩
 have hfit:=PD hk hd;have hpw:PW (aO (upd g.G b c.toList)) cs c.toList:=(GJ cells cs c.toList hd hp).mono fun x _ u hu=>gX hmore x u hu
 obtain⟨g2,hg2,hfo⟩:=hi.drop (B2:=B2) hm hn;refine⟨_,⟨upd g.G b c.toList,fun _=>none,B2.β,g2.G1,fun _=>none⟩,nN hrun,?_,?_⟩
 ·refine⟨.nil,rfl,?_,⟨fun L v e sz hL=>(by cases hL),fun L L' v v' e e' sz sz' b hL=>(by cases hL)⟩,⟨fun k cs hk=>(by cases hk),fun k k' cs cs' hk=>(by cases hk)⟩,hfo.mg,hfo.hB,⟨fun j hj=>?_,?_,fun _ _=>rfl⟩,hfo.glob,hfo.g1,fun k cs L v e sz b hk=>(by cases hk)⟩
  ·intro j l hj
   have hj:upd g.G b c.toList j=some l:=hj;by_cases e1:j=b
   ·subst e1
    rw[upd_same] at hj;obtain rfl:=Option.some.inj hj;exact⟨c,e,_,hh,List.take_length⟩
   ·rw[gI _ _ _ _ e1] at hj
    exact hi.gok j l hj
  ·have:j≠b:=fun e1=>hj (by rw[e1,hm];exact hBb)
   show upd g.G b c.toList j=_;rw[gI _ _ _ _ this];exact hi.ext.1 j (by rw[←hm];exact hj)
  ·exact hi.ext.2.1.trans hmore
 ·rw[show AA [a.tmps.getD t undef]=a.tmps.getD t undef from rfl,hv]
  show aO (upd g.G b c.toList) (.rptr sh (.agg cs) 0) _;unfold aO;refine⟨b,0,c.toList,rfl,upd_same _ _ _,hfit,.agg c,?_,?_⟩
  ·unfold aO
   exact⟨c.toList,by simp,(dL _ _).2 hpw⟩
  ·have h1:=jd _ _ hfit
   have h2:cs.length=c.toList.length:=hpw.1;rw[List.drop_zero,h1,h2,List.take_length];simp[Value.cells]
theorem lD {α:Type} {fn:Func} {args:List V} {K:V→Option α} {r:α} {e:Ex} {s':St} (he:Jb E.P fn args K e s'=some r):
  ∃v,K v=some r∧((tQ v=false∧handed args=false∧(e=.norm∨e=.ret)∧Vi E fn s' v)∨
   (∃x bs,v=.out false x bs∧(e=.norm∨e=.ret)∧ ∀{B B2:Own} {G0:aP} {w0:World} {g:Gh} {a:Act} {w:World},B2.m=B.m→B2.n=B.n→B2.df=[]→(∀a b,(a,b)∈jO 0 args→B2.β a=B.β a)→Inv E B G0 w0 s' g a w→ ∃u g',(results fn a.tmps).run E.P w=.ok u w∧Inv E B2 G0 w0 ⟨[x],fC 0 args bs⟩ g' ⟨#[u],[]⟩ w)∨
   (∃x bs u,v=.out true x bs∧(∃y,e=.oL y∧cr y=some u)∧ ∀{B B2:Own} {G0:aP} {w0:World} {g:Gh} {a:Act} {w:World},B2.m=B.m→B2.n=B.n→B2.df=[]→(∀a b,(a,b)∈jO 0 args→B2.β a=B.β a)→Inv E B G0 w0 s' g a w→ ∃g',Inv E B2 G0 w0 ⟨[x],fC 0 args bs⟩ g' ⟨#[u],[]⟩ w)):=by
 have VM:(e=.norm∨e=.ret)→(match rq E.P s' fn.results.toList with|some vs=>(bif handed args then qy false (Va vs) s' args K else K (O3 vs))|none=>bif handed args then none else(match FY s' fn.results.toList with|some r=>K r|none=>none))=some r→
   ∃v,K v=some r∧((tQ v=false∧handed args=false∧(e=.norm∨e=.ret)∧Vi E fn s' v)∨
   (∃x bs,v=.out false x bs∧(e=.norm∨e=.ret)∧ ∀{B B2:Own} {G0:aP} {w0:World} {g:Gh} {a:Act} {w:World},B2.m=B.m→B2.n=B.n→B2.df=[]→(∀a b,(a,b)∈jO 0 args→B2.β a=B.β a)→Inv E B G0 w0 s' g a w→ ∃u g',(results fn a.tmps).run E.P w=.ok u w∧Inv E B2 G0 w0 ⟨[x],fC 0 args bs⟩ g' ⟨#[u],[]⟩ w)∨
   (∃x bs u,v=.out true x bs∧(∃y,e=.oL y∧cr y=some u)∧ ∀{B B2:Own} {G0:aP} {w0:World} {g:Gh} {a:Act} {w:World},B2.m=B.m→B2.n=B.n→B2.df=[]→(∀a b,(a,b)∈jO 0 args→B2.β a=B.β a)→Inv E B G0 w0 s' g a w→ ∃g',Inv E B2 G0 w0 ⟨[x],fC 0 args bs⟩ g' ⟨#[u],[]⟩ w)):=by
  intro hee h;split at h
  ·rename_i vs hvs
   cases hh:handed args with
   |false=>
    rw[hh,cond_false] at h;refine⟨_,h,.inl ⟨?_,rfl,hee,T9 hvs⟩⟩
    cases vs with
    |nil=>rfl
    |cons v l=>cases l with
     |cons _ _=>rfl
     |nil=>
      have:nX v=true:=by
       cases hres:fn.results.toList with
       |nil=>rw[hres] at hvs;cases hvs
       |cons x rs=>
        rw[hres] at hvs;simp only[rq] at hvs;split at hvs
        ·cases hvs
        ·rename_i y hy
         split at hvs
         ·cases hvs
         ·simp only[Option.some.injEq,List.cons.injEq] at hvs
          rw[←hvs.1];exact Yb hy
      show tQ v=false
      cases v with
      |out _ _ _=>exact Ye hvs
      |keep _ _=>exact T8 hvs
      |_=>rfl
   |true=>
    rw[hh,cond_true] at h;obtain⟨x',bs,hK,_,_,hinv⟩:=Fh (E:=E) h;refine⟨_,hK,.inr (.inl ⟨x',bs,rfl,hee,fun {B B2 G0 w0 g a w} m1 m2 m3 m4 hi=>?_⟩)⟩;obtain⟨us,hu,hpu⟩:=qU hi _ _ hvs;obtain⟨g',h2⟩:=hinv m1 m2 m3 m4 hi (Yc hpu);exact⟨_,g',nN hu,h2⟩
  ·cases hh:handed args with
   |true=>rw[hh,cond_true] at h;cases h
   |false=>
    rw[hh,cond_false] at h;split at h
    ·rename_i v hv
     exact⟨v,h,.inl ⟨frz_out hv,rfl,hee,Ua hv⟩⟩
    ·cases h
 cases e with
 |norm=>exact VM (.inl rfl) he
 |ret=>exact VM (.inr rfl) he
 |exit id=>cases he
 |oL y=>
  have he:(match cr y with|some _=>qy true y s' args K|none=>none)=some r:=he;split at he
  ·rename_i u hu
   obtain⟨x',bs,hK,hif,_,hinv⟩:=Fh (E:=E) he;refine⟨_,hK,.inr (.inr ⟨x',bs,u,rfl,⟨y,rfl,hu⟩,fun {B B2 G0 w0 g a w} m1 m2 m3 m4 hi=>hinv m1 m2 m3 m4 hi (zP hu).1⟩)⟩
  ·cases he
theorem Inv.redf {B:Own} {G0:aP} {w0:World} {s:St} {g:Gh} {a:Act} {w:World} (h:Inv E B G0 w0 s g a w) (df:List Deferred):Inv E {B with df:=df} G0 w0 s g {a with defers:=df} w:=
 ⟨h.fr,rfl,h.gok,h.own,h.bxs,h.mg,h.hB,h.ext,h.glob,h.g1,h.zb⟩
theorem Ir {c a b:Code} {o1 o2:Oper} (h:MR c=some (a,o1,o2,b)): ∃id,c=.seq a (.seq (.region id #[o1,o2] false) b):=by
 unfold MR at h;split at h
 ·rename_i x id ops y
  split at h
  ·rename_i p q hops
   split at h
   ·simp only[Option.some.injEq,Prod.mk.injEq] at h
    obtain⟨rfl,rfl,rfl,rfl⟩:=h;have:ops= #[p,q]:=by rw[←Array.toList_inj];simpa using hops
    exact⟨id,by rw[this]⟩
   ·cases h
  ·cases h
 ·cases h
end
section
variable {E:Env}
theorem Bh {g:Gh} {β':Nat→Option Nat} {k k':Nat} (h1:β' k'=g.β k) (h2: ∀j,j≠k'→β' j=g.β j) {x:V} {v:Value} (hx:sS k' x=false) (h:bH g x v):bH {g with β:=β'} (rbV k k' x) v:=by
 cases x with
 |box j off=>
  obtain⟨b,hb,hv⟩:=h;show bH _ (bif j==k then .box k' off else .box j off) v
  cases hj:j==k with
  |true=>
   obtain rfl:j=k:=by simpa using hj
   exact⟨b,h1.trans hb,hv⟩
  |false=>
   have hne:j≠k':=fun e=>by subst e;simp[sS] at hx
   exact⟨b,(h2 j hne).trans hb,hv⟩
 |sl e sh ow xs=>cases ow<;>exact h
 |eptr _ _ _ _ _ _=>exact h
 |_=>exact h
theorem Ub {k k':Nat} {x:V} (h:x.single=true):(rbV k k' x).single=true:=by
 cases x with
 |box j off=>show(bif j==k then V.box k' off else .box j off).single=true;cases j==k<;>rfl
 |tup _=>cases h
 |fn _ _=>cases h
 |_=>rfl
theorem VN {g:Gh} {β':Nat→Option Nat} {k k':Nat} (h1:β' k'=g.β k) (h2: ∀j,j≠k'→β' j=g.β j) {x:V} {v:Value} (hx:x.gF k'=false) (h:aN g x v):aN {g with β:=β'} (x.rb k k') v:=by
 cases x with
 |tup vs=>
  obtain⟨a,rfl,h⟩:=h;simp only[V.gF,List.any_eq_false] at hx;exact⟨a,rfl,dO h fun y hy v hv=>Bh h1 h2 (by have:=hx y hy;simpa using this) hv⟩
 |fn f c=>
  obtain⟨a,rfl,h⟩:=h;simp only[V.gF,List.any_eq_false] at hx;exact⟨a,rfl,dO h fun y hy v hv=>Bh h1 h2 (by have:=hx y hy;simpa using this) hv⟩
 |box j off=>exact bu (Ub (x:=.box j off) rfl) (Bh (x:=.box j off) h1 h2 hx (aV (x:=.box j off) rfl h))
 |_=>simp only[aN,V.gF] at h hx⊢;exact Bh h1 h2 hx h
theorem rX {k k':Nat}: ∀(l:List (Nat×List V)),(∀p∈l,p.1≠k')→ ∀j cs,ax (rbBx k k' l) j=some cs→ ∃j0 cs0,ax l j0=some cs0∧cs=cs0.map (V.rb k k')∧j=if j0=k then k' else j0
 |[],_,j,cs,h=>by cases h
 |(i,c)::l,hl,j,cs,h=>by
  have hi:i≠k':=hl (i,c) List.mem_cons_self;unfold rbBx ax at h
  cases hq:(bif i==k then k' else i)==j with
  |true=>
   rw[hq,cond_true] at h;simp only[Option.some.injEq] at h;refine⟨i,c,by unfold ax;rw[beq_self_eq_true,cond_true],h.symm,?_⟩;rw[beq_iff_eq] at hq;rw[←hq];by_cases hik:i=k
   ·subst hik;rw[beq_self_eq_true,cond_true,if_pos rfl]
   ·have:(i==k)=false:=by simpa using hik
    rw[this,cond_false,if_neg hik]
  |false=>
   rw[hq,cond_false] at h;obtain⟨j0,cs0,h1,h2,h3⟩:=rX l (fun p hp=>hl p (List.mem_cons_of_mem _ hp)) j cs h;refine⟨j0,cs0,?_,h2,h3⟩;unfold ax;have hne:i≠j0:=by
    intro e;subst e;rw[beq_eq_false_iff_ne] at hq;apply hq
    rw[h3];by_cases hik:i=k
    ·subst hik;rw[beq_self_eq_true,cond_true,if_pos rfl]
    ·have:(i==k)=false:=by simpa using hik
     rw[this,cond_false,if_neg hik]
   have:(i==j0)=false:=by simpa using hne
   rw[this,cond_false];exact h1
theorem Inv.rb {B:Own} {G0:aP} {w0:World} {s:St} {g:Gh} {a:Act} {w:World} (h:Inv E B G0 w0 s g a w) {k k':Nat} (hn:s.mo k'=true) (hk:k≠k'):
  Inv E {B with β:=fun j=>if j=k' then g.β k else B.β j} G0 w0 (s.rb k k') {g with β:=fun j=>if j=k' then g.β k else g.β j} a w:=by
 have h1:(fun j=>if j=k' then g.β k else g.β j) k'=g.β k:=if_pos rfl;have h2: ∀j,j≠k'→(fun j=>if j=k' then g.β k else g.β j) j=g.β j:=fun j hj=>if_neg hj
 have hkeys: ∀p∈s.bx,p.1≠k':=fun p hp e=>by
  unfold St.mo at hn;rw[Bool.and_eq_true,List.all_eq_true,List.all_eq_true] at hn;have:=hn.2 p hp;simp only[Bool.and_eq_true] at this;have:=fD this.1;rw[beq_eq_false_iff_ne] at this;exact this e
 refine⟨dO h.fr fun x hx v=>VN h1 h2 (GR hn x hx),h.df,h.gok,h.own,⟨fun j cs hj=>?_,fun j j' cs cs' hj hj' hb=>?_⟩,h.mg,h.hB,⟨h.ext.1,h.ext.2.1,fun j hj=>?_⟩,h.glob,h.g1,fun j cs L v e sz b hj hL hb hβ=>?_⟩
 ·obtain⟨j0,cs0,q1,rfl,rfl⟩:=rX s.bx hkeys j cs hj
  obtain⟨b,c,e,r1,r2,r3,r4,r5,r6,r7⟩:=h.bxs.1 j0 cs0 q1;have hj0:j0≠k':=hkeys _ (jJ _ _ _ q1);refine⟨b,c,e,?_,r2,r3,dO r4 fun x hx v=>VN h1 h2 ((vz hn j0 cs0 q1).2 x hx),r5,r6,kM (rb_nilp _ _) r7⟩;show(if(if j0=k then k' else j0)=k' then g.β k else g.β (if j0=k then k' else j0))=some b;by_cases hjk:j0=k
  ·subst hjk;simp[r1]
  ·rw[if_neg hjk,if_neg hj0];exact r1
 ·obtain⟨j0,cs0,q1,_,rfl⟩:=rX s.bx hkeys j cs hj
  obtain⟨j1,cs1,q2,_,rfl⟩:=rX s.bx hkeys j' cs' hj';have hj0:j0≠k':=hkeys _ (jJ _ _ _ q1);have hj1:j1≠k':=hkeys _ (jJ _ _ _ q2);have e0: ∀j,j≠k'→(if(if j=k then k' else j)=k' then g.β k else g.β (if j=k then k' else j))=g.β j:=by
   intro j hj;by_cases hjk:j=k
   ·subst hjk;simp
   ·rw[if_neg hjk,if_neg hj]
  have hb:(if(if j0=k then k' else j0)=k' then g.β k else g.β (if j0=k then k' else j0))=(if(if j1=k then k' else j1)=k' then g.β k else g.β (if j1=k then k' else j1)):=hb;rw[e0 j0 hj0,e0 j1 hj1] at hb;rw[h.bxs.2 j0 j1 cs0 cs1 q1 q2 hb]
 ·show(if j=k' then g.β k else g.β j)=(if j=k' then g.β k else B.β j)
  split
  ·rfl
  ·exact h.ext.2.2 j hj
 ·obtain⟨j0,cs0,q1,_,rfl⟩:=rX s.bx hkeys j cs hj
  have hj0:j0≠k':=hkeys _ (jJ _ _ _ q1);have hβ:(if(if j0=k then k' else j0)=k' then g.β k else g.β (if j0=k then k' else j0))=some b:=hβ;refine h.zb j0 cs0 L v e sz b q1 hL hb ?_;by_cases hjk:j0=k
  ·subst hjk;simpa using hβ
  ·rw[if_neg hjk,if_neg hj0] at hβ;exact hβ
theorem PE {G0:aP} {w0:World} {a:Act} {w:World}: ∀(bJ:List V) (j:Nat) (B:Own) (s s':St) (g:Gh) (cv:List Value),Inv E B G0 w0 s g a w→qD j bJ s=some s'→PW (bH g) bJ cv→
  ∃B' g',B'.m=B.m∧B'.n=B.n∧B'.df=B.df∧(∀k,k<HL+5000+j→B'.β k=B.β k)∧(∀i v,cv[i]? =some v→ ∃b,B'.β (HL+5000+j+i)=some b∧v=.pointer (some ⟨b,0,none⟩))∧Inv E B' G0 w0 s' g' a w
 |[],j,B,s,s',g,cv,h,hr,hp=>by
  simp only[qD,Option.some.injEq] at hr;subst hr;rw[hp.bU];exact⟨B,g,rfl,rfl,rfl,fun _ _=>rfl,fun i v hv=>by simp at hv,h⟩
 |x::bJ,j,B,s,s',g,cv,h,hr,hp=>by
  cases x with
  |box k off=>
   cases off with
   |succ n=>cases hr
   |zero=>
   unfold qD at hr;obtain⟨hc,hr⟩:=aD hr;rw[Bool.and_eq_true] at hc;have hkl:=jk hc.2;obtain⟨v,t,rfl,⟨b,hb,hv⟩,ht⟩:=hp.cons_inv;have hk:k≠HL+5000+j:=by omega
   have h1:=h.rb hc.1 hk;have ht':PW (bH {g with β:=fun i=>if i=HL+5000+j then g.β k else g.β i}) bJ t:=by
    refine caps_pw (s:=s.rb k (HL+5000+j)) bJ (j+1) hr ht fun i hi=>?_
    show(if i=HL+5000+j then g.β k else g.β i)=g.β i;rw[if_neg (by omega)]
   obtain⟨B',g',m1,m2,m3,m4,m5,m6⟩:=PE bJ (j+1) _ _ s' _ t h1 hr ht';refine⟨B',g',m1,m2,m3,fun i hi=>?_,fun i u hu=>?_,m6⟩
   ·rw[m4 i (by omega)]
    show(if i=HL+5000+j then g.β k else B.β i)=B.β i;rw[if_neg (by omega)]
   ·cases i with
    |zero=>
     simp only[List.getElem?_cons_zero,Option.some.injEq] at hu;subst hu;refine⟨b,?_,hv⟩;rw[Nat.add_zero,m4 (HL+5000+j) (by omega)];show(if HL+5000+j=HL+5000+j then g.β k else _)=some b;rw[if_pos rfl];exact hb
    |succ i=>
     simp only[List.getElem?_cons_succ] at hu;obtain⟨b',q1,q2⟩:=m5 i u hu;exact⟨b',by rw[←q1];congr 1;omega,q2⟩
  |_=>cases hr
where
 caps_pw {g:Gh} {β':Nat→Option Nat} {s s':St}: ∀(bJ:List V) (j:Nat),qD j bJ s=some s'→ ∀{t:List Value},PW (bH g) bJ t→(∀i,i<HL→β' i=g.β i)→PW (bH {g with β:=β'}) bJ t:=by
  intro bJ;induction bJ generalizing s with
  |nil=>intro j _ t hp _;rw[hp.bU];exact .nil
  |cons x bJ ih=>
   intro j hr t hp hβ;obtain⟨v,t,rfl,h1,h2⟩:=hp.cons_inv
   cases x with
   |box k off=>
    cases off with
    |succ n=>cases hr
    |zero=>
     unfold qD at hr;obtain⟨hc,hr⟩:=aD hr;rw[Bool.and_eq_true] at hc;obtain⟨b,hb,hv⟩:=h1;exact .cons ⟨b,(hβ k (jk hc.2)).trans hb,hv⟩ (ih (j+1) hr h2 hβ)
   |_=>cases hr
theorem Iu {g:Gh}: ∀(bJ:List V) (j:Nat) (cv:List Value),bJ.length=cv.length→(∀i v,cv[i]? =some v→ ∃b,g.β (HL+5000+j+i)=some b∧v=.pointer (some ⟨b,0,none⟩))→PW (LQ g) (kQ j bJ) cv
 |[],j,cv,hl,_=>by
  have:cv=[]:=List.eq_nil_of_length_eq_zero hl.symm;rw[this];exact .nil
 |x::bJ,j,[],hl,_=>by simp at hl
 |x::bJ,j,v::cv,hl,h=>by
  unfold kQ;obtain⟨b,h1,h2⟩:=h 0 v rfl;refine .cons (.inr ⟨b,by simpa using h1,h2⟩) (Iu bJ (j+1) cv (by simpa using hl) fun i u hu=>?_);obtain⟨b',q1,q2⟩:=h (i+1) u (by simpa using hu);exact⟨b',by rw[←q1];congr 1;omega,q2⟩
theorem VO: ∀(args:List V) (j:Nat) {a b:Nat},(a,b)∈jO j args→a<HL+j+args.length
 |[],j,a,b,h=>by cases h
 |x::args,j,a,b,h=>by
  have rest:(a,b)∈jO (j+1) args→a<HL+j+(x::args).length:=fun h=>by have:=VO args (j+1) h;rw[List.length_cons];omega
  cases x with
  |bxa off cs=>
   unfold jO at h;rcases List.mem_cons.1 h with h|h
   ·simp only[Prod.mk.injEq] at h
    obtain⟨rfl,rfl⟩:=h;rw[List.length_cons];omega
   ·exact rest h
  |_=>exact rest h
theorem NZ (hE:tY E) {id:Nat} (hb:jQ E.P id=true) (args:Array Value) (w:World):(callFunc id args).run E.P w=.ok (.enter id args) w:=by
 unfold jQ at hb;split at hb
 ·rename_i fn hfn
  have hname:fn.name≠ "runtime.NumGoroutine" :=by
   have:=Array.all_eq_true_iff_forall_mem.1 hE.names fn (Array.mem_of_getElem? hfn);have hbn:fn.body.isNone=false:=by cases hq:fn.body with|none=>rw[hq] at hb;cases hb|some _=>rfl
   rw[hbn] at this;simpa using this
  obtain⟨bd,hbd⟩:=Option.isSome_iff_exists.1 hb;simp[callFunc,hfn,hname,hbd]
 ·cases hb
theorem nK {args:List V} (hh:handed args=false):bI 0 args=args∧dH 0 args=[]:=by
 have: ∀(l:List V) (j:Nat),handed l=false→bI j l=l∧dH j l=[]:=by
  intro l;induction l with
  |nil=>intro j _;exact⟨rfl,rfl⟩
  |cons x l ih=>
   intro j h;unfold handed at h;rw[List.any_cons,Bool.or_eq_false_iff] at h;obtain⟨h1,h2⟩:=ih (j+1) h.2
   cases x with
   |bxa off cs=>cases h.1
   |_=>exact⟨by unfold bI;rw[h1];rfl,h2⟩
 exact this args 0 hh
def DfEnd (E:Env) (fn:Func) (gf:Nat) (bJ args:List V) (B:Own) (g:Gh) (R:Ending→World→Prop) (e3:Ex) (s3:St) (w:World):Prop:=
 ∃(rec:V) (as:List V) (mb ml:List (Nat×Nat)) (Φ:V→List (List V)→Prop),((rec=.nilif∧(e3=.norm∨e3=.ret))∨ ∃u,e3=.oL rec∧cr rec=some u)∧
  o5 s3.bx 0 (kQ 0 bJ)=some (as,mb,ml)∧oZ mb ml=true∧jQ E.P gf=true∧DC E gf as rec Φ∧ ∀x0 Oq,Φ x0 Oq→ ∃s4,o8 s3 none mb ml x0 Oq=some s4∧
  ∀B4 g4 a4 w4,B.m=B4.m→B.n=B4.n→(∀a b,(a,b)∈jO 0 args→B.β a=B4.β a)→Inv E B4 g.G w s4 g4 a4 w4→ ∃v,(results fn a4.tmps).run E.P w4=.ok v w4∧R (.returned v) w4
theorem vB (hE:tY E) {α:Type} {call:Caller α} (ih:lM E call) {fuel f:Nat} {fn:Func} {cA cB:Code} {id:Nat} {o1 o2:Oper} {cl:Call} {t gf:Nat} {first ccaps:Array Operand} {bJ args:List V}
  (hfn:E.P.funcs[f]? =some fn) (hb:fn.body=some (.seq cA (.seq (.region id #[o1,o2] false) cB))) (hg1:o1.guard=none) (hd1:o1.dst=some t) (hop2:o2.op=.defer cl) (hg2:o2.guard=none) (hd2:o2.dst=none)
  (lI:cl.callee=.value (.tmp t)) (mD:cl.args.toList=[]) {s1 s2:St}
  (hl1:Leads E cA ⟨AQ fn (bI 0 args),dH 0 args⟩ .norm s1) (OL:EA E s1.fr s1.bx o1=some (true,.val (.fn gf bJ))) (htl:t<s1.fr.length) (hal:args.length<5000) (hgA:Nat.blt gf yP=true)
  (Ai:qD 0 bJ (s1.put (some t) (.fn gf bJ))=some s2)
  {B:Own} {g:Gh} {w:World} {us:List Value} {R:Ending→World→Prop} (hdf:B.df=[]) (hi:Inv E B g.G w ⟨bI 0 args,dH 0 args⟩ g ⟨us.toArray,[]⟩ w)
  (hl3: ∀(B2:Own) (G0:aP) (w0:World) (g5:Gh) (a5:Act) (w1:World),Inv E B2 G0 w0 s2 g5 a5 w1→ ∀Q:Exit→Act→World→Prop,(∀e3 s3 g' a' w',DfEnd E fn gf bJ args B g R e3 s3 w→Inv E B2 G0 w0 s3 g' a' w'→Q (OI e3) a' w')→cB.wp E.P Q a5 w1):Calls E.P f us.toArray w R:=by
 refine calls_of_wp_defers hfn hb ?_;refine wp_seq (hl1 B g.G w g _ w (mM (fn:=fn) hi) _ fun g1 a1 w1 hi1=>?_);refine wp_seq (wp_region ?_);have hlist:List.range (#[o1,o2]:Array Oper).size=[0,1]:=rfl;rw[hlist];have hdo:=jU (ac:=a1) (B:=B) (w:=w1) (g:=g1) (o:=o1) hE rfl hi1.gok hi1.own hi1.bxs hi1.hB hi1.m1 (fun y=>eF hi1.fr hi1.nD y) OL;obtain⟨fv,hrun1,hfv⟩:=hdo;obtain⟨cv,hcv0,hpc⟩:=hfv;rw[AR hgA] at hcv0;subst hcv0;have hi2:=hi1.put (some t) (v:=.fn gf bJ) (u:=.func (.func gf) #[] cv.toArray) ⟨cv,(AR hgA).symm,hpc⟩;obtain⟨B',g',m1,m2,m3,m4,m5,hi2'⟩:=PE bJ 0 B _ s2 g1 cv hi2 Ai hpc;unfold wpOps;simp only[List.getElem?_toArray,List.getElem?_cons_zero];have hw1: ∀y,Region.wanted o1 y=true:=fun y=>by unfold Region.wanted;rw[hg1]
 have hw2: ∀y,Region.wanted o2 y=true:=fun y=>by unfold Region.wanted;rw[hg2]
 rw[if_pos (hw1 _)];refine .inl ?_;unfold Oper.wp;rw[hrun1];show wpOps E.P #[o1,o2] _ [1] (a1.put o1.dst _) w1;rw[hd1];unfold wpOps;simp only[List.getElem?_toArray,List.getElem?_cons_succ,List.getElem?_cons_zero];rw[if_pos (hw2 _)];refine .inl ?_;unfold Oper.wp;have htm:(Act.put a1 (some t) (.func (.func gf) #[] cv.toArray)).eval (.tmp t)=.func (.func gf) #[] cv.toArray:=by
  have hlen:t<a1.tmps.size:=by
   have:=hi1.fr.1;rw[Array.length_toList] at this;omega
  show(a1.tmps.setIfInBounds t _).getD t undef=_;simp[Array.getD,hlen]
 have Vb:(execOp (Act.put a1 (some t) (.func (.func gf) #[] cv.toArray)).eval o2).run E.P w1=.ok (.defer {target:=.fn (.func gf) cv.toArray,args:= #[]}) w1:=by
  obtain⟨callee,kJ,cts⟩:=cl;simp only at lI mD;subst lI;obtain rfl:kJ= #[]:=by rw[←Array.toList_inj];simpa using mD
  simp only[execOp,hop2,resolve,Deferred.ofValue,htm];simp
 rw[Vb];rw[Oper.upon_defer,hd2];unfold wpOps;have hdf1:a1.defers=[]:=hi1.df.trans hdf;have hi3:=hi2'.redf [{target:=.fn (.func gf) cv.toArray,args:= #[]}];have e1:(Act.put a1 (some t) (.func (.func gf) #[] cv.toArray)).defers=[]:=hdf1;rw[e1];refine hl3 _ g.G w _ _ w1 hi3 _ fun e3 s3 g3 a3 w3 hP hi3=>?_
 obtain⟨rec,as,mb,ml,Φ,hrec,rA,EB,hbg,Z4,hall⟩:=hP;have hleave: ∀u,VK rec u→Leaves E.P fn a3.tmps R a3.defers u w3:=by
  intro u hu;have hd3:a3.defers=[{target:=.fn (.func gf) cv.toArray,args:= #[]}]:=hi3.df;rw[hd3];have hcv:PW (LQ g3) (kQ 0 bJ) cv:=Iu bJ 0 cv hpc.1 fun i v hv=>by
   obtain⟨b,q1,q2⟩:=m5 i v hv;exact⟨b,by rw[hi3.ext.2.2 _ (by omega)];exact q1,q2⟩
  have hent:=pV hi3 hcv rA EB;have hrun:u≠.run:=by
   rcases hu with⟨_,rfl⟩|⟨q,_,rfl⟩
   ·intro e;cases e
   ·intro e;cases e
  refine leaves_cons (f:=gf) (args:=cv.toArray) hrun ?_ ?_
  ·show(callFunc gf (#[]++cv.toArray)).run E.P w3=_
   rw[NZ hE hbg];simp
  ·refine CallsD.mono (Z4 (xP g3 w3 mb ml) (qA g3 mb ml) w3 cv rfl hent u hu) ?_
   rintro e u' w4 ⟨x0,Oq,g4,v4,hΦ,⟨v',rfl⟩,hset,hx⟩;obtain⟨s4,hback,hfin⟩:=hall x0 Oq hΦ;obtain⟨g5,h5⟩:=CQ hi3 rA EB hback hx;have hkeep: ∀a b,(a,b)∈jO 0 args→B.β a=B'.β a:=fun a b hab=>by
    have h6:=VO args 0 hab;exact(m4 a (by generalize HL=H at*;omega)).symm
   obtain⟨v,hv1,hv2⟩:=hfin {B' with df:=[{target:=.fn (.func gf) cv.toArray,args:= #[]}]} g5 a3 w4 m1.symm m2.symm hkeep h5;show Leaves E.P fn a3.tmps R [] (settle u') w4;rw[hset];exact⟨v,hv1,hv2⟩
 rcases hrec with⟨rfl,hee⟩|⟨u,rfl,hu⟩
 ·rcases hee with rfl|rfl
  ·exact hleave .returning (.inl ⟨rfl,rfl⟩)
  ·exact hleave .returning (.inl ⟨rfl,rfl⟩)
 ·show bodyPostD E.P fn R (.panic [{v:=(cr rec).getD undef,recovered:=false}]) a3 w3
  rw[hu];exact hleave _ (.inr ⟨u,hu,rfl⟩)
theorem PG (hE:tY E) {α:Type} {call:Caller α} (ih:lM E call) (fuel:Nat):lM E (FZ false E call fuel):=by
 intro f args K r h;unfold FZ at h;split at h
 ·cases h
 ·rename_i fn hfn
  split at h
  ·rename_i c args' hb hargs
   have ha:=hargs;rw[Bg hargs] at h ha;clear hargs args';split at h
   ·
    obtain⟨e,s',he,hl⟩:=iZ hE ih _ rfl fuel c _ _ r h;rw[Fg] at he;obtain⟨v,hK,hv⟩:=lD he;refine⟨v,hK,?_⟩;rcases hv with⟨ho,hh,hee,hret⟩|⟨x,bs,rfl,hee,hfin⟩|⟨x,bs,u,rfl,⟨y,rfl,hu⟩,hfin⟩
    ·refine .inl ⟨ho,jr ha hh fun B g w us hdf hi=>calls_of_wp hfn hb ?_⟩
     have hst:=mM (fn:=fn) hi;rw[(nK hh).1,(nK hh).2] at hl;refine hl B g.G w g _ w hst _ fun g' a' w' hi'=>?_
     obtain⟨u,g2,hrun,hfo,hres⟩:=hret (B2:=B) rfl rfl hi';have sI:=hi'.df.trans hdf;rw[hdf] at hfo;rcases hee with rfl|rfl
     ·exact⟨sI,_,hrun,_,g2,rfl,hfo,hres⟩
     ·exact⟨sI,_,hrun,_,g2,rfl,hfo,hres⟩
    ·refine .inr (.inl ⟨false,x,bs,rfl,fun B g w us hdf hi=>calls_of_wp hfn hb ?_⟩)
     refine hl B g.G w g _ w (mM (fn:=fn) hi) _ fun g' a' w' hi'=>?_
     obtain⟨u,g2,hrun,h2⟩:=hfin rfl rfl hdf (fun _ _ _=>rfl) hi';have sI:=hi'.df.trans hdf;rcases hee with rfl|rfl
     ·exact⟨sI,_,hrun,g2,_,rfl,h2⟩
     ·exact⟨sI,_,hrun,g2,_,rfl,h2⟩
    ·refine .inr (.inl ⟨true,x,bs,rfl,fun B g w us hdf hi=>calls_of_wp hfn hb ?_⟩)
     refine hl B g.G w g _ w (mM (fn:=fn) hi) _ fun g' a' w' hi'=>?_
     obtain⟨g2,h2⟩:=hfin rfl rfl hdf (fun _ _ _=>rfl) hi';have sI:=hi'.df.trans hdf;show bodyPost E.P fn _ (.panic [{v:=(cr y).getD undef,recovered:=false}]) a' w';rw[hu];exact⟨sI,g2,_,rfl,h2⟩
   ·
    rename_i cA o1 o2 cB hsplit;obtain⟨id,rfl⟩:=Ir hsplit;split at h
    ·rename_i gf first ccaps t cl hop1 hg1 hd1 hop2 hg2 hd2
     split at h
     ·rename_i t' lI mD
      have hcond:=aD h;obtain⟨htt,h9⟩:=hcond;clear h;have htt:t=t':=by simpa using htt
      subst htt;obtain⟨e1,s1,he1,hl1⟩:=iZ hE ih _ rfl fuel cA _ _ r h9
      cases e1 with
      |exit id=>cases he1
      |ret=>cases he1
      |oL v=>cases he1
      |norm=>
      simp only at he1;split at he1
      ·rename_i g' bJ OL
       obtain⟨hc1,he2⟩:=aD he1;clear he1;rw[Bool.and_eq_true,Bool.and_eq_true] at hc1;obtain⟨⟨hgg,htl⟩,hal⟩:=hc1;obtain⟨hal,hgA⟩:=Bool.and_eq_true_iff.1 hal;have hgg:g'=gf:=by simpa using hgg
       subst hgg;have htl:=jk htl;obtain⟨hal,hgA⟩:=Bool.and_eq_true_iff.1 hal;have hal:=jk hal;split at he2
       ·rename_i s2 Ai
        obtain⟨e3,s3,Ot,hl3⟩:=iZ hE ih _ rfl fuel cB _ _ r he2;have hdk: ∃rec,dfK false E call fuel fn g' (kQ 0 bJ) (qz args) K rec s3=some r∧((rec=.nilif∧(e3=.norm∨e3=.ret))∨ ∃u,e3=.oL rec∧cr rec=some u):=by
         cases e3 with
         |norm=>exact⟨.nilif,Ot,.inl ⟨rfl,.inl rfl⟩⟩
         |ret=>exact⟨.nilif,Ot,.inl ⟨rfl,.inr rfl⟩⟩
         |exit id=>cases Ot
         |oL v=>
          have Ot:(match cr v with|some _=>dfK false E call fuel fn g' (kQ 0 bJ) (qz args) K v s3|none=>none)=some r:=Ot;split at Ot
          ·rename_i u hu;exact⟨v,Ot,.inr ⟨u,rfl,hu⟩⟩
          ·cases Ot
        obtain⟨rec,hdk,hrec⟩:=hdk;unfold dfK at hdk;split at hdk
        ·rename_i as mb ml rA
         obtain⟨EB,hdk2⟩:=aD hdk;obtain⟨hbg,x0,Oq,hKc,Z4⟩:=Yd hE ih hdk2;simp only at hKc;split at hKc
         ·rename_i s4 hback
          rw[Fg] at hKc;obtain⟨v,hK,hv⟩:=lD hKc;refine⟨v,hK,?_⟩;rcases hv with⟨ho,hh,hee,hret⟩|⟨x,bs,rfl,hee,hfin⟩|⟨x,bs,u,rfl,⟨y,hy,hu⟩,hfin⟩
          ·refine .inl ⟨ho,jr ha hh fun B g w us hdf hi=>?_⟩
           have hi0:Inv E B g.G w ⟨bI 0 args,dH 0 args⟩ g ⟨us.toArray,[]⟩ w:=by rw[(nK hh).1,(nK hh).2];exact hi
           refine vB hE ih hfn hb hg1 hd1 hop2 hg2 hd2 lI mD hl1 OL htl hal hgA Ai (fuel:=fuel) (first:=first) (ccaps:=ccaps) hdf hi0 fun B2 G0 w0 g5 a5 w5 hi5 Q hq=>hl3 B2 G0 w0 g5 a5 w5 hi5 Q fun g' a' w' hi'=>hq e3 s3 g' a' w' ⟨rec,as,mb,ml,_,hrec,rA,EB,hbg,Z4,fun _ _ hΦ=>⟨s4,by rw[hΦ.1,hΦ.2];exact hback,fun B4 g4 a4 w4 q1 q2 q3 hi4=>?_⟩⟩ hi'
           obtain⟨u,g2,hrun,hfo,hres⟩:=hret (B2:=B) q1 q2 hi4;rw[hdf] at hfo;rw[←q1] at hres;exact⟨_,hrun,_,g2,rfl,hfo,hres⟩
          ·refine .inr (.inl ⟨false,x,bs,rfl,fun B g w us hdf hi=>?_⟩)
           refine vB hE ih hfn hb hg1 hd1 hop2 hg2 hd2 lI mD hl1 OL htl hal hgA Ai (fuel:=fuel) (first:=first) (ccaps:=ccaps) hdf hi fun B2 G0 w0 g5 a5 w5 hi5 Q hq=>hl3 B2 G0 w0 g5 a5 w5 hi5 Q fun g' a' w' hi'=>hq e3 s3 g' a' w' ⟨rec,as,mb,ml,_,hrec,rA,EB,hbg,Z4,fun _ _ hΦ=>⟨s4,by rw[hΦ.1,hΦ.2];exact hback,fun B4 g4 a4 w4 q1 q2 q3 hi4=>?_⟩⟩ hi'
           obtain⟨u,g2,hrun,h2⟩:=hfin q1 q2 hdf q3 hi4;exact⟨_,hrun,g2,_,rfl,h2⟩
          ·cases hy
         ·cases hKc
        ·cases hdk
       ·cases he2
      ·cases he1
     ·cases h
    ·cases h
  ·cases h
def pu:V→V
 | .qb b x y=>match b with|true=>pu x|false=>pu y
 |v=>v
theorem wQ {α:Type} {K:V→Option α} {r:α}: ∀v:V,EJ K v=some r→K (pu v)=some r
 | .qb b x y,h=>by
  unfold EJ at h;unfold pu;rcases kN h with⟨rfl,h⟩|⟨rfl,h⟩
  ·exact wQ x h
  ·exact wQ y h
 | .any,h=>h
 | .bool _,h=>h
 | .int _ _,h=>h
 | .str _,h=>h
 | .agg _,h=>h
 | .tup _,h=>h
 | .nilsl,h=>h
 | .sl _ _ _ _,h=>h
 | .rptr _ _ _,h=>h
 | .box _ _,h=>h
 | .eptr _ _ _ _ _ _,h=>h
 | .fn _ _,h=>h
 | .nilif,h=>h
 | .nilp,h=>h
 | .iface _ _,h=>h
 | .bxa _ _,h=>h
 | .out _ _ _,h=>h
 | .old _,h=>h
 | .slz _ _ _ _ _ _ _ _ _ _,h=>h
 | .epz _ _ _ _ _,h=>h
 | .keep _ _,h=>h
def SpecOk (E:Env) (f:Nat) (args:List V) (r:V):Prop:=(f<GX→af E f args r)∧(GX≤f→ ∀p x bs,pu r=.out p x bs→XC E (f-GX) args p x bs)∧(KX≤f→ ∀p x,pu r=.keep p x→KC E (f-KX) args p x)
def bn (E:Env) (S:List (Nat×aG)):Prop:=∀f sp,fV S f=some sp→ ∀args r,sp args=some (true,r)→SpecOk E f args r
theorem bn.nil:bn E []:=fun f sp h=>by cases h
theorem bn.consG {S:List (Nat×aG)} {f:Nat} {sp:aG} (h: ∀args r,sp args=some (true,r)→SpecOk E f args r) (hS:bn E S):bn E ((f,sp)::S):=by
 intro g sp' hf args r hr;unfold fV at hf
 cases hg:f==g with
 |true=>
  rw[hg,cond_true] at hf;simp only[Option.some.injEq] at hf;subst hf;have:f=g:=by simpa using hg
  subst this;exact h args r hr
 |false=>
  rw[hg,cond_false] at hf;exact hS g sp' hf args r hr
theorem bn.cons {S:List (Nat×aG)} {f:Nat} {sp:aG} (h: ∀args r,sp args=some (true,r)→af E f args r) (hS:bn E S) (hf:Nat.blt f GX=true:=by rfl):bn E ((f,sp)::S):=
 bn.consG (fun args r hr=>⟨fun _=>h args r hr,fun hg=>absurd (jk hf) (Nat.not_lt.2 hg),fun hg=>absurd (jk hf) (Nat.not_lt.2 (Nat.le_trans (show GX≤KX by decide) hg))⟩) hS
theorem bn.qB {S:List (Nat×aG)} {f:Nat} {sp:aG} (h: ∀args r,sp args=some (true,r)→ ∀p x bs,pu r=.out p x bs→XC E f args p x bs) (hS:bn E S) (hf:Nat.blt f GX=true:=by rfl):bn E ((GX+f,sp)::S):=
 bn.consG (fun args r hr=>⟨fun hf=>absurd hf (by omega),fun _ p x bs hc=>by rw[show GX+f-GX=f by omega];exact h args r hr p x bs hc,fun hg=>absurd hg (by have:=jk hf;unfold GX KX at*;omega)⟩) hS
theorem bn.consK {S:List (Nat×aG)} {f:Nat} {sp:aG} (h: ∀args r,sp args=some (true,r)→ ∃p x,pu r=.keep p x∧KC E f args p x) (hS:bn E S):bn E ((KX+f,sp)::S):=
 bn.consG (fun args r hr=>by
  obtain⟨p',x',h1,h2⟩:=h args r hr;refine⟨fun hf=>absurd hf (by unfold GX KX;omega),fun _ p x bs hc=>?_,fun _ p x hc=>?_⟩
  ·rw[h1] at hc;cases hc
  ·rw[h1] at hc;cases hc
   rw[show KX+f-KX=f by omega];exact h2) hS
theorem VP {g:Gh} {x:V} {v:Value} (h:aN g x v):aN g x.xA v:=by
 cases x with
 |sl e sh o xs=>exact bR rfl (wL (o:=o) (kX h))
 |old y=>
  show aN g (bif y.fo then y else .any) v
  cases y.fo
  ·exact iY
  ·exact bR h.2.2 h.2.1
 |_=>exact h
theorem vC: ∀(l:List V) (j:Nat),iF l=false→bI j l=l∧dH j l=[]∧ ∀bs,fC j l bs=[]
 |[],_,_=>⟨rfl,rfl,fun _=>rfl⟩
 |x::l,j,h=>by
  unfold iF at h;rw[List.any_cons,Bool.or_eq_false_iff] at h;obtain⟨h1,h2,h3⟩:=vC l (j+1) h.2
  cases x with
  |bxa off cs=>cases h.1
  |_=>exact⟨by unfold bI;rw[h1];rfl,h2,fun bs=>h3 bs⟩
theorem Iv (l:List V):iF (l.map V.xA)=iF l:=by
 unfold iF;rw[List.any_map];congr 1
 funext x
 cases x with
 |old y=>
  show(bif y.fo then y else .any).Aw=false
  cases y with
  |sl e sh o xs=>cases o<;>rfl
  |_=>rfl
 |_=>rfl
theorem xc_unl {f:Nat} {args:List V} {p:Bool} {x:V} {bs:List (List V)} (hb:iF args=false) (h:XC E f (args.map V.xA) p x bs):XC E f args p x bs:=by
 obtain⟨h1,h2,h3⟩:=vC args 0 hb;obtain⟨k1,k2,k3⟩:=vC (args.map V.xA) 0 (by rw[Iv];exact hb);intro B g w vs hdf hi;rw[h1,h2] at hi;have hi':Inv E B g.G w ⟨bI 0 (args.map V.xA),dH 0 (args.map V.xA)⟩ g ⟨vs.toArray,[]⟩ w:=by
  rw[k1,k2];exact hi.less (dO hi.fr fun y _ v hv=>VP hv) (fun k cs hk=>hk)
 have:=h B g w vs hdf hi';rw[k3] at this;rw[h3];exact this
theorem BU {f:Nat} {args:List V} {r:V} (h:af E f (args.map V.xA) r):af E f args r:=by
 intro G w vs hG hglob hp;refine h G w vs hG hglob (dO hp fun y _ v hv=>?_)
 cases y with
 |sl e sh o xs=>exact wL (o:=o) hv
 |old y=>unfold aO at hv;exact hv.elim
 |_=>exact hv
theorem unl_unl (args:List V):(args.map V.xA).map V.xA=args.map V.xA:=by
 rw[List.map_map];refine List.map_congr_left fun x _=>?_
 cases x with
 |old y=>
  show(bif y.fo then y else .any).xA=(bif y.fo then y else .any)
  cases y with
  |sl e sh o xs=>cases o<;>rfl
  |_=>rfl
 |_=>rfl
theorem kc_unl {f:Nat} {args:List V} {p:Bool} {x:V} (hb:iF args=false) (h:KC E f (args.map V.xA) p x):KC E f args p x:=by
 obtain⟨h1,h2,h3⟩:=vC args 0 hb;obtain⟨k1,k2,k3⟩:=vC (args.map V.xA) 0 (by rw[Iv];exact hb);intro B g w vs hdf hi;rw[h1,h2] at hi;have hi':Inv E B g.G w ⟨bI 0 (args.map V.xA),dH 0 (args.map V.xA)⟩ g ⟨vs.toArray,[]⟩ w:=by
  rw[k1,k2];exact hi.less (dO hi.fr fun y _ v hv=>VP hv) (fun k cs hk=>hk)
 exact h B g w vs hdf hi'
theorem GZ (hE:tY E) {S:List (Nat×aG)} (hS:bn E S) (fuel:Nat) {α:Type}: ∀d,lM E (bT (α:=α) E S fuel d):=by
 have caseK: ∀f sp,fV S (KX+f)=some sp→ ∀args (K:V→Option α) r,(match sp args with|some (c,r)=>sel c (EJ (fun v=>match v with| .keep p x=>K (.keep p x)|_=>none) r) none|none=>none)=some r→ ∃v,K v=some r∧FOk E f args v:=by
  intro f sp hf args K r h;split at h
  ·rename_i c v hv
   rcases kN h with⟨rfl,h⟩|⟨_,h⟩
   ·have h2:=wQ v h
    split at h2
    ·rename_i p x hch
     have:=(hS _ sp hf args v hv).2.2 (by omega) p x hch;rw[show KX+f-KX=f by omega] at this;exact⟨_,h2,.inr (.inr ⟨p,x,rfl,this⟩)⟩
    ·cases h2
   ·cases h
  ·cases h
 have caseX: ∀f sp,fV S (GX+f)=some sp→ ∀args (K:V→Option α) r,(match sp args with|some (c,r)=>sel c (EJ (fun v=>match v with| .out p x bs=>K (.out p x bs)|_=>none) r) none|none=>none)=some r→ ∃v,K v=some r∧FOk E f args v:=by
  intro f sp hf args K r h;split at h
  ·rename_i c v hv
   rcases kN h with⟨rfl,h⟩|⟨_,h⟩
   ·have h2:=wQ v h
    split at h2
    ·rename_i p x bs hch
     have:=(hS _ sp hf args v hv).2.1 (by omega) p x bs hch;rw[show GX+f-GX=f by omega] at this;exact⟨_,h2,.inr (.inl ⟨p,x,bs,rfl,this⟩)⟩
    ·cases h2
   ·cases h
  ·cases h
 have caseP: ∀f sp,fV S f=some sp→f<GX→ ∀args (K:V→Option α) r,(match sp (args.map V.xA) with|some (c,r)=>sel c (match r with| .out _ _ _=>none| .keep _ _=>none|r=>K r) none|none=>none)=some r→ ∃v,K v=some r∧FOk E f args v:=by
  intro f sp hf hlt args K r h;split at h
  ·rename_i c v hv
   rcases kN h with⟨rfl,h⟩|⟨_,h⟩
   ·have hc:=(hS _ sp hf _ v hv).1 hlt
    split at h
    ·cases h
    ·cases h
    ·rename_i hne hne2
     refine⟨v,h,.inl ⟨?_,hc⟩⟩
     cases v<;>first|rfl|exact absurd rfl (hne _ _ _)|exact absurd rfl (hne2 _ _)
   ·cases h
  ·cases h
 have one: ∀(f:Nat) (args:List V) (K:V→Option α) (r:α) (X:Option α),(X=some r→ ∃v,K v=some r∧FOk E f args v)→(match fV S (KX+f) with
  |some sp=>match sp args with|some (c,r)=>sel c (EJ (fun v=>match v with| .keep p x=>K (.keep p x)|_=>none) r) none|none=>none
  |none=>match fV S (GX+f) with
  |some sp=>match sp args with|some (c,r)=>sel c (EJ (fun v=>match v with| .out p x bs=>K (.out p x bs)|_=>none) r) none|none=>none
  |none=>bif Nat.blt f GX then(match fV S f with
   |some sp=>match sp (args.map V.xA) with|some (c,r)=>sel c (match r with| .out _ _ _=>none| .keep _ _=>none|r=>K r) none|none=>none
   |none=>X) else none)=some r→ ∃v,K v=some r∧FOk E f args v:=by
  intro f args K r X hX h;split at h
  ·rename_i sp hf;exact caseK f sp hf args K r h
  split at h
  ·rename_i sp hf;exact caseX f sp hf args K r h
  ·obtain⟨hlt,h⟩:=aD h
   split at h
   ·rename_i sp hf;exact caseP f sp hf (jk hlt) args K r h
   ·exact hX h
 intro d;induction d with
 |zero=>
  intro f args K r h;exact one f args K r none (fun h=>by cases h) h
 |succ d ih=>
  intro f args K r h;refine one f args K r _ (fun h=>?_) h;obtain⟨v,hK,hv⟩:=PG hE ih fuel f _ K r h;refine⟨v,hK,?_⟩
  cases hb:iF args with
  |true=>rw[hb,cond_true] at hv;exact hv
  |false=>
   rw[hb,cond_false] at hv;rcases hv with⟨ho,hc⟩|⟨p,x,bs,rfl,hx⟩|⟨p,x,rfl,hx⟩
   ·rw[unl_unl] at hc;exact .inl ⟨ho,hc⟩
   ·exact .inr (.inl ⟨p,x,bs,rfl,xc_unl hb hx⟩)
   ·exact .inr (.inr ⟨p,x,rfl,kc_unl hb hx⟩)
theorem Te (hE:tY E) {call:Caller V} (ih:lM E call) (fuel:Nat) {f:Nat} {args:List V} {r:V} (h:bW E call fuel f args some=some r):FOk E f args r:=by
 have low:FZ false E call fuel f args some=some r→FOk E f args r:=fun h=>by
  obtain⟨v,hK,hv⟩:=PG hE ih fuel f args some r h;simp only[Option.some.injEq] at hK;subst hK;exact hv
 unfold bW at h;by_cases hh:handed args=false;rotate_left
 ·have hh:handed args=true:=by simpa using hh
  refine low ?_;unfold FZ at h⊢
  cases hfn:E.P.funcs[f]? with
  |none=>rw[hfn] at h;cases h
  |some fn=>
   rw[hfn] at h;simp only at h⊢
   cases hargs:Ay args with
   |none=>rw[hargs] at h;split at h<;>rename_i hq<;>first|cases hq|cases h
   |some args'=>
    have JV:handed args'=true:=by rw[Bg hargs];exact hh
    cases hb:fn.body with
    |none=>rw[hb] at h;cases h
    |some c=>
     simp only[hb,hargs,JV] at h⊢;exact h
 ·unfold FZ at h
  split at h
  ·cases h
  ·rename_i fn hfn
   split at h
   ·rename_i c args' hb hargs
    have ha:=hargs;rw[Bg hargs] at h ha;split at h
    ·rename_i hsp
     have fin: ∀(B:Own) (g:Gh) (w:World) (us:List Value),Inv E B g.G w ⟨bI 0 args,dH 0 args⟩ g ⟨us.toArray,[]⟩ w→ ∀Q:Exit→Act→World→Prop,(∀e s' g' a' w',Jb E.P fn args some e s'=some r→Inv E B g.G w s' g' a' w'→Q (OI e) a' w')→c.wp E.P Q (Act.mk (us.toArray++Array.replicate (fn.ntmps-us.toArray.size) undef) []) w:=by
      intro B g w us hi Q hq;refine pq hE ih _ fuel c _ _ r h g _ w (mM (fn:=fn) hi) Q fun e s' g' a' w' he hi'=>?_
      rw[Fg] at he;exact hq e s' g' a' w' he hi'
     cases ho:tQ r with
     |false=>
      refine .inl ⟨ho,jr ha hh fun B g w us hdf hi=>calls_of_wp hfn hb ?_⟩;refine fin B g w us (by rw[(nK hh).1,(nK hh).2];exact hi) _ fun e s' g' a' w' he hi'=>?_
      obtain⟨v,hK,hv⟩:=lD he;simp only[Option.some.injEq] at hK;subst hK;rcases hv with⟨_,_,hee,hret⟩|⟨x,bs,rfl,_,_⟩|⟨x,bs,u,rfl,_,_⟩
      ·obtain⟨u,g2,hrun,hfo,hres⟩:=hret (B2:=B) rfl rfl hi'
       have sI:=hi'.df.trans hdf;rw[hdf] at hfo;rcases hee with rfl|rfl
       ·exact⟨sI,_,hrun,_,g2,rfl,hfo,hres⟩
       ·exact⟨sI,_,hrun,_,g2,rfl,hfo,hres⟩
      ·cases ho
      ·cases ho
     |true=>
      cases r with
      |out p x0 Oq=>
       refine .inr (.inl ⟨p,x0,Oq,rfl,fun B g w us hdf hi=>calls_of_wp hfn hb ?_⟩);refine fin B g w us hi _ fun e s' g' a' w' he hi'=>?_
       obtain⟨v,hK,hv⟩:=lD he;simp only[Option.some.injEq] at hK;subst hK;rcases hv with⟨ho,_⟩|⟨x,bs,hx,hee,hfin⟩|⟨x,bs,u,hx,⟨y,rfl,hu⟩,hfin⟩
       ·cases ho
       ·cases hx
        obtain⟨u,g2,hrun,h2⟩:=hfin rfl rfl hdf (fun _ _ _=>rfl) hi';have sI:=hi'.df.trans hdf;rcases hee with rfl|rfl
        ·exact⟨sI,_,hrun,g2,_,rfl,h2⟩
        ·exact⟨sI,_,hrun,g2,_,rfl,h2⟩
       ·cases hx
        obtain⟨g2,h2⟩:=hfin rfl rfl hdf (fun _ _ _=>rfl) hi';have sI:=hi'.df.trans hdf;show bodyPost E.P fn _ (.panic [{v:=(cr y).getD undef,recovered:=false}]) a' w';rw[hu];exact⟨sI,g2,_,rfl,h2⟩
      |keep p0 x0=>exact .inr (.inr ⟨p0,x0,rfl,fun B g w us hdf hi=>calls_of_wp hfn hb (fin B g w us hi _ fun e s' g' a' w' he hi'=>by
        obtain⟨v,hK,hv⟩:=lD he;simp only[Option.some.injEq] at hK;subst hK;rcases hv with⟨ho,_⟩|⟨x,bs,hx,_⟩|⟨x,bs,u,hx,_⟩
        ·cases ho
        ·cases hx
        ·cases hx)⟩)
      |_=>cases ho
    ·
     rename_i cA o1 o2 cB hsplit;obtain⟨id,rfl⟩:=Ir hsplit;split at h
     ·rename_i gf first ccaps t cl hop1 hg1 hd1 hop2 hg2 hd2
      split at h
      ·rename_i t' lI mD
       obtain⟨htt,h9⟩:=aD h;clear h;have htt:t=t':=by simpa using htt
       subst htt;obtain⟨e1,s1,he1,hl1⟩:=iZ hE ih _ rfl fuel cA _ _ r h9
       cases e1 with
       |exit id=>cases he1
       |ret=>cases he1
       |oL v=>cases he1
       |norm=>
       simp only at he1;split at he1
       ·rename_i g' bJ OL
        obtain⟨hc1,he2⟩:=aD he1;clear he1;rw[Bool.and_eq_true,Bool.and_eq_true] at hc1;obtain⟨⟨hgg,htl⟩,hal⟩:=hc1;obtain⟨hal,hgA⟩:=Bool.and_eq_true_iff.1 hal;have hgg:g'=gf:=by simpa using hgg
        subst hgg;have htl:=jk htl;obtain⟨hal,hgA⟩:=Bool.and_eq_true_iff.1 hal;have hal:=jk hal;split at he2
        ·rename_i s2 Ai
         have ends: ∀e3 s3,dfEx (true&& !handed args) E call fuel fn g' (kQ 0 bJ) (qz args) some e3 s3=some r→ ∃(rec:V) (as:List V) (mb ml:List (Nat×Nat)) (Φ:V→List (List V)→Prop),
           ((rec=.nilif∧(e3=.norm∨e3=.ret))∨ ∃u,e3=.oL rec∧cr rec=some u)∧o5 s3.bx 0 (kQ 0 bJ)=some (as,mb,ml)∧oZ mb ml=true∧jQ E.P g'=true∧DC E g' as rec Φ∧ ∀x0 Oq,Φ x0 Oq→ ∃s4,o8 s3 none mb ml x0 Oq=some s4∧Jb E.P fn args some .ret s4=some r:=by
          intro e3 s3 Ot;have hdk: ∃rec,dfK (true&& !handed args) E call fuel fn g' (kQ 0 bJ) (qz args) some rec s3=some r∧((rec=.nilif∧(e3=.norm∨e3=.ret))∨ ∃u,e3=.oL rec∧cr rec=some u):=by
           cases e3 with
           |norm=>exact⟨.nilif,Ot,.inl ⟨rfl,.inl rfl⟩⟩
           |ret=>exact⟨.nilif,Ot,.inl ⟨rfl,.inr rfl⟩⟩
           |exit id=>cases Ot
           |oL v=>
            have Ot:(match cr v with|some _=>dfK (true&& !handed args) E call fuel fn g' (kQ 0 bJ) (qz args) some v s3|none=>none)=some r:=Ot;split at Ot
            ·rename_i u hu;exact⟨v,Ot,.inr ⟨u,rfl,hu⟩⟩
            ·cases Ot
          obtain⟨rec,hdk,hrec⟩:=hdk;unfold dfK at hdk;split at hdk
          ·rename_i as mb ml rA
           obtain⟨EB,hdk2⟩:=aD hdk;obtain⟨hbg,Z4⟩:=clo_cps hE ih hdk2;refine⟨rec,as,mb,ml,_,hrec,rA,EB,hbg,Z4,fun x0 Oq hKc=>?_⟩;simp only at hKc;split at hKc
           ·rename_i s4 hback
            rw[Fg] at hKc;exact⟨s4,hback,hKc⟩
           ·cases hKc
          ·cases hdk
         cases ho:tQ r with
         |false=>
          refine .inl ⟨ho,jr ha hh fun B g w us hdf hi=>?_⟩;have hi0:Inv E B g.G w ⟨bI 0 args,dH 0 args⟩ g ⟨us.toArray,[]⟩ w:=by rw[(nK hh).1,(nK hh).2];exact hi
          refine vB hE ih hfn hb hg1 hd1 hop2 hg2 hd2 lI mD hl1 OL htl hal hgA Ai (fuel:=fuel) (first:=first) (ccaps:=ccaps) hdf hi0 fun B2 G0 w0 g5 a5 w5 hi5 Q hq=>pq hE ih _ fuel cB s2 _ r he2 g5 a5 w5 hi5 Q fun e3 s3 g6 a6 w6 hek hi6=>?_
          obtain⟨rec,as,mb,ml,Φ,hrec,rA,EB,hbg,Z4,hall⟩:=ends e3 s3 hek;refine hq e3 s3 g6 a6 w6 ⟨rec,as,mb,ml,Φ,hrec,rA,EB,hbg,Z4,fun x0 Oq hΦ=>(hall x0 Oq hΦ).imp fun s4 hs=>⟨hs.1,fun B4 g4 a4 w4 q1 q2 q3 hi4=>?_⟩⟩ hi6;have hKc:=hs.2;obtain⟨v,hK,hv⟩:=lD hKc;simp only[Option.some.injEq] at hK;subst hK;rcases hv with⟨_,_,hee,hret⟩|⟨x,bs,rfl,_,_⟩|⟨x,bs,u,rfl,_,_⟩
          ·obtain⟨u,g2,hrun,hfo,hres⟩:=hret (B2:=B) q1 q2 hi4
           rw[hdf] at hfo;rw[←q1] at hres;exact⟨_,hrun,_,g2,rfl,hfo,hres⟩
          ·cases ho
          ·cases ho
         |true=>
          cases r with
          |out p x0' bs0'=>
           refine .inr (.inl ⟨p,x0',bs0',rfl,fun B g w us hdf hi=>?_⟩);refine vB hE ih hfn hb hg1 hd1 hop2 hg2 hd2 lI mD hl1 OL htl hal hgA Ai (fuel:=fuel) (first:=first) (ccaps:=ccaps) hdf hi fun B2 G0 w0 g5 a5 w5 hi5 Q hq=>pq hE ih _ fuel cB s2 _ _ he2 g5 a5 w5 hi5 Q fun e3 s3 g6 a6 w6 hek hi6=>?_
           obtain⟨rec,as,mb,ml,Φ,hrec,rA,EB,hbg,Z4,hall⟩:=ends e3 s3 hek;refine hq e3 s3 g6 a6 w6 ⟨rec,as,mb,ml,Φ,hrec,rA,EB,hbg,Z4,fun x0 Oq hΦ=>(hall x0 Oq hΦ).imp fun s4 hs=>⟨hs.1,fun B4 g4 a4 w4 q1 q2 q3 hi4=>?_⟩⟩ hi6;have hKc:=hs.2;obtain⟨v,hK,hv⟩:=lD hKc;simp only[Option.some.injEq] at hK;subst hK;rcases hv with⟨ho,_⟩|⟨x,bs,hx,hee,hfin⟩|⟨x,bs,u,hx,⟨y,hy,hu⟩,hfin⟩
           ·cases ho
           ·cases hx
            obtain⟨u,g2,hrun,h2⟩:=hfin q1 q2 hdf q3 hi4;exact⟨_,hrun,g2,_,rfl,h2⟩
           ·cases hy
          |keep p0 x0'=>exact .inr (.inr ⟨p0,x0',rfl,fun B g w us hdf hi=>by
            refine vB hE ih hfn hb hg1 hd1 hop2 hg2 hd2 lI mD hl1 OL htl hal hgA Ai (fuel:=fuel) (first:=first) (ccaps:=ccaps) hdf hi fun B2 G0 w0 g5 a5 w5 hi5 Q hq=>pq hE ih _ fuel cB s2 _ _ he2 g5 a5 w5 hi5 Q fun e3 s3 g6 a6 w6 hek hi6=>?_
            obtain⟨rec,as,mb,ml,Φ,hrec,rA,EB,hbg,Z4,hall⟩:=ends e3 s3 hek;refine hq e3 s3 g6 a6 w6 ⟨rec,as,mb,ml,Φ,hrec,rA,EB,hbg,Z4,fun x0 Oq hΦ=>?_⟩ hi6;obtain⟨s4,hback,hKc⟩:=hall x0 Oq hΦ;obtain⟨v,hK,hv⟩:=lD hKc;simp only[Option.some.injEq] at hK;subst hK;exfalso;rcases hv with⟨ho,_⟩|⟨x,bs,hx,_⟩|⟨x,bs,u,hx,_⟩
            ·cases ho
            ·cases hx
            ·cases hx⟩)
          |_=>cases ho
        ·cases he2
       ·cases he1
      ·cases h
     ·cases h
   ·cases h
theorem aj (hE:tY E) {S:List (Nat×aG)} (hS:bn E S) (fuel d:Nat) {f:Nat} {args:List V} {r:V} (h:bW E (bT E S fuel d) fuel f args some=some r) (hr:tQ r=false:=by rfl):af E f args r:=by
 have hc:=Te hE (GZ hE hS fuel (α:=V) d) fuel h;rcases hc with⟨_,hc⟩|⟨p,x,bs,rfl,_⟩|⟨p,x,rfl,_⟩
 ·exact BU hc
 ·cases hr
 ·cases hr
theorem EV (hE:tY E) {S:List (Nat×aG)} (hS:bn E S) (fuel d:Nat) {f:Nat} {args:List V} {r:V} (h:bW E (bT E S fuel d) fuel f args some=some r) (hr:tQ r=false:=by rfl):af E f (args.map V.xA) r:=by
 have hc:=Te hE (GZ hE hS fuel (α:=V) d) fuel h;rcases hc with⟨_,hc⟩|⟨p,x,bs,rfl,_⟩|⟨p,x,rfl,_⟩
 ·exact hc
 ·cases hr
 ·cases hr
theorem mR (hE:tY E) {S:List (Nat×aG)} (hS:bn E S) (fuel d:Nat) {f:Nat} {args:List V} {p:Bool} {x:V} {bs:List (List V)} (h:bW E (bT E S fuel d) fuel f args some=some (.out p x bs)):XC E f args p x bs:=by
 have hc:=Te hE (GZ hE hS fuel (α:=V) d) fuel h;rcases hc with⟨ho,_⟩|⟨p',x',bs',he,hx⟩|⟨p',x',he,_⟩
 ·cases ho
 ·cases he;exact hx
 ·cases he
end
theorem bV {α:Type} (c:Bool) (a b:α):sel c a b=if c=true then a else b:=by cases c<;>rfl
theorem aB {α:Type} {c:Bool} {a b:α} (h:c=true):sel c a b=a:=by subst h;rfl
theorem aW {α:Type} {c:Bool} {a b:α} (h:c=false):sel c a b=b:=by subst h;rfl
theorem bf (a b:Int):(aU a b=true)=(a<b):=by unfold aU;simp
theorem ay (a b:Int):(ak a b=true)=(a≤b):=by unfold ak;simp
theorem aL (a b:Int):(ieq a b=true)=(a=b):=by unfold ieq;simp
theorem AX (a b:Nat):(nle a b=true)=(a≤b):=by unfold nle;simp
theorem aJ (a b:Bool):(ai a b=true)=(a=true∧b=true):=by cases a<;>cases b<;>simp[ai]
theorem bZ (a:Bool):(aK a=true)= ¬(a=true):=by cases a<;>simp[aK]
theorem dh (a b:List UInt8):(seq a b=true)=(a=b):=by unfold seq;simp
theorem eP (a b:List UInt8):(gz a b=true)=(a.length+b.length≤1152921504606846976):=by unfold gz;rw[AX]
theorem CV (a:List UInt8):(JZ a=true)=(a.length≤1152921504606846976):=by unfold JZ;rw[AX]
theorem iM (a b:List V):(cO a b=true)=(a.length+b.length≤16777216):=by unfold cO;rw[AX]
theorem bE {a b:Int} (h:a<b):aU a b=true:=by rw[bf];exact h
theorem bD {a b:Int} (h:b≤a):aU a b=false:=by unfold aU;simp;omega
theorem bB {a b:Int} (h:a≤b):ak a b=true:=by rw[ay];exact h
theorem xQ {a b:Int} (h:b<a):ak a b=false:=by unfold ak;simp;omega
theorem bq {a b:Int} (h:a=b):ieq a b=true:=by rw[aL];exact h
theorem bQ {a b:Int} (h:a≠b):ieq a b=false:=by unfold ieq;simpa using h
theorem fU {a b:Int} (h: -9223372036854775808≤a+b∧a+b≤9223372036854775807):eu .i64 a b=a+b:=IntWalk.i64_in _ h
theorem vg {a b:Int} (h: -9223372036854775808≤a-b∧a-b≤9223372036854775807):jN .i64 a b=a-b:=IntWalk.i64_in _ h
theorem Tf {a b:Int} (h: -9223372036854775808≤a*b∧a*b≤9223372036854775807):FD .i64 a b=a*b:=IntWalk.i64_in _ h
theorem iaddu64 {a b:Int} (h:0≤a+b∧a+b≤18446744073709551615):eu .u64 a b=a+b:=IntWalk.u64_in _ h
theorem imulu64 {a b:Int} (h:0≤a*b∧a*b≤18446744073709551615):FD .u64 a b=a*b:=IntWalk.u64_in _ h
theorem icnvu64 {a:Int} (h:0≤a∧a≤18446744073709551615):qh .u64 a=a:=IntWalk.u64_in _ h
theorem icnv64 {a:Int} (h: -9223372036854775808≤a∧a≤9223372036854775807):qh .i64 a=a:=IntWalk.i64_in _ h
theorem icnvu8 {a:Int} (h:0≤a∧a≤255):qh .u8 a=a:=IntWalk.u8_in _ h
theorem isubu8 {a b:Int} (h:0≤a-b∧a-b≤255):jN .u8 a b=a-b:=IntWalk.u8_in _ h
theorem PI {k:IntKind} {a b:Int} (ha:0≤a) (hw:k.wrap (a/b)=a/b):oO k a b=a/b:=by
 unfold oO;rw[Int.tdiv_eq_ediv_of_nonneg ha];exact hw
theorem div_le_self {a b:Int} (ha:0≤a) (hb:0<b):0≤a/b∧a/b≤a:=⟨Int.ediv_nonneg ha (by omega),Int.ediv_le_self b ha⟩
theorem Mm {a b:Int} (ha:0≤a) (hb:0<b) (h:a≤9223372036854775807):oO .i64 a b=a/b:=
 PI ha (IntWalk.i64_in _ (by have:=div_le_self ha hb;omega))
theorem MZ {a b:Int} (ha:0≤a) (hb:0<b) (h:a≤18446744073709551615):oO .u64 a b=a/b:=
 PI ha (IntWalk.u64_in _ (by have:=div_le_self ha hb;omega))
theorem vD {a b:Int} (ha:0≤a):y7 a b=a%b:=Int.tmod_eq_emod_of_nonneg ha
theorem aC (l:List UInt8):au l=(l.length:Int):=rfl
theorem aA (l:List V):av l=(l.length:Int):=rfl
theorem sat_nat (l:List UInt8) (i:Nat):sat l (i:Int)=((l.getD i 0).toNat:Int):=rfl
theorem G4 (l:List UInt8) (a b:Nat):dG l (a:Int) (b:Int)=(l.drop a).take (b-a):=rfl
theorem ja (l:List V) (i:Nat):aX l (i:Int)=l.getD i .any:=rfl
theorem af.env {E E':Env} {f:Nat} {args:List V} {r:V} (hP:E.P=E'.P) (h: ∀n v,E.glob n=some v→E'.glob n=some v) (c:af E f args r):af E' f args r:=by
 intro G w vs hG hg hp;have:=c G w vs hG (fun n v hv=>hg n v (h n v hv)) hp;rw[hP] at this;exact this
def su (E:Env) (f:Nat) (args:List V) (r:V):Prop:=∀p x bs,pu r=.out p x bs→XC E f args p x bs
theorem su.out {E:Env} {f:Nat} {args:List V} {p:Bool} {x:V} {bs:List (List V)} (h:XC E f args p x bs):su E f args (.out p x bs):=by
 intro p' x' bs' hc
 cases hc;exact h
theorem su.qb {E:Env} {f:Nat} {args:List V} {c:Bool} {a b:V} (h1:c=true→su E f args a) (h2:c=false→su E f args b):su E f args (.qb c a b):=by
 intro p x bs hc
 cases c with
 |true=>exact h1 rfl p x bs hc
 |false=>exact h2 rfl p x bs hc
theorem Inv.env {E E':Env} {B:Own} {G0:aP} {w0:World} {s:St} {g:Gh} {a:Act} {w:World} (hP:E.P=E'.P) (hg:nW E' G0) (h:Inv E B G0 w0 s g a w):Inv E' B G0 w0 s g a w:=
 ⟨h.fr,h.df,h.gok,h.own,hP▸h.bxs,h.mg,h.hB,h.ext,⟨hg,h.glob.2⟩,h.g1,h.zb⟩
theorem XC.env {E E':Env} {f:Nat} {args:List V} {p:Bool} {x:V} {bs:List (List V)} (hP:E.P=E'.P) (h: ∀n v,E.glob n=some v→E'.glob n=some v) (c:XC E f args p x bs):XC E' f args p x bs:=by
 intro B g w vs hdf hi;have hg:=hi.glob.1;have:=c B g w vs hdf (hi.env hP.symm fun n v hv=>hg n v (h n v hv));rw[hP] at this;refine Calls.mono this ?_;rintro e w' ⟨g',v,he,hx⟩;exact⟨g',v,he,hx.env hP hg⟩
theorem su.env {E E':Env} {f:Nat} {args:List V} {r:V} (hP:E.P=E'.P) (h: ∀n v,E.glob n=some v→E'.glob n=some v) (c:su E f args r):su E' f args r:=fun p x bs hc=>(c p x bs hc).env hP h
def jC (w:World):aP:=fun b=>match w.heap[b]? with|some (.cells c _ _)=>some c.toList|_=>none
theorem heapG_ok (w:World):xB (jC w) w:=by
 intro b l h;unfold jC at h;split at h
 ·rename_i c e fr hc
  simp only[Option.some.injEq] at h;subst h;exact⟨c,e,fr,hc,List.take_length⟩
 ·cases h
def Ka {H:Type} (P:Program):Nat→TypeId→DataW H→Nat→Option V
 |0,_,_,_=>none
 |f+1,t,d,i=>
  match P.underlying t,d with
  |some (.int k),.lit (.int _ n)=>(match i with|0=>some (.int k n)|_=>none)
  |some .bool,.lit (.bool b)=>(match i with|0=>some (.bool b)|_=>none)
  |some .string,.lit (.string l)=>(match i with|0=>some (.str l)|_=>none)
  |some (.struct fs),.agg ds=>(List.range ds.length).findSome? fun j=>
   match fs[j]?,ds[j]? with
   |some fd,some x=>(match Nat.ble fd.offset i&&Nat.blt i (fd.offset+P.cellsOf fd.type) with|true=>Ka P f fd.type x (i-fd.offset)|false=>none)
   |_,_=>none
  |some (.array n e),.agg ds=>(match ds[i/P.cellsOf e]? with|some x=>Ka P f e x (i%P.cellsOf e)|none=>none)
  |_,_=>none
variable {H:Type} {enc:TypeId×Value→H} {P:Program} {w:World} {base:Nat} {spare:Nat→Bool} {held:Bool}
theorem CW (G:aP): ∀(f:Nat) (t:TypeId) (d:DataW H) (i:Nat) (v:V),Ka P f t d i=some v→ ∀(fuel:Nat) (cs:List Value) (p:List MemPlace),DataW.trod enc P w base spare held fuel t cs=some (d,p)→
  ∃u,cs[i]? =some u∧aO G v u
 |0,_,_,_,_,h,_,_,_,_=>by simp[Ka] at h
 |f+1,t,d,i,v,h,fuel,cs,p,hd=>by
  unfold Ka at h;split at h
  ·rename_i k k' n hu
   obtain⟨m,rfl,e,_⟩:=DataW.trod_int hu hd;simp only[Prod.mk.injEq,DataW.lit.injEq,Lit.int.injEq] at e;obtain⟨⟨rfl,rfl⟩,_⟩:=e;split at h
   ·simp only[Option.some.injEq] at h
    subst h;exact⟨_,rfl,by unfold aO;rfl⟩
   ·cases h
  ·rename_i b hu
   obtain⟨m,rfl,e⟩:=DataW.trod_bool hu hd;simp only[Prod.mk.injEq,DataW.lit.injEq,Lit.bool.injEq] at e;obtain⟨rfl,_⟩:=e;split at h
   ·simp only[Option.some.injEq] at h
    subst h;exact⟨_,rfl,by unfold aO;rfl⟩
   ·cases h
  ·rename_i l hu
   obtain⟨s,rfl,e,_⟩:=DataW.trod_string hu hd;simp only[Prod.mk.injEq,DataW.lit.injEq,Lit.string.injEq] at e;obtain⟨rfl,_⟩:=e;split at h
   ·simp only[Option.some.injEq] at h
    subst h;exact⟨_,rfl,by unfold aO;cases s;simp⟩
   ·cases h
  ·rename_i fs ds hu
   obtain⟨xs,m,_,e,hlen,hn,hel⟩:=DataW.trod_struct hu hd;simp only[Prod.mk.injEq,DataW.agg.injEq] at e;obtain⟨j,_,hj⟩:=List.exists_of_findSome?_eq_some h;split at hj
   ·rename_i fd x hfd hx
    split at hj
    ·rename_i hb
     rw[Bool.and_eq_true] at hb;have h1:=Nat.le_of_ble_eq_true hb.1;have h2:i<fd.offset+P.cellsOf fd.type:=by have:=hb.2;rwa [Nat.blt_eq] at this
     rw[e.1,List.getElem?_map] at hx;obtain⟨y,hy,hy1⟩:=Option.map_eq_some_iff.1 hx;have:=hel j fd hfd;rw[hy] at this;obtain⟨u,hu',hr⟩:=CW G f fd.type x _ v hj m _ y.2 (by rw[this,←hy1]);refine⟨u,?_,hr⟩;rw[List.getElem?_take_of_lt (by omega),List.getElem?_drop,show fd.offset+(i-fd.offset)=i by omega] at hu';exact hu'
    ·cases hj
   ·cases hj
  ·rename_i n e ds hu
   obtain⟨xs,m,_,ex,hlen,hn,hel⟩:=DataW.trod_array hu hd;simp only[Prod.mk.injEq,DataW.agg.injEq] at ex;split at h
   ·rename_i x hx
    rw[ex.1,List.getElem?_map] at hx;obtain⟨y,hy,hy1⟩:=Option.map_eq_some_iff.1 hx;have hlt:i/P.cellsOf e<n:=by rw[←hn];exact(List.getElem?_eq_some_iff.1 hy).1
    have:=hel _ hlt;rw[hy] at this;obtain⟨u,hu',hr⟩:=CW G f e x _ v h m _ y.2 (by rw[this,←hy1]);refine⟨u,?_,hr⟩;by_cases h0:P.cellsOf e=0
    ·rw[h0,List.take_zero] at hu'
     cases hu'
    ·rw[List.getElem?_take_of_lt (Nat.mod_lt _ (by omega)),List.getElem?_drop,Nat.mul_comm,Nat.div_add_mod] at hu'
     exact hu'
   ·cases h
  ·cases h
theorem PK {α β:Type} {f:α→Option β}: ∀{l:List α} {ys:List β},l.mapM f=some ys→ys.length=l.length∧ ∀(i:Nat) a y,l[i]? =some a→ys[i]? =some y→f a=some y
 |[],ys,h=>by simp at h;subst h;exact⟨rfl,by simp⟩
 |a::l,ys,h=>by
  rw[List.mapM_cons] at h
  cases ha:f a with
  |none=>rw[ha] at h;cases h
  |some y=>
   rw[ha] at h
   cases hl:l.mapM f with
   |none=>rw[hl] at h;cases h
   |some zs=>
    rw[hl] at h;simp at h;subst h;obtain⟨h1,h2⟩:=PK hl;refine⟨by simp[h1],fun i a' y' h3 h4=>?_⟩
    cases i with
    |zero=>simp at h3 h4;subst h3;subst h4;exact ha
    |succ i=>exact h2 i a' y' (by simpa using h3) (by simpa using h4)
theorem wR {name:String} {g:Nat} {cs:Array Value} {t:TypeId} {fuel f:Nat} {d:DataW H} {p:List MemPlace} {sh:List Kd} {xs:List V} (hg:P.globalNamed name=some g) (hv:w.var? P name=some cs)
  (hd:DataW.trod enc P w base spare held fuel t cs.toList=some (d,p)) (hx:(List.range sh.length).mapM (Ka P f t d)=some xs) (hf:fJ sh (.agg xs)=true):
  aO (jC w) (.rptr sh (.agg xs) 0) (.pointer (some ⟨g,0,none⟩)):=by
 obtain⟨h1,h2⟩:=PK hx;rw[List.length_range] at h1;have hcell: ∀(i:Nat) (x:V),xs[i]? =some x→ ∃u,cs.toList[i]? =some u∧aO (jC w) x u:=by
  intro i x hxi;have hi:i<sh.length:=by rw[←h1];exact(List.getElem?_eq_some_iff.1 hxi).1
  exact CW (jC w) f t d i x (h2 i i x (by rw[List.getElem?_range hi]) hxi) fuel _ p hd
 have hsz:xs.length≤cs.toList.length:=by
  rcases Nat.lt_or_ge cs.toList.length xs.length with hlt|hge
  ·obtain⟨u,hu,_⟩:=hcell cs.toList.length xs[cs.toList.length] (List.getElem?_eq_getElem hlt)
   rw[List.getElem?_eq_none (Nat.le_refl _)] at hu
   cases hu
  ·exact hge
 unfold aO;refine⟨g,0,cs.toList,rfl,?_,hf,.agg (cs.toList.take sh.length).toArray,?_,?_⟩
 ·simp only[World.var?,hg,Option.bind_some] at hv
  split at hv
  ·rename_i c e fr hc
   simp only[Option.some.injEq] at hv;subst hv;unfold jC;rw[hc]
  ·cases hv
 ·unfold aO
  refine⟨_,rfl,?_⟩;rw[dL];refine⟨by rw[List.length_take];omega,fun i x u hxi hui=>?_⟩;obtain⟨u',hu',hr⟩:=hcell i x hxi;have hi:i<sh.length:=by rw[←h1];exact(List.getElem?_eq_some_iff.1 hxi).1
  rw[List.getElem?_take_of_lt hi,hu'] at hui;simp only[Option.some.injEq] at hui;rw[←hui];exact hr
 ·simp[Value.cells]
theorem Yf {g:Nat} {k:IntKind} {m:Int} (h:w.cell? ⟨g,0,none⟩=some (.int k m)):aO (jC w) (.rptr [.int k] (.int k m) 0) (.pointer (some ⟨g,0,none⟩)):=by
 simp only[World.cell?] at h;split at h
 ·rename_i c e fr hc
  unfold aO;refine⟨g,0,c.toList,rfl,by unfold jC;rw[hc],by simp[fJ,V.cells,bC,fits,ai],.int k m,by unfold aO;rfl,?_⟩;have h0:c.toList[0]? =some (.int k m):=by simpa using h
  cases hc:c.toList with
  |nil=>rw[hc] at h0;cases h0
  |cons a t=>rw[hc] at h0;simp at h0;subst h0;rfl
 ·cases h
theorem N5 {E:Env} {f:Nat} {args:List V} {vs:List Value} (c:af E f args (.bool true)) (hg:nW E (jC w)) (hp:PW (aO (jC w)) args vs):
  Calls E.P f vs.toArray w fun e w'=>e=.returned (.bool true)∧Below w.heap.size w w':=by
 refine(c (jC w) w vs (heapG_ok w) hg hp).mono ?_;rintro e w' ⟨v,G',rfl,hN,hr⟩;have:v=.bool true:=hr;rw[this];exact⟨rfl,hN.1⟩
end Nt.Ev
