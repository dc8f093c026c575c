/-
  The evaluator is right: functions; those that are handed boxes and labelled slices, that raise, that defer a closure which takes back. The evaluator is right: bodies of functions, contracts. Small laws on the evaluator's primitives: how printed equations are read. From the evaluator's contracts to the rows: what is known of a world where a statement begins.
-/
import Derived.Test.YtplklcejbmfgdaaGreatDoorMBS
import Derived.Recover
import Derived.IntWalk
import Derived.ChangeArms
import Derived.OpenShut
import Derived.FnData
set_option linter.unusedVariables false
set_option linter.unusedSimpArgs false
set_option linter.unusedSectionVars false
namespace Nt.Ev
open Go Go.RowKit
section
variable {E:Env}
theorem argV_eq {x y:V} (h:Tx x=some y):y=x:=by
 cases x with
 |fn f c=>cases c<;>(simp[Tx,V.deep] at h;exact h.symm)
 |bxa off cs=>simp only[Tx,Option.some.injEq] at h;exact h.symm
 |sl e sh o xs=>simp only[Tx,Option.some.injEq] at h;exact h.symm
 |old z=>
  have h:(bif z.dZ then some (V.old z) else none)=some y:=h;obtain⟨_,h⟩:=aC h;simp only[Option.some.injEq] at h;exact h.symm
 |_=>simp[Tx,V.deep] at h<;>exact h.symm
theorem yZ: ∀{xs ys:List V},yx xs=some ys→ys=xs
 |[],ys,h=>by simp only[yx,Option.some.injEq] at h;exact h.symm
 |x::xs,ys,h=>by
  unfold yx at h;split at h
  ·rename_i a b ha hb
   simp only[Option.some.injEq] at h;rw[←h,argV_eq ha,yZ hb]
  ·cases h
theorem KN (args:List V):handed (pN args)=handed args:=by
 unfold pN
 cases h:handed args with
 |false=>rfl
 |true=>
  rw[cond_true];unfold handed at h⊢;rw[List.any_eq_true] at h⊢;obtain⟨x,hx,hh⟩:=h
  cases x with
  |bxa off cs=>exact⟨_,List.mem_map.2 ⟨_,hx,rfl⟩,rfl⟩
  |sl e sh o xs=>cases o with
   |none=>cases hh
   |some L=>exact⟨_,List.mem_map.2 ⟨_,hx,rfl⟩,rfl⟩
  |_=>cases hh
theorem Fy (s:St): ∀(args:List V) (j:Nat),(∀x∈args,x.yw=false)→nL s j args=some []∧jH j args=[]
 |[],j,_=>⟨rfl,rfl⟩
 |x::args,j,h=>by
  have ih:=Fy s args (j+1) fun y hy=>h y (List.mem_cons_of_mem _ hy)
  have hx:=h x List.mem_cons_self
  cases x<;>first|exact ih|cases hx
theorem Iu (s:St) (f:V→V) (hf: ∀x,(f x).yw=x.yw): ∀(args:List V) (j:Nat),nL s j (args.map f)=nL s j args∧jH j (args.map f)=jH j args
 |[],j=>⟨rfl,rfl⟩
 |x::args,j=>by
  have ih:=Iu s f hf args (j+1);have hx:=hf x;rw[List.map_cons];have other: ∀y:V,y.yw=false→nL s j (y::args)=nL s (j+1) args∧jH j (y::args)=jH (j+1) args:=fun y hy=>by cases y<;>first|exact⟨rfl,rfl⟩|cases hy
  have XG: ∀y:V,y.yw=false→nL s j (y::args.map f)=nL s (j+1) (args.map f)∧jH j (y::args.map f)=jH (j+1) (args.map f):=fun y hy=>by cases y<;>first|exact⟨rfl,rfl⟩|cases hy
  cases hb:x.yw with
  |false=>
   rw[hb] at hx;rw[(other x hb).1,(other x hb).2,(XG _ hx).1,(XG _ hx).2];exact ih
  |true=>
   rw[hb] at hx;generalize f x=y at hx
   cases x<;>first|cases hb|skip
   cases y<;>first|cases hx|skip
   simp only[nL,jH,ih.1,ih.2];exact⟨trivial,trivial⟩
theorem Iv (s:St) (args:List V):nL s 0 (pN args)=nL s 0 args∧jH 0 (pN args)=jH 0 args:=by
 unfold pN
 cases h:handed args with
 |false=>
  have h2:=Fy s args 0 fun x hx=>by
   unfold handed at h;rw[List.any_eq_false] at h;have:=h x hx
   cases x<;>first|rfl|(exfalso;exact this rfl)
  rw[cond_false,h2.1,h2.2];exact⟨rfl,rfl⟩
 |true=>
  rw[cond_true];exact Iu s _ (fun x=>by cases x<;>first|rfl|(rename_i o _;cases o<;>rfl)) args 0
theorem YT {α:Type} (p:Bool) (x:V) (s:St) (args:List V) (K:V→Option α):pM p x s (pN args) K=pM p x s args K:=by
 unfold pM;rw[(Iv s args).1,(Iv s args).2]
theorem Dl {α:Type} (P:Program) (fn:Func) (args:List V) (K:V→Option α):Gb P fn (pN args) K=Gb P fn args K:=by
 funext e s
 cases e<;>simp only[Gb,KN,YT]
theorem Mi: ∀(bs:List (List V)) (j:Nat) (p:Nat×Nat),p∈Tz j bs→ ∃i,p.2=fo true p.1 i
 |[],j,p,h=>by cases h
 |cs::bs,j,p,h=>by
  unfold Tz at h;rcases List.mem_append.1 h with h|h
  ·obtain⟨i,hi⟩:=iF _ _ _ h
   exact⟨_,hi⟩
  ·exact Mi bs (j+1) p h
theorem cls_lt' {L i:Nat} (h:fo true L i<HL):L<HL:=by
 unfold fo at h;rw[Bool.true_and] at h
 cases hq:Nat.ble HL L with
 |true=>rw[hq,cond_true] at h;omega
 |false=>
  refine Nat.lt_of_not_le fun e=>?_
  rw[Nat.ble_eq_true_of_le e] at hq
  cases hq
theorem JY: ∀(args:List V) (j:Nat) {a b:Nat},(a,b)∈jH j args→a=b∧HL≤a
 |[],j,a,b,h=>by cases h
 |x::args,j,a,b,h=>by
  have rest:(a,b)∈jH (j+1) args→a=b∧HL≤a:=JY args (j+1)
  cases x with
  |bxa off cs=>
   unfold jH at h;rcases List.mem_cons.1 h with h|h
   ·simp only[Prod.mk.injEq] at h
    obtain⟨rfl,rfl⟩:=h;exact⟨rfl,by omega⟩
   ·exact rest h
  |_=>exact rest h
theorem nW {s:St} (f:List V→List V): ∀(args:List V) (j:Nat) (bs:List (List V)),nL s j args=some bs→ ∀k cs,au (eX j args (bs.map f)) k=some cs→ ∃cs0,au s.bx k=some cs0∧cs=f cs0
 |[],j,bs,h,k,cs,hk=>by cases hk
 |x::args,j,bs,h,k,cs,hk=>by
  have rest:nL s (j+1) args=some bs→au (eX (j+1) args (bs.map f)) k=some cs→ ∃cs0,au s.bx k=some cs0∧cs=f cs0:=fun h1 h2=>nW f args (j+1) bs h1 k cs h2
  cases x with
  |bxa off c0=>
   unfold nL at h;split at h
   ·rename_i c1 b1 h1 h2
    simp only[Option.some.injEq] at h;subst h;rw[List.map_cons] at hk;unfold eX au at hk
    cases hq:HL+j==k with
    |true=>
     rw[hq,cond_true] at hk;simp only[Option.some.injEq] at hk;obtain rfl:HL+j=k:=by simpa using hq
     exact⟨c1,h1,hk.symm⟩
    |false=>
     rw[hq,cond_false] at hk;exact nW f args (j+1) b1 h2 k cs hk
   ·cases h
  |_=>exact rest h hk
theorem lZ: ∀(args:List V) (j:Nat) (bs:List (List V)) {k:Nat} {cs:List V},au (eX j args bs) k=some cs→ ∃k0,(k,k0)∈jH j args
 |[],j,bs,k,cs,h=>by cases h
 |x::args,j,bs,k,cs,h=>by
  have rest:au (eX (j+1) args bs) k=some cs→ ∃k0,(k,k0)∈jH (j+1) args:=fun h=>lZ args (j+1) bs h
  cases x with
  |bxa off c0=>
   cases bs with
   |nil=>
    obtain⟨k0,hk0⟩:=lZ args (j+1) [] h;exact⟨k0,List.mem_cons_of_mem _ hk0⟩
   |cons c1 bs=>
    unfold eX au at h
    cases hq:HL+j==k with
    |true=>
     obtain rfl:HL+j=k:=by simpa using hq
     exact⟨_,List.mem_cons_self⟩
    |false=>
     rw[hq,cond_false] at h;obtain⟨k0,hk0⟩:=lZ args (j+1) bs h;exact⟨k0,List.mem_cons_of_mem _ hk0⟩
  |_=>exact rest h
theorem Dm {α:Type} {p:Bool} {x:V} {s:St} {args:List V} {K:V→Option α} {r:α} (h:pM p x s args K=some r):
  ∃x' bs,K (.out p x' bs)=some r∧(∀t y,x=.iface t y→x'=.iface t y)∧(x=.tup []→x'=.tup [])∧ ∀{B B2:Own} {G0:aM} {w0:World} {g:Gh} {a:Act} {w:World} {v:Value},B2.m=B.m→B2.n=B.n→B2.df=[]→(∀a b,(a,b)∈jH 0 args→B2.β a=B.β a)→Inv E B G0 w0 s g a w→aI g x v→ ∃g',Inv E B2 G0 w0 ⟨[x'],eX 0 args bs⟩ g' ⟨#[v],[]⟩ w:=by
 unfold pM at h;split at h
 ·rename_i bs hbs
  simp only at h;obtain⟨hn,h⟩:=aC h;rw[rF] at hn;have hf:=pR (pJ (fun L i=>fo true L i) 0 (Al x)++Tz 0 bs) [];generalize hml:oq [] (pJ (fun L i=>fo true L i) 0 (Al x)++Tz 0 bs)=ml at h hn hf;have hcls: ∀p∈ml,∃i,p.2=fo true p.1 i:=fun p hp=>by
   rcases List.mem_append.1 (hf.2 p hp).1 with h|h
   ·obtain⟨i,hi⟩:=iF _ _ _ h
    exact⟨_,hi⟩
   ·exact Mi bs 0 p h
  refine⟨_,_,h,fun t y e=>(by subst e;rfl),fun e=>(by subst e;rfl),fun {B B2 G0 w0 g a w v} hm2 hn2 hd2 hβ2 hi hv=>?_⟩;let O2:Nat→Option (Value×Nat×Nat):=fun n=>match lk (dY ml) n with|some L=>g.O L|none=>none
  have hO: ∀L n,lk ml L=some n→O2 n=g.O L:=fun L n hl=>by
   show(match lk (dY ml) n with|some L=>g.O L|none=>none)=_;rw[jK hn (jV hl)]
  have yA: ∀n x,O2 n=some x→ ∃L,(L,n)∈ml∧g.O L=some x:=fun n x hx=>by
   have hx:(match lk (dY ml) n with|some L=>g.O L|none=>none)=some x:=hx;split at hx
   ·rename_i L hL;exact⟨L,oI.1 (jV hL),hx⟩
   ·cases hx
  let β2:Nat→Option Nat:=fun k=>if HL≤k then B2.β k else g.β k
  have hβk: ∀a b,(a,b)∈jH 0 args→β2 a=g.β a:=fun a b hab=>by
   have h1:=(JY args 0 hab).2;show(if HL≤a then B2.β a else g.β a)=_;rw[if_pos h1,hβ2 a b hab,hi.ext.2.2 a h1]
  let C2:Nat→Option (List Value):=fun n=>match lk (dY ml) n with|some L=>g.C L|none=>none
  have hC: ∀L n,lk ml L=some n→C2 n=g.C L:=fun L n hl=>by
   show(match lk (dY ml) n with|some L=>g.C L|none=>none)=_;rw[jK hn (jV hl)]
  have hCm: ∀L n,(L,n)∈ml→C2 n=g.C L:=fun L n hl=>by
   show(match lk (dY ml) n with|some L=>g.C L|none=>none)=_;rw[jK hn hl]
  let g2:Gh:=⟨g.G,O2,β2,g.G1,C2⟩
  have yg: ∀(y:V) (u:Value),aI g y u→aI g2 (y.ren (jH 0 args) ml) u:=fun y u hy=>EI (g:=g) (g':=g2) rfl hO hC (fun k n hk=>by
   have h1:=jV hk;rw[←(JY args 0 h1).1];exact hβk k n h1) hy
  have hok2: ∀L b,B2.ok L b↔B.ok L b:=fun L b=>by unfold Own.ok;rw[hm2,hn2]
  refine⟨g2,PW.cons (yg x v hv) .nil,hd2.symm,hi.gok,⟨fun n v' e sz hn'=>?_,fun n n' v1 v2 e e' sz sz' b h1 h2 hb1 hb2=>?_⟩,⟨fun k cs hk=>?_,fun k k' cs cs' hk hk' hb=>?_⟩,by rw[hm2];exact hi.kX,by rw[hm2,hn2];exact hi.hB,⟨fun b hb=>hi.ext.1 b (by rw[←hm2];exact hb),hi.ext.2.1,fun k hk=>if_pos hk⟩,by rw[hn2];exact hi.glob,hi.g1,fun k cs n v' e sz b hk hn' hb hβ=>?_⟩
  ·obtain⟨L,hL,hx⟩:=yA n _ hn'
   obtain⟨q1,q2⟩:=hi.own.1 L v' e sz hx;refine⟨q1,q2.imp id ?_⟩;rintro⟨b,m,cap,cur,l,hv',hok,hh,hnc,hcm,hcs,hrow,hln⟩;refine⟨b,m,cap,cur,l,hv',(hok2 n b).2 ⟨hok.1,fun hlt=>hok.2 ?_⟩,hh,hnc,hcm,hcs,by
    unfold mI at hrow⊢;rw[show g2.C n=g.C L from hCm L n hL];exact hrow,hln⟩
   obtain⟨i,hi'⟩:=hcls _ hL;simp only at hi';rw[hi'] at hlt;exact cls_lt' hlt
  ·obtain⟨L,hL,hx⟩:=yA n _ h1
   obtain⟨L',hL',hx'⟩:=yA n' _ h2;have:=hi.own.2 L L' v1 v2 e e' sz sz' b hx hx' hb1 hb2;subst this;exact yV hf.1 hL hL'
  ·obtain⟨cs0,h1,rfl⟩:=nW (s:=s) (fun cs=>cs.map (V.ren (jH 0 args) ml)) args 0 bs hbs k cs hk
   obtain⟨b,c,e,q1,q2,q3,q4,q5,q6,q7⟩:=hi.bxs.1 k cs0 h1;obtain⟨k0,hk0⟩:=lZ args 0 _ hk;exact⟨b,c,e,(hβk k k0 hk0).trans q1,by rw[hm2];exact q2,q3,dJ q4 fun y _ u=>yg y u,q5,q6,kg (EC _ _) q7⟩
  ·obtain⟨k0,hk0⟩:=lZ args 0 _ hk
   obtain⟨k1,hk1⟩:=lZ args 0 _ hk';have hb:β2 k=β2 k':=hb;rw[hβk k k0 hk0,hβk k' k1 hk1] at hb;obtain⟨c1,h1,_⟩:=nW (s:=s) (fun cs=>cs.map (V.ren (jH 0 args) ml)) args 0 bs hbs k cs hk;obtain⟨c2,h2,_⟩:=nW (s:=s) (fun cs=>cs.map (V.ren (jH 0 args) ml)) args 0 bs hbs k' cs' hk';exact hi.bxs.2 k k' c1 c2 h1 h2 hb
  ·obtain⟨L,hL,hx⟩:=yA n _ hn'
   obtain⟨k0,hk0⟩:=lZ args 0 _ hk;obtain⟨c1,h1,_⟩:=nW (s:=s) (fun cs=>cs.map (V.ren (jH 0 args) ml)) args 0 bs hbs k cs hk;have hβ:β2 k=some b:=hβ;rw[hβk k k0 hk0] at hβ;exact hi.zb k c1 L v' e sz b h1 hx hb hβ
 ·cases h
theorem Cs {G:aM} {x:V} {u:Value} (h:mW x=some u):aN G x u:=by
 cases x with
 |bool b=>simp only[mW,Option.some.injEq] at h;unfold aN;exact h.symm
 |int k n=>simp only[mW,Option.some.injEq] at h;unfold aN;exact h.symm
 |_=>cases h
theorem Ct {G:aM}: ∀{xs:List V} {us:List Value},mX xs=some us→PW (aN G) xs us
 |[],us,h=>by simp only[mX,Option.some.injEq] at h;subst h;exact .nil
 |x::xs,us,h=>by
  unfold mX at h;split at h
  ·rename_i a b ha hb
   simp only[Option.some.injEq] at h;subst h;exact .cons (Cs ha) (Ct hb)
  ·cases h
theorem xS {g:Gh} {x:V} {u:Value} (h:bR x=some u):aI g x u∧ ∃t y,x=.iface t y:=by
 unfold bR at h;split at h
 ·rename_i t cs
  split at h
  ·rename_i l hl
   simp only[Option.some.injEq] at h;subst h;exact⟨jA.2 ⟨_,rfl,by unfold aN;exact⟨l,rfl,(eP _ _).2 (Ct hl)⟩⟩,_,_,rfl⟩
  ·cases h
 ·rename_i t y _
  split at h
  ·rename_i z hz
   simp only[Option.some.injEq] at h;subst h;exact⟨jA.2 ⟨_,rfl,Cs hz⟩,_,_,rfl⟩
  ·cases h
 ·cases h
theorem Uv {g:Gh} {vs:List V} {us:List Value} (h:PW (fun x v=>bE g x v∧nJ x=true) vs us):aI g (Ri vs) (yB us):=by
 have yN: ∀(vs:List V) (us:List Value),PW (fun x v=>bE g x v∧nJ x=true) vs us→aI g (.tup vs) (.tuple us.toArray):=fun vs us h=>⟨us,rfl,h.mono fun _ _ _ h=>h.1⟩
 match vs,us,h with
 |[],us,h=>rw[h.bT];exact yN [] [] .nil
 |[x],us,h=>
  obtain⟨u,t,rfl,⟨h1,h2⟩,h3⟩:=h.cons_inv;rw[h3.bT];have LP:x.single=true:=by cases x<;>first|rfl|cases h2
  exact bA LP h1
 |x::y::vs,us,h=>
  have hl:=h.1;match us,hl with
  |u::v::us,_=>exact yN _ _ h
theorem l9 {B:Own} {g:Gh} {w:World} {fr:List V} {bx:List (Nat×List V)} {vs:List Value} {fn:Func} {G0:aM} {w0:World} (hi:Inv E B G0 w0 ⟨fr,bx⟩ g ⟨vs.toArray,[]⟩ w):
  Inv E B G0 w0 ⟨yK fn fr,bx⟩ g {tmps:=vs.toArray++Array.replicate (fn.ntmps-vs.toArray.size) undef,defers:=[]} w:=by
 have hfr:PW (aI g) fr vs:=by simpa using hi.fr
 refine⟨?_,hi.df,hi.gok,hi.own,hi.bxs,hi.kX,hi.hB,hi.ext,hi.glob,hi.g1,hi.zb⟩;show PW (aI g) (fr++List.replicate (fn.ntmps-fr.length) (.tup [])) (vs.toArray++Array.replicate (fn.ntmps-vs.toArray.size) undef).toList;have e1:(vs.toArray++Array.replicate (fn.ntmps-vs.toArray.size) undef).toList=vs++List.replicate (fn.ntmps-fr.length) undef:=by
  rw[hfr.1];simp
 rw[e1];refine hfr.append ⟨by simp,fun i x v hx hv=>?_⟩;rw[List.getElem?_replicate] at hx hv;split at hx
 ·rename_i hlt
  rw[if_pos hlt] at hv;simp only[Option.some.injEq] at hx hv;subst hx;subst hv;exact⟨[],rfl,.nil⟩
 ·cases hx
def R3 (rec:V) (u:FrameMode):Prop:=(rec=.nilif∧u=.returning)∨ ∃q,bR rec=some q∧u=.panicking [{v:=q,recovered:=false}]
def DC (E:Env) (f:Nat) (args:List V) (rec:V) (Φ:V→List (List V)→Prop):Prop:=
 ∀(B:Own) (g:Gh) (w:World) (vs:List Value),B.df=[]→Inv E B g.G w ⟨bH 0 args,dG 0 args⟩ g ⟨vs.toArray,[]⟩ w→ ∀u,R3 rec u→
  CallsD E.P f vs.toArray u w fun e u' w'=>∃x bs g' v,Φ x bs∧(∃v',e=.returned v')∧settle u'=.returning∧Inv E B g.G w ⟨[x],eX 0 args bs⟩ g' ⟨#[v],[]⟩ w'
theorem Uw (hE:sO E) {α:Type} {call:Caller α} (hc:lu E call) {fuel f:Nat} {args:List V} {rec:V} {K:V→Option α} {r:α} (h:LJ false E call fuel f args rec K=some r):jI E.P f=true∧ ∃x bs,K (.out false x bs)=some r∧DC E f args rec (fun x' bs'=>x'=x∧bs'=bs):=by
 unfold LJ at h;split at h
 ·cases h
 ·rename_i fn hfn
  split at h
  ·rename_i c hbody
   split at h
   ·rename_i id ops b
    split at h
    ·rename_i o hops
     split at h
     ·rename_i cl d hop hg hd hres
      split at h
      ·rename_i kY lT
       obtain⟨e,s',he,hl⟩:=jb hE hc _ rfl fuel b _ _ r h;have hret:pM false (.tup []) s' args K=some r∧(e=.norm∨e=.ret):=by
        cases e with
        |norm=>exact⟨he,.inl rfl⟩
        |ret=>exact⟨he,.inr rfl⟩
        |exit id=>cases he
        |nX v=>cases he
       obtain⟨ho,hee⟩:=hret;obtain⟨x',bs,hK,_,htup,hinv⟩:=Dm (E:=E) ho;refine⟨by unfold jI;rw[hfn];simp only[hbody];rfl,x',bs,hK,fun B g w vs hdf hi u hu=>?_⟩;refine callsD_of_wpS hfn hbody fun c₀ cs hc₀=>?_
       have W9:ops= #[o]:=by rw[←Array.toList_inj];simpa using hops
       subst W9;refine wpS_seq (wpS_region ?_);have Xa: ∀ρ,(execOp ρ o).run E.P w=.ok .recover w:=by
        intro ρ;obtain⟨callee,jZ,cts⟩:=cl;simp only at kY lT;subst kY;simp only[execOp,hop,resolve];simp[invoke,builtin]
       have hlist:List.range (#[o]:Array Oper).size=[0]:=rfl;rw[hlist];unfold wpOpsS;simp only[List.getElem?_toArray,List.getElem?_cons_zero];have hw: ∀y,Region.wanted o y=true:=fun y=>by unfold Region.wanted;rw[hg]
       rw[if_pos (hw _),Xa];simp only[hd];have hstart:=l9 (fn:=fn) hi;have fin: ∀(v:Value) (u':FrameMode),settle u'=.returning→aI g rec v→
         Code.wpS E.P b (bodyPostS E.P fn c₀ cs fun e u' w'=>∃x1 bs1 g' v,(x1=x'∧bs1=bs)∧(∃v',e=.returned v')∧settle u'=.returning∧Inv E B g.G w ⟨[x1],eX 0 args bs1⟩ g' ⟨#[v],[]⟩ w')
          (Act.put {tmps:=vs.toArray++Array.replicate (fn.ntmps-vs.toArray.size) undef,defers:=[]} (some d) v) ({c₀ with mode:=u'}::cs) w:=by
        intro v u' hset hv;refine wpS_of_wp (hl B g.G w g _ w (hstart.put (some d) hv) _ fun g' a' w' hi'=>?_);have hrun:(results fn a'.tmps).run E.P w'=.ok (.tuple #[]) w':=by
         have:=nk (fn:=fn) (a:=a') (w:=w') (E:=E) (us:=[]) (by rw[hres];rfl);simpa[yB] using this
        have qR:a'.defers=[]:=hi'.df.trans hdf;have hfin: ∃g2,Inv E B g.G w ⟨[x'],eX 0 args bs⟩ g2 ⟨#[.tuple #[]],[]⟩ w':=by
         exact hinv rfl rfl hdf (fun _ _ _=>rfl) hi' (v:=.tuple #[]) ⟨[],rfl,.nil⟩
        obtain⟨g2,h2⟩:=hfin;have hpost:a'.defers=[]∧ ∃u'',({c₀ with mode:=u'}::cs:List Frame)={c₀ with mode:=u''}::cs∧ ∃v,(results fn a'.tmps).run E.P w'=.ok v w'∧ ∃x1 bs1 g' v_1,(x1=x'∧bs1=bs)∧(∃v',Ending.returned v=.returned v')∧settle u''=.returning∧Inv E B g.G w ⟨[x1],eX 0 args bs1⟩ g' ⟨#[v_1],[]⟩ w':=
         ⟨qR,u',rfl,_,hrun,_,_,g2,_,⟨rfl,rfl⟩,⟨_,rfl⟩,hset,h2⟩
        rcases hee with rfl|rfl
        ·exact hpost
        ·exact hpost
       rcases hu with⟨rfl,rfl⟩|⟨q,hq,rfl⟩
       ·have hrec:recoverD (c₀::cs)=none:=by simp only[recoverD,hc₀]
        rw[hrec];have:=fin .nilIface .returning rfl (mg.2 rfl);have e1:({c₀ with mode:=.returning}:Frame)=c₀:=by rw[←hc₀]
        rw[e1] at this;exact this
       ·have hrec:recoverD (c₀::cs)=some (q,{c₀ with mode:=.panicking [{v:=q,recovered:=true}]}::cs):=by simp only[recoverD,hc₀]
        rw[hrec];exact fin q _ rfl (xS hq).1
      ·cases h
     ·cases h
    ·cases h
   ·cases h
  ·cases h
theorem clo_cps (hE:sO E) {α:Type} {call:Caller α} (hc:lu E call) {fuel f:Nat} {args:List V} {rec:V} {K:V→Option α} {r:α} {o:Bool} (h:LJ o E call fuel f args rec K=some r):jI E.P f=true∧DC E f args rec (fun x bs=>K (.out false x bs)=some r):=by
 unfold LJ at h;split at h
 ·cases h
 ·rename_i fn hfn
  split at h
  ·rename_i c hbody
   split at h
   ·rename_i id ops b
    split at h
    ·rename_i op hops
     split at h
     ·rename_i cl d hop hg hd hres
      split at h
      ·rename_i kY lT
       refine⟨by unfold jI;rw[hfn];simp only[hbody];rfl,fun B g w vs hdf hi u hu=>?_⟩;refine callsD_of_wpS hfn hbody fun c₀ cs hc₀=>?_
       have W9:ops= #[op]:=by rw[←Array.toList_inj];simpa using hops
       subst W9;refine wpS_seq (wpS_region ?_);have Xa: ∀ρ,(execOp ρ op).run E.P w=.ok .recover w:=by
        intro ρ;obtain⟨callee,jZ,cts⟩:=cl;simp only at kY lT;subst kY;simp only[execOp,hop,resolve];simp[invoke,builtin]
       have hlist:List.range (#[op]:Array Oper).size=[0]:=rfl;rw[hlist];unfold wpOpsS;simp only[List.getElem?_toArray,List.getElem?_cons_zero];have hw: ∀y,Region.wanted op y=true:=fun y=>by unfold Region.wanted;rw[hg]
       rw[if_pos (hw _),Xa];simp only[hd];have hstart:=l9 (fn:=fn) hi;have fin: ∀(v:Value) (u':FrameMode),settle u'=.returning→aI g rec v→
         Code.wpS E.P b (bodyPostS E.P fn c₀ cs fun e u' w'=>∃x' bs g' v,K (.out false x' bs)=some r∧(∃v',e=.returned v')∧settle u'=.returning∧Inv E B g.G w ⟨[x'],eX 0 args bs⟩ g' ⟨#[v],[]⟩ w')
          (Act.put {tmps:=vs.toArray++Array.replicate (fn.ntmps-vs.toArray.size) undef,defers:=[]} (some d) v) ({c₀ with mode:=u'}::cs) w:=by
        intro v u' hset hv;refine wpS_of_wp (oD hE hc _ fuel b _ _ r h g _ w (hstart.put (some d) hv) _ fun e s' g' a' w' he hi'=>?_);have hret:pM false (.tup []) s' args K=some r∧(e=.norm∨e=.ret):=by
         cases e with
         |norm=>exact⟨he,.inl rfl⟩
         |ret=>exact⟨he,.inr rfl⟩
         |exit id=>cases he
         |nX v=>cases he
        obtain⟨ho,hee⟩:=hret;obtain⟨x',bs,hK,_,htup,hinv⟩:=Dm (E:=E) ho;have hrun:(results fn a'.tmps).run E.P w'=.ok (.tuple #[]) w':=by
         have:=nk (fn:=fn) (a:=a') (w:=w') (E:=E) (us:=[]) (by rw[hres];rfl);simpa[yB] using this
        have qR:a'.defers=[]:=hi'.df.trans hdf;have hfin: ∃g2,Inv E B g.G w ⟨[x'],eX 0 args bs⟩ g2 ⟨#[.tuple #[]],[]⟩ w':=by
         exact hinv rfl rfl hdf (fun _ _ _=>rfl) hi' (v:=.tuple #[]) ⟨[],rfl,.nil⟩
        obtain⟨g2,h2⟩:=hfin;have hpost:a'.defers=[]∧ ∃u'',({c₀ with mode:=u'}::cs:List Frame)={c₀ with mode:=u''}::cs∧ ∃v,(results fn a'.tmps).run E.P w'=.ok v w'∧ ∃x' bs g' v_1,K (.out false x' bs)=some r∧(∃v',Ending.returned v=.returned v')∧settle u''=.returning∧Inv E B g.G w ⟨[x'],eX 0 args bs⟩ g' ⟨#[v_1],[]⟩ w':=
         ⟨qR,u',rfl,_,hrun,x',bs,g2,_,hK,⟨_,rfl⟩,hset,h2⟩
        rcases hee with rfl|rfl
        ·exact hpost
        ·exact hpost
       rcases hu with⟨rfl,rfl⟩|⟨q,hq,rfl⟩
       ·have hrec:recoverD (c₀::cs)=none:=by simp only[recoverD,hc₀]
        rw[hrec];have:=fin .nilIface .returning rfl (mg.2 rfl);have e1:({c₀ with mode:=.returning}:Frame)=c₀:=by rw[←hc₀]
        rw[e1] at this;exact this
       ·have hrec:recoverD (c₀::cs)=some (q,{c₀ with mode:=.panicking [{v:=q,recovered:=true}]}::cs):=by simp only[recoverD,hc₀]
        rw[hrec];exact fin q _ rfl (xS hq).1
      ·cases h
     ·cases h
    ·cases h
   ·cases h
  ·cases h
def FOk (E:Env) (f:Nat) (args:List V) (v:V):Prop:=(tC v=false∧af E f (args.map V.wO) v)∨(∃p x bs,v=.out p x bs∧XC E f args p x bs)∨ ∃p x,v=.keep p x∧KC E f args p x
theorem Gu {x:V} (h:x.dZ=true):x.plain=true:=by
 cases x with
 |sl e sh o xs=>cases o<;>first|rfl|cases h
 |agg cs=>rfl
 |rptr sh y off=>rfl
 |iface t y=>rfl
 |_=>cases h
theorem Cu {G:aM} {g:Gh} (h1:g.G=G) (h2:g.G1=G): ∀{args:List V} {us:List Value},yx args=some args→handed args=false→PW (aN G) (args.map V.wO) us→PW (aI g) args us
 |[],us,_,_,hp=>by rw[hp.bT];exact .nil
 |x::l,us,ha,hh,hp=>by
  obtain⟨v,t,rfl,hv,ht⟩:=hp.cons_inv;unfold handed at hh;rw[List.any_cons,Bool.or_eq_false_iff] at hh;unfold yx at ha;split at ha
  ·rename_i a b hxa hlb
   simp only[Option.some.injEq,List.cons.injEq] at ha;obtain⟨rfl,rfl⟩:=ha;refine .cons ?_ (Cu h1 h2 hlb hh.2 ht);have dp: ∀{y:V},y.deep=some y→aN G y v→aI g y v:=fun hd hr=>bI (jy hd) (by rw[h1];exact hr)
   cases a with
   |bxa off cs=>cases hh.1
   |sl e sh o xs=>cases o with
    |none=>exact dp rfl hv
    |some L=>cases hh.1
   |old y=>
    have hxa:(bif y.dZ then some (V.old y) else none)=some (.old y):=hxa;obtain⟨ho,_⟩:=aC hxa;have hv:aN G (bif y.dZ then y else .any) v:=hv;rw[ho,cond_true] at hv;exact⟨by rw[h2];exact hv,by rw[h1];exact hv,Gu ho⟩
   |fn f c=>cases c with
    |nil=>exact dp rfl hv
    |cons c cs=>
     have hv:aN G (.fn f (c::cs)) v:=hv;unfold aN at hv;exact absurd hv.2 (by simp)
   |_=>exact dp hxa hv
  ·cases ha
theorem jl {f:Nat} {args:List V} {r:V} (ha:yx args=some args) (hh:handed args=false)
  (h: ∀(B:Own) (g:Gh) (w:World) (us:List Value),B.df=[]→Inv E B g.G w ⟨args,[]⟩ g ⟨us.toArray,[]⟩ w→Calls E.P f us.toArray w fun e w'=>∃v g',e=.returned v∧Inv E B g.G w ⟨[],[]⟩ g' ⟨#[],[]⟩ w'∧fu g'.G w' B.m r v):af E f (args.map V.wO) r:=by
 intro G w us hG Xb hp;have hp:=Cu (g:=⟨G,fun _=>none,fun _=>none,G,fun _=>none⟩) rfl rfl ha hh hp;have hi:Inv E ⟨(w.heap.size≤ ·),w.heap.size,fun _=>none,[]⟩ G w ⟨args,[]⟩ ⟨G,fun _=>none,fun _=>none,G,fun _=>none⟩ ⟨us.toArray,[]⟩ w:=by
  refine⟨?_,rfl,hG,⟨fun L v e sz h=>(by cases h),fun L L' v v' e e' sz sz' b h=>(by cases h)⟩,⟨fun k cs h=>(by cases h),fun k k' cs cs' h=>(by cases h)⟩,.refl _ _,⟨Nat.le_refl _,fun b hb=>hb⟩,⟨fun _ _=>rfl,.refl _,fun _ _=>rfl⟩,⟨Xb,fun b l hb=>dV hG hb⟩,.refl _,fun k cs L v e sz b hk=>(by cases hk)⟩;show PW _ args us.toArray.toList;rw[List.toList_toArray];exact hp
 refine Calls.mono (h _ ⟨G,fun _=>none,fun _=>none,G,fun _=>none⟩ w us rfl hi) ?_;rintro e w' ⟨v,g',rfl,hi',hr⟩;exact⟨v,g'.G,rfl,⟨hi'.kX.below,fun b hb=>hi'.ext.1 b (Nat.not_le.2 hb),hi'.gok⟩,hr⟩
theorem Inv.drop {B B2:Own} {G0:aM} {w0:World} {s:St} {g:Gh} {a:Act} {w:World} (h:Inv E B G0 w0 s g a w) (hm:B2.m=B.m) (hn:B2.n=B.n): ∃g',g'.G=g.G∧Inv E B2 G0 w0 ⟨[],[]⟩ g' ⟨#[],B2.df⟩ w:=by
 refine⟨⟨g.G,fun _=>none,B2.β,g.G1,fun _=>none⟩,rfl,⟨.nil,rfl,h.gok,⟨fun L v e sz hL=>(by cases hL),fun L L' v v' e e' sz sz' b hL=>(by cases hL)⟩,⟨fun k cs hk=>(by cases hk),fun k k' cs cs' hk=>(by cases hk)⟩,by rw[hm];exact h.kX,by rw[hm,hn];exact h.hB,⟨fun b hb=>h.ext.1 b (by rw[←hm];exact hb),h.ext.2.1,fun _ _=>rfl⟩,by rw[hn];exact h.glob,h.g1,fun k cs L v e sz b hk=>(by cases hk)⟩⟩
theorem Ux {s:St} {rs:List ResultVar} {p:Bool} {x:V} {bs:List (List V)} (h:qx E.P s rs=some [.out p x bs]):tC (.out p x bs)=false:=by
 exfalso
 cases rs with
 |nil=>cases h
 |cons r rs=>
  simp only[qx] at h;split at h
  ·cases h
  ·rename_i y hy
   split at h
   ·cases h
   ·simp only[Option.some.injEq,List.cons.injEq] at h
    obtain⟨rfl,_⟩:=h;have:=Cr hy;rcases this with h|⟨e,sh,o,xs,h⟩|⟨cs,h⟩
    ·cases h
    ·cases h
    ·cases h
theorem Qj {s:St} {rs:List ResultVar} {p:Bool} {x:V} (h:qx E.P s rs=some [.keep p x]):tC (.keep p x)=false:=by
 exfalso
 cases rs with
 |nil=>cases h
 |cons r rs=>
  simp only[qx] at h;split at h
  ·cases h
  ·rename_i y hy
   split at h
   ·cases h
   ·simp only[Option.some.injEq,List.cons.injEq] at h
    obtain⟨rfl,_⟩:=h;have:=Cr hy;rcases this with h|⟨e,sh,o,xs,h⟩|⟨cs,h⟩
    ·cases h
    ·cases h
    ·cases h
def Rq (E:Env) (fn:Func) (s:St) (v:V):Prop:=
 ∀{B B2:Own} {G0:aM} {w0:World} {g:Gh} {a:Act} {w:World},B2.m=B.m→B2.n=B.n→Inv E B G0 w0 s g a w→ ∃u g2,(results fn a.tmps).run E.P w=.ok u w∧Inv E B2 G0 w0 ⟨[],[]⟩ g2 ⟨#[],B2.df⟩ w∧fu g2.G w B.m v u
theorem Qk {fn:Func} {s:St} {vs:List V} (h:qx E.P s fn.results.toList=some vs):Rq E fn s (LH vs):=by
 intro B B2 G0 w0 g a w hm hn hi;obtain⟨us,hu,hpu⟩:=qj hi _ _ h;have hres:=ret_res hi.own hpu;obtain⟨g2,hg2,hfo⟩:=hi.drop (B2:=B2) hm hn;rw[←hg2] at hres;exact⟨_,g2,nk hu,hfo,hres⟩
theorem kd_fits {v y:V} {k:Kd} (h:OZ v=some k) (hd:v.deep=some y):fits k y=true:=by
 cases v with
 |bool b=>simp only[OZ,Option.some.injEq] at h;simp only[V.deep,Option.some.injEq] at hd;subst h;subst hd;rfl
 |int k n=>simp only[OZ,Option.some.injEq] at h;simp only[V.deep,Option.some.injEq] at hd;subst h;subst hd;simp[fits]
 |str l=>simp only[OZ,Option.some.injEq] at h;simp only[V.deep,Option.some.injEq] at hd;subst h;subst hd;rfl
 |sl e sh o xs=>
  simp only[OZ] at h;obtain⟨h1,h2⟩:=aC h;simp only[V.deep,Option.some.injEq] at hd;simp only[Option.some.injEq] at h2;subst h2;subst hd;simp[fits,h1]
 |_=>simp[OZ] at h
theorem Mj: ∀{vs ys:List V} {ks:List Kd},G5 vs=some ks→V.vR vs=some ys→fJ ks ys=true
 |[],ys,ks,h,hd=>by
  simp only[G5,Option.some.injEq] at h;simp only[V.vR,Option.some.injEq] at hd;subst h;subst hd;rfl
 |v::l,ys,ks,h,hd=>by
  simp only[G5] at h;simp only[V.vR] at hd;split at h
  ·rename_i k ks' hk hks
   split at hd
   ·rename_i y ys' hy hys
    simp only[Option.some.injEq] at h hd;subst h;subst hd;simp only[fJ,kd_fits hk hy,Mj hks hys];rfl
   ·cases hd
  ·cases h
theorem R4 {s:St} {rs:List ResultVar} {v:V} (h:DW s rs=some v): ∃t k cells sh cs,rs=[.tmp t]∧slot s.fr t=.box k 0∧au s.bx k=some cells∧G5 cells=some sh∧V.vR cells=some cs∧v=.rptr sh (.agg cs) 0:=by
 unfold DW at h;split at h
 ·rename_i t
  split at h
  ·rename_i k off hsl
   obtain⟨h1,h2⟩:=aC h;obtain rfl:off=0:=by simpa using h1
   split at h2
   ·rename_i cells hc
    split at h2
    ·rename_i sh hk
     split at h2
     ·rename_i cs hd
      simp only[Option.some.injEq] at h2;exact⟨t,k,cells,sh,cs,rfl,hsl,hc,hk,hd,h2.symm⟩
     ·cases h2
    ·cases h2
   ·cases h2
  ·cases h
 ·cases h
theorem frz_out {s:St} {rs:List ResultVar} {v:V} (h:DW s rs=some v):tC v=false:=by
 obtain⟨_,_,_,_,_,_,_,_,_,_,rfl⟩:=R4 h;rfl
theorem Ql {fn:Func} {s:St} {v:V} (h:DW s fn.results.toList=some v):Rq E fn s v:=by
 obtain⟨t,k,cells,sh,cs,hrs,hsl,hl,hk,hd,rfl⟩:=R4 h;intro B B2 G0 w0 g a w hm hn hi;have hev:aI g (slot s.fr t) (a.tmps.getD t undef):=dW hi.fr hi.mU (.tmp t);rw[hsl] at hev;obtain⟨b,hb,hv⟩:=dQ.1 hev;obtain⟨b',c,e,hb',hBb,hh,hp,ho,hG,_⟩:=hi.bxs.1 k cells hl;rw[hb] at hb';simp only[Option.some.injEq] at hb';subst hb';have hrun:(fn.results.toList.mapM (xk a)).run E.P w=.ok [a.tmps.getD t undef] w:=by
  rw[hrs,List.mapM_cons];rfl
 have hmore:lH g.G (upd g.G b c.toList):=by
  intro j l hj;have:j≠b:=fun e=>by rw[e,hG] at hj;cases hj
  exact⟨l,by rw[gq _ _ _ _ this];exact hj,List.prefix_refl _⟩
 have hfit:=Mj hk hd;have hpw:PW (aN (upd g.G b c.toList)) cs c.toList:=(EB cells cs c.toList hd hp).mono fun x _ u hu=>gJ hmore x u hu
 obtain⟨g2,hg2,hfo⟩:=hi.drop (B2:=B2) hm hn;refine⟨_,⟨upd g.G b c.toList,fun _=>none,B2.β,g2.G1,fun _=>none⟩,nk hrun,?_,?_⟩
 ·refine⟨.nil,rfl,?_,⟨fun L v e sz hL=>(by cases hL),fun L L' v v' e e' sz sz' b hL=>(by cases hL)⟩,⟨fun k cs hk=>(by cases hk),fun k k' cs cs' hk=>(by cases hk)⟩,hfo.kX,hfo.hB,⟨fun j hj=>?_,?_,fun _ _=>rfl⟩,hfo.glob,hfo.g1,fun k cs L v e sz b hk=>(by cases hk)⟩
  ·intro j l hj
   have hj:upd g.G b c.toList j=some l:=hj;by_cases e1:j=b
   ·subst e1
    rw[upd_same] at hj;obtain rfl:=Option.some.inj hj;exact⟨c,e,_,hh,List.take_length⟩
   ·rw[gq _ _ _ _ e1] at hj
    exact hi.gok j l hj
  ·have:j≠b:=fun e1=>hj (by rw[e1,hm];exact hBb)
   show upd g.G b c.toList j=_;rw[gq _ _ _ _ this];exact hi.ext.1 j (by rw[←hm];exact hj)
  ·exact hi.ext.2.1.trans hmore
 ·rw[show yB [a.tmps.getD t undef]=a.tmps.getD t undef from rfl,hv]
  show aN (upd g.G b c.toList) (.rptr sh (.agg cs) 0) _;unfold aN;refine⟨b,0,c.toList,rfl,upd_same _ _ _,hfit,.agg c,?_,?_⟩
  ·unfold aN
   exact⟨c.toList,by simp,(eP _ _).2 hpw⟩
  ·have h1:=jP _ _ hfit
   have h2:cs.length=c.toList.length:=hpw.1;rw[List.drop_zero,h1,h2,List.take_length];simp[Value.cells]
theorem kT {α:Type} {fn:Func} {args:List V} {K:V→Option α} {r:α} {e:Ex} {s':St} (he:Gb E.P fn args K e s'=some r):
  ∃v,K v=some r∧((tC v=false∧handed args=false∧(e=.norm∨e=.ret)∧Rq E fn s' v)∨
   (∃x bs,v=.out false x bs∧(e=.norm∨e=.ret)∧ ∀{B B2:Own} {G0:aM} {w0:World} {g:Gh} {a:Act} {w:World},B2.m=B.m→B2.n=B.n→B2.df=[]→(∀a b,(a,b)∈jH 0 args→B2.β a=B.β a)→Inv E B G0 w0 s' g a w→ ∃u g',(results fn a.tmps).run E.P w=.ok u w∧Inv E B2 G0 w0 ⟨[x],eX 0 args bs⟩ g' ⟨#[u],[]⟩ w)∨
   (∃x bs u,v=.out true x bs∧(∃y,e=.nX y∧bR y=some u)∧ ∀{B B2:Own} {G0:aM} {w0:World} {g:Gh} {a:Act} {w:World},B2.m=B.m→B2.n=B.n→B2.df=[]→(∀a b,(a,b)∈jH 0 args→B2.β a=B.β a)→Inv E B G0 w0 s' g a w→ ∃g',Inv E B2 G0 w0 ⟨[x],eX 0 args bs⟩ g' ⟨#[u],[]⟩ w)):=by
 have R5:(e=.norm∨e=.ret)→(match qx E.P s' fn.results.toList with|some vs=>(bif handed args then pM false (Ri vs) s' args K else K (LH vs))|none=>bif handed args then none else(match DW s' fn.results.toList with|some r=>K r|none=>none))=some r→
   ∃v,K v=some r∧((tC v=false∧handed args=false∧(e=.norm∨e=.ret)∧Rq E fn s' v)∨
   (∃x bs,v=.out false x bs∧(e=.norm∨e=.ret)∧ ∀{B B2:Own} {G0:aM} {w0:World} {g:Gh} {a:Act} {w:World},B2.m=B.m→B2.n=B.n→B2.df=[]→(∀a b,(a,b)∈jH 0 args→B2.β a=B.β a)→Inv E B G0 w0 s' g a w→ ∃u g',(results fn a.tmps).run E.P w=.ok u w∧Inv E B2 G0 w0 ⟨[x],eX 0 args bs⟩ g' ⟨#[u],[]⟩ w)∨
   (∃x bs u,v=.out true x bs∧(∃y,e=.nX y∧bR y=some u)∧ ∀{B B2:Own} {G0:aM} {w0:World} {g:Gh} {a:Act} {w:World},B2.m=B.m→B2.n=B.n→B2.df=[]→(∀a b,(a,b)∈jH 0 args→B2.β a=B.β a)→Inv E B G0 w0 s' g a w→ ∃g',Inv E B2 G0 w0 ⟨[x],eX 0 args bs⟩ g' ⟨#[u],[]⟩ w)):=by
  intro hee h;split at h
  ·rename_i vs hvs
   cases hh:handed args with
   |false=>
    rw[hh,cond_false] at h;refine⟨_,h,.inl ⟨?_,rfl,hee,Qk hvs⟩⟩
    cases vs with
    |nil=>rfl
    |cons v l=>cases l with
     |cons _ _=>rfl
     |nil=>
      have:nJ v=true:=by
       cases hres:fn.results.toList with
       |nil=>rw[hres] at hvs;cases hvs
       |cons x rs=>
        rw[hres] at hvs;simp only[qx] at hvs;split at hvs
        ·cases hvs
        ·rename_i y hy
         split at hvs
         ·cases hvs
         ·simp only[Option.some.injEq,List.cons.injEq] at hvs
          rw[←hvs.1];exact Uu hy
      show tC v=false
      cases v with
      |out _ _ _=>exact Ux hvs
      |keep _ _=>exact Qj hvs
      |_=>rfl
   |true=>
    rw[hh,cond_true] at h;obtain⟨x',bs,hK,_,_,hinv⟩:=Dm (E:=E) h;refine⟨_,hK,.inr (.inl ⟨x',bs,rfl,hee,fun {B B2 G0 w0 g a w} m1 m2 m3 m4 hi=>?_⟩)⟩;obtain⟨us,hu,hpu⟩:=qj hi _ _ hvs;obtain⟨g',h2⟩:=hinv m1 m2 m3 m4 hi (Uv hpu);exact⟨_,g',nk hu,h2⟩
  ·cases hh:handed args with
   |true=>rw[hh,cond_true] at h;cases h
   |false=>
    rw[hh,cond_false] at h;split at h
    ·rename_i v hv
     exact⟨v,h,.inl ⟨frz_out hv,rfl,hee,Ql hv⟩⟩
    ·cases h
 cases e with
 |norm=>exact R5 (.inl rfl) he
 |ret=>exact R5 (.inr rfl) he
 |exit id=>cases he
 |nX y=>
  have he:(match bR y with|some _=>pM true y s' args K|none=>none)=some r:=he;split at he
  ·rename_i u hu
   obtain⟨x',bs,hK,hif,_,hinv⟩:=Dm (E:=E) he;refine⟨_,hK,.inr (.inr ⟨x',bs,u,rfl,⟨y,rfl,hu⟩,fun {B B2 G0 w0 g a w} m1 m2 m3 m4 hi=>hinv m1 m2 m3 m4 hi (xS hu).1⟩)⟩
  ·cases he
theorem Inv.redf {B:Own} {G0:aM} {w0:World} {s:St} {g:Gh} {a:Act} {w:World} (h:Inv E B G0 w0 s g a w) (df:List Deferred):Inv E {B with df:=df} G0 w0 s g {a with defers:=df} w:=
 ⟨h.fr,rfl,h.gok,h.own,h.bxs,h.kX,h.hB,h.ext,h.glob,h.g1,h.zb⟩
theorem Fz {c a b:Code} {o1 o2:Oper} (h:JR c=some (a,o1,o2,b)): ∃id,c=.seq a (.seq (.region id #[o1,o2] false) b):=by
 unfold JR at h;split at h
 ·rename_i x id ops y
  split at h
  ·rename_i p q hops
   split at h
   ·simp only[Option.some.injEq,Prod.mk.injEq] at h
    obtain⟨rfl,rfl,rfl,rfl⟩:=h;have:ops= #[p,q]:=by rw[←Array.toList_inj];simpa using hops
    exact⟨id,by rw[this]⟩
   ·cases h
  ·cases h
 ·cases h
end
section
variable {E:Env}
theorem y5 {g:Gh} {β':Nat→Option Nat} {k k':Nat} (h1:β' k'=g.β k) (h2: ∀j,j≠k'→β' j=g.β j) {x:V} {v:Value} (hx:q9 k' x=false) (h:bE g x v):bE {g with β:=β'} (rbV k k' x) v:=by
 cases x with
 |box j off=>
  obtain⟨b,hb,hv⟩:=h;show bE _ (bif j==k then .box k' off else .box j off) v
  cases hj:j==k with
  |true=>
   obtain rfl:j=k:=by simpa using hj
   exact⟨b,h1.trans hb,hv⟩
  |false=>
   have hne:j≠k':=fun e=>by subst e;simp[q9] at hx
   exact⟨b,(h2 j hne).trans hb,hv⟩
 |sl e sh ow xs=>cases ow<;>exact h
 |eptr _ _ _ _ _ _=>exact h
 |_=>exact h
theorem Qm {k k':Nat} {x:V} (h:x.single=true):(rbV k k' x).single=true:=by
 cases x with
 |box j off=>show(bif j==k then V.box k' off else .box j off).single=true;cases j==k<;>rfl
 |tup _=>cases h
 |fn _ _=>cases h
 |_=>rfl
theorem R6 {g:Gh} {β':Nat→Option Nat} {k k':Nat} (h1:β' k'=g.β k) (h2: ∀j,j≠k'→β' j=g.β j) {x:V} {v:Value} (hx:x.fV k'=false) (h:aI g x v):aI {g with β:=β'} (x.rb k k') v:=by
 cases x with
 |tup vs=>
  obtain⟨a,rfl,h⟩:=h;simp only[V.fV,List.any_eq_false] at hx;exact⟨a,rfl,dJ h fun y hy v hv=>y5 h1 h2 (by have:=hx y hy;simpa using this) hv⟩
 |fn f c=>
  obtain⟨a,rfl,h⟩:=h;simp only[V.fV,List.any_eq_false] at hx;exact⟨a,rfl,dJ h fun y hy v hv=>y5 h1 h2 (by have:=hx y hy;simpa using this) hv⟩
 |box j off=>exact bA (Qm (x:=.box j off) rfl) (y5 (x:=.box j off) h1 h2 hx (aV (x:=.box j off) rfl h))
 |_=>simp only[aI,V.fV] at h hx⊢;exact y5 h1 h2 hx h
theorem qL {k k':Nat}: ∀(l:List (Nat×List V)),(∀p∈l,p.1≠k')→ ∀j cs,au (rbBx k k' l) j=some cs→ ∃j0 cs0,au l j0=some cs0∧cs=cs0.map (V.rb k k')∧j=if j0=k then k' else j0
 |[],_,j,cs,h=>by cases h
 |(i,c)::l,hl,j,cs,h=>by
  have hi:i≠k':=hl (i,c) List.mem_cons_self;unfold rbBx au at h
  cases hq:(bif i==k then k' else i)==j with
  |true=>
   rw[hq,cond_true] at h;simp only[Option.some.injEq] at h;refine⟨i,c,by unfold au;rw[beq_self_eq_true,cond_true],h.symm,?_⟩;rw[beq_iff_eq] at hq;rw[←hq];by_cases hik:i=k
   ·subst hik;rw[beq_self_eq_true,cond_true,if_pos rfl]
   ·have:(i==k)=false:=by simpa using hik
    rw[this,cond_false,if_neg hik]
  |false=>
   rw[hq,cond_false] at h;obtain⟨j0,cs0,h1,h2,h3⟩:=qL l (fun p hp=>hl p (List.mem_cons_of_mem _ hp)) j cs h;refine⟨j0,cs0,?_,h2,h3⟩;unfold au;have hne:i≠j0:=by
    intro e;subst e;rw[beq_eq_false_iff_ne] at hq;apply hq
    rw[h3];by_cases hik:i=k
    ·subst hik;rw[beq_self_eq_true,cond_true,if_pos rfl]
    ·have:(i==k)=false:=by simpa using hik
     rw[this,cond_false,if_neg hik]
   have:(i==j0)=false:=by simpa using hne
   rw[this,cond_false];exact h1
theorem Inv.rb {B:Own} {G0:aM} {w0:World} {s:St} {g:Gh} {a:Act} {w:World} (h:Inv E B G0 w0 s g a w) {k k':Nat} (hn:s.lN k'=true) (hk:k≠k'):
  Inv E {B with β:=fun j=>if j=k' then g.β k else B.β j} G0 w0 (s.rb k k') {g with β:=fun j=>if j=k' then g.β k else g.β j} a w:=by
 have h1:(fun j=>if j=k' then g.β k else g.β j) k'=g.β k:=if_pos rfl;have h2: ∀j,j≠k'→(fun j=>if j=k' then g.β k else g.β j) j=g.β j:=fun j hj=>if_neg hj
 have hkeys: ∀p∈s.bx,p.1≠k':=fun p hp e=>by
  unfold St.lN at hn;rw[Bool.and_eq_true,List.all_eq_true,List.all_eq_true] at hn;have:=hn.2 p hp;simp only[Bool.and_eq_true] at this;have:=fe this.1;rw[beq_eq_false_iff_ne] at this;exact this e
 refine⟨dJ h.fr fun x hx v=>R6 h1 h2 (EH hn x hx),h.df,h.gok,h.own,⟨fun j cs hj=>?_,fun j j' cs cs' hj hj' hb=>?_⟩,h.kX,h.hB,⟨h.ext.1,h.ext.2.1,fun j hj=>?_⟩,h.glob,h.g1,fun j cs L v e sz b hj hL hb hβ=>?_⟩
 ·obtain⟨j0,cs0,q1,rfl,rfl⟩:=qL s.bx hkeys j cs hj
  obtain⟨b,c,e,r1,r2,r3,r4,r5,r6,r7⟩:=h.bxs.1 j0 cs0 q1;have hj0:j0≠k':=hkeys _ (jC _ _ _ q1);refine⟨b,c,e,?_,r2,r3,dJ r4 fun x hx v=>R6 h1 h2 ((uj hn j0 cs0 q1).2 x hx),r5,r6,kg (rb_nilp _ _) r7⟩;show(if(if j0=k then k' else j0)=k' then g.β k else g.β (if j0=k then k' else j0))=some b;by_cases hjk:j0=k
  ·subst hjk;simp[r1]
  ·rw[if_neg hjk,if_neg hj0];exact r1
 ·obtain⟨j0,cs0,q1,_,rfl⟩:=qL s.bx hkeys j cs hj
  obtain⟨j1,cs1,q2,_,rfl⟩:=qL s.bx hkeys j' cs' hj';have hj0:j0≠k':=hkeys _ (jC _ _ _ q1);have hj1:j1≠k':=hkeys _ (jC _ _ _ q2);have e0: ∀j,j≠k'→(if(if j=k then k' else j)=k' then g.β k else g.β (if j=k then k' else j))=g.β j:=by
   intro j hj;by_cases hjk:j=k
   ·subst hjk;simp
   ·rw[if_neg hjk,if_neg hj]
  have hb:(if(if j0=k then k' else j0)=k' then g.β k else g.β (if j0=k then k' else j0))=(if(if j1=k then k' else j1)=k' then g.β k else g.β (if j1=k then k' else j1)):=hb;rw[e0 j0 hj0,e0 j1 hj1] at hb;rw[h.bxs.2 j0 j1 cs0 cs1 q1 q2 hb]
 ·show(if j=k' then g.β k else g.β j)=(if j=k' then g.β k else B.β j)
  split
  ·rfl
  ·exact h.ext.2.2 j hj
 ·obtain⟨j0,cs0,q1,_,rfl⟩:=qL s.bx hkeys j cs hj
  have hj0:j0≠k':=hkeys _ (jC _ _ _ q1);have hβ:(if(if j0=k then k' else j0)=k' then g.β k else g.β (if j0=k then k' else j0))=some b:=hβ;refine h.zb j0 cs0 L v e sz b q1 hL hb ?_;by_cases hjk:j0=k
  ·subst hjk;simpa using hβ
  ·rw[if_neg hjk,if_neg hj0] at hβ;exact hβ
theorem Mk {G0:aM} {w0:World} {a:Act} {w:World}: ∀(bG:List V) (j:Nat) (B:Own) (s s':St) (g:Gh) (cv:List Value),Inv E B G0 w0 s g a w→pP j bG s=some s'→PW (bE g) bG cv→
  ∃B' g',B'.m=B.m∧B'.n=B.n∧B'.df=B.df∧(∀k,k<HL+5000+j→B'.β k=B.β k)∧(∀i v,cv[i]? =some v→ ∃b,B'.β (HL+5000+j+i)=some b∧v=.pointer (some ⟨b,0,none⟩))∧Inv E B' G0 w0 s' g' a w
 |[],j,B,s,s',g,cv,h,hr,hp=>by
  simp only[pP,Option.some.injEq] at hr;subst hr;rw[hp.bT];exact⟨B,g,rfl,rfl,rfl,fun _ _=>rfl,fun i v hv=>by simp at hv,h⟩
 |x::bG,j,B,s,s',g,cv,h,hr,hp=>by
  cases x with
  |box k off=>
   cases off with
   |succ n=>cases hr
   |zero=>
   unfold pP at hr;obtain⟨hc,hr⟩:=aC hr;rw[Bool.and_eq_true] at hc;have hkl:=jk hc.2;obtain⟨v,t,rfl,⟨b,hb,hv⟩,ht⟩:=hp.cons_inv;have hk:k≠HL+5000+j:=by omega
   have h1:=h.rb hc.1 hk;have ht':PW (bE {g with β:=fun i=>if i=HL+5000+j then g.β k else g.β i}) bG t:=by
    refine caps_pw (s:=s.rb k (HL+5000+j)) bG (j+1) hr ht fun i hi=>?_
    show(if i=HL+5000+j then g.β k else g.β i)=g.β i;rw[if_neg (by omega)]
   obtain⟨B',g',m1,m2,m3,m4,m5,m6⟩:=Mk bG (j+1) _ _ s' _ t h1 hr ht';refine⟨B',g',m1,m2,m3,fun i hi=>?_,fun i u hu=>?_,m6⟩
   ·rw[m4 i (by omega)]
    show(if i=HL+5000+j then g.β k else B.β i)=B.β i;rw[if_neg (by omega)]
   ·cases i with
    |zero=>
     simp only[List.getElem?_cons_zero,Option.some.injEq] at hu;subst hu;refine⟨b,?_,hv⟩;rw[Nat.add_zero,m4 (HL+5000+j) (by omega)];show(if HL+5000+j=HL+5000+j then g.β k else _)=some b;rw[if_pos rfl];exact hb
    |succ i=>
     simp only[List.getElem?_cons_succ] at hu;obtain⟨b',q1,q2⟩:=m5 i u hu;exact⟨b',by rw[←q1];congr 1;omega,q2⟩
  |_=>cases hr
where
 caps_pw {g:Gh} {β':Nat→Option Nat} {s s':St}: ∀(bG:List V) (j:Nat),pP j bG s=some s'→ ∀{t:List Value},PW (bE g) bG t→(∀i,i<HL→β' i=g.β i)→PW (bE {g with β:=β'}) bG t:=by
  intro bG;induction bG generalizing s with
  |nil=>intro j _ t hp _;rw[hp.bT];exact .nil
  |cons x bG ih=>
   intro j hr t hp hβ;obtain⟨v,t,rfl,h1,h2⟩:=hp.cons_inv
   cases x with
   |box k off=>
    cases off with
    |succ n=>cases hr
    |zero=>
     unfold pP at hr;obtain⟨hc,hr⟩:=aC hr;rw[Bool.and_eq_true] at hc;obtain⟨b,hb,hv⟩:=h1;exact .cons ⟨b,(hβ k (jk hc.2)).trans hb,hv⟩ (ih (j+1) hr h2 hβ)
   |_=>cases hr
theorem FC {g:Gh}: ∀(bG:List V) (j:Nat) (cv:List Value),bG.length=cv.length→(∀i v,cv[i]? =some v→ ∃b,g.β (HL+5000+j+i)=some b∧v=.pointer (some ⟨b,0,none⟩))→PW (Jd g) (kF j bG) cv
 |[],j,cv,hl,_=>by
  have:cv=[]:=List.eq_nil_of_length_eq_zero hl.symm;rw[this];exact .nil
 |x::bG,j,[],hl,_=>by simp at hl
 |x::bG,j,v::cv,hl,h=>by
  unfold kF;obtain⟨b,h1,h2⟩:=h 0 v rfl;refine .cons (.inr ⟨b,by simpa using h1,h2⟩) (FC bG (j+1) cv (by simpa using hl) fun i u hu=>?_);obtain⟨b',q1,q2⟩:=h (i+1) u (by simpa using hu);exact⟨b',by rw[←q1];congr 1;omega,q2⟩
theorem R7: ∀(args:List V) (j:Nat) {a b:Nat},(a,b)∈jH j args→a<HL+j+args.length
 |[],j,a,b,h=>by cases h
 |x::args,j,a,b,h=>by
  have rest:(a,b)∈jH (j+1) args→a<HL+j+(x::args).length:=fun h=>by have:=R7 args (j+1) h;rw[List.length_cons];omega
  cases x with
  |bxa off cs=>
   unfold jH at h;rcases List.mem_cons.1 h with h|h
   ·simp only[Prod.mk.injEq] at h
    obtain⟨rfl,rfl⟩:=h;rw[List.length_cons];omega
   ·exact rest h
  |_=>exact rest h
theorem KO (hE:sO E) {id:Nat} (hb:jI E.P id=true) (args:Array Value) (w:World):(callFunc id args).run E.P w=.ok (.enter id args) w:=by
 unfold jI at hb;split at hb
 ·rename_i fn hfn
  have hname:fn.name≠ "runtime.NumGoroutine" :=by
   have:=Array.all_eq_true_iff_forall_mem.1 hE.names fn (Array.mem_of_getElem? hfn);have hbn:fn.body.isNone=false:=by cases hq:fn.body with|none=>rw[hq] at hb;cases hb|some _=>rfl
   rw[hbn] at this;simpa using this
  obtain⟨bd,hbd⟩:=Option.isSome_iff_exists.1 hb;simp[callFunc,hfn,hname,hbd]
 ·cases hb
theorem mZ {args:List V} (hh:handed args=false):bH 0 args=args∧dG 0 args=[]:=by
 have: ∀(l:List V) (j:Nat),handed l=false→bH j l=l∧dG j l=[]:=by
  intro l;induction l with
  |nil=>intro j _;exact⟨rfl,rfl⟩
  |cons x l ih=>
   intro j h;unfold handed at h;rw[List.any_cons,Bool.or_eq_false_iff] at h;obtain⟨h1,h2⟩:=ih (j+1) h.2
   cases x with
   |bxa off cs=>cases h.1
   |_=>exact⟨by unfold bH;rw[h1];rfl,h2⟩
 exact this args 0 hh
def DfEnd (E:Env) (fn:Func) (gf:Nat) (bG args:List V) (B:Own) (g:Gh) (R:Ending→World→Prop) (e3:Ex) (s3:St) (w:World):Prop:=
 ∃(rec:V) (as:List V) (mb ml:List (Nat×Nat)) (Φ:V→List (List V)→Prop),((rec=.nilif∧(e3=.norm∨e3=.ret))∨ ∃u,e3=.nX rec∧bR rec=some u)∧
  om s3.bx 0 (kF 0 bG)=some (as,mb,ml)∧oh mb ml=true∧jI E.P gf=true∧DC E gf as rec Φ∧ ∀x0 K9,Φ x0 K9→ ∃s4,ou s3 none mb ml x0 K9=some s4∧
  ∀B4 g4 a4 w4,B.m=B4.m→B.n=B4.n→(∀a b,(a,b)∈jH 0 args→B.β a=B4.β a)→Inv E B4 g.G w s4 g4 a4 w4→ ∃v,(results fn a4.tmps).run E.P w4=.ok v w4∧R (.returned v) w4
theorem uk (hE:sO E) {α:Type} {call:Caller α} (ih:lu E call) {fuel f:Nat} {fn:Func} {cA cB:Code} {id:Nat} {o1 o2:Oper} {cl:Call} {t gf:Nat} {first ccaps:Array Operand} {bG args:List V}
  (hfn:E.P.funcs[f]? =some fn) (hb:fn.body=some (.seq cA (.seq (.region id #[o1,o2] false) cB))) (hg1:o1.guard=none) (hd1:o1.dst=some t) (hop2:o2.op=.defer cl) (hg2:o2.guard=none) (hd2:o2.dst=none)
  (kY:cl.callee=.value (.tmp t)) (lT:cl.args.toList=[]) {s1 s2:St}
  (hl1:WZ E cA ⟨yK fn (bH 0 args),dG 0 args⟩ .norm s1) (Lr:CR E s1.fr s1.bx o1=some (true,.val (.fn gf bG))) (htl:t<s1.fr.length) (hal:args.length<5000) (hgA:Nat.blt gf wN=true)
  (yg:pP 0 bG (s1.put (some t) (.fn gf bG))=some s2)
  {B:Own} {g:Gh} {w:World} {us:List Value} {R:Ending→World→Prop} (hdf:B.df=[]) (hi:Inv E B g.G w ⟨bH 0 args,dG 0 args⟩ g ⟨us.toArray,[]⟩ w)
  (hl3: ∀(B2:Own) (G0:aM) (w0:World) (g5:Gh) (a5:Act) (w1:World),Inv E B2 G0 w0 s2 g5 a5 w1→ ∀Q:Exit→Act→World→Prop,(∀e3 s3 g' a' w',DfEnd E fn gf bG args B g R e3 s3 w→Inv E B2 G0 w0 s3 g' a' w'→Q (Lm e3) a' w')→cB.wp E.P Q a5 w1):Calls E.P f us.toArray w R:=by
 refine calls_of_wp_defers hfn hb ?_;refine wp_seq (hl1 B g.G w g _ w (l9 (fn:=fn) hi) _ fun g1 a1 w1 hi1=>?_);refine wp_seq (wp_region ?_);have hlist:List.range (#[o1,o2]:Array Oper).size=[0,1]:=rfl;rw[hlist];have hdo:=jQ (ac:=a1) (B:=B) (w:=w1) (g:=g1) (o:=o1) hE rfl hi1.gok hi1.own hi1.bxs hi1.hB hi1.m1 (fun y=>dW hi1.fr hi1.mU y) Lr;obtain⟨fv,WU,hfv⟩:=hdo;obtain⟨cv,hcv0,hpc⟩:=hfv;rw[yL hgA] at hcv0;subst hcv0;have hi2:=hi1.put (some t) (v:=.fn gf bG) (u:=.func (.func gf) #[] cv.toArray) ⟨cv,(yL hgA).symm,hpc⟩;obtain⟨B',g',m1,m2,m3,m4,m5,hi2'⟩:=Mk bG 0 B _ s2 g1 cv hi2 yg hpc;unfold wpOps;simp only[List.getElem?_toArray,List.getElem?_cons_zero];have hw1: ∀y,Region.wanted o1 y=true:=fun y=>by unfold Region.wanted;rw[hg1]
 have hw2: ∀y,Region.wanted o2 y=true:=fun y=>by unfold Region.wanted;rw[hg2]
 rw[if_pos (hw1 _)];refine .inl ?_;unfold Oper.wp;rw[WU];show wpOps E.P #[o1,o2] _ [1] (a1.put o1.dst _) w1;rw[hd1];unfold wpOps;simp only[List.getElem?_toArray,List.getElem?_cons_succ,List.getElem?_cons_zero];rw[if_pos (hw2 _)];refine .inl ?_;unfold Oper.wp;have htm:(Act.put a1 (some t) (.func (.func gf) #[] cv.toArray)).eval (.tmp t)=.func (.func gf) #[] cv.toArray:=by
  have hlen:t<a1.tmps.size:=by
   have:=hi1.fr.1;rw[Array.length_toList] at this;omega
  show(a1.tmps.setIfInBounds t _).getD t undef=_;simp[Array.getD,hlen]
 have Rj:(execOp (Act.put a1 (some t) (.func (.func gf) #[] cv.toArray)).eval o2).run E.P w1=.ok (.defer {target:=.fn (.func gf) cv.toArray,args:= #[]}) w1:=by
  obtain⟨callee,jZ,cts⟩:=cl;simp only at kY lT;subst kY;obtain rfl:jZ= #[]:=by rw[←Array.toList_inj];simpa using lT
  simp only[execOp,hop2,resolve,Deferred.ofValue,htm];simp
 rw[Rj];rw[Oper.upon_defer,hd2];unfold wpOps;have hdf1:a1.defers=[]:=hi1.df.trans hdf;have hi3:=hi2'.redf [{target:=.fn (.func gf) cv.toArray,args:= #[]}];have e1:(Act.put a1 (some t) (.func (.func gf) #[] cv.toArray)).defers=[]:=hdf1;rw[e1];refine hl3 _ g.G w _ _ w1 hi3 _ fun e3 s3 g3 a3 w3 hP hi3=>?_
 obtain⟨rec,as,mb,ml,Φ,hrec,qA,CS,hbg,V4,hall⟩:=hP;have hleave: ∀u,R3 rec u→Leaves E.P fn a3.tmps R a3.defers u w3:=by
  intro u hu;have hd3:a3.defers=[{target:=.fn (.func gf) cv.toArray,args:= #[]}]:=hi3.df;rw[hd3];have hcv:PW (Jd g3) (kF 0 bG) cv:=FC bG 0 cv hpc.1 fun i v hv=>by
   obtain⟨b,q1,q2⟩:=m5 i v hv;exact⟨b,by rw[hi3.ext.2.2 _ (by omega)];exact q1,q2⟩
  have hent:=oV hi3 hcv qA CS;have hrun:u≠.run:=by
   rcases hu with⟨_,rfl⟩|⟨q,_,rfl⟩
   ·intro e;cases e
   ·intro e;cases e
  refine leaves_cons (f:=gf) (args:=cv.toArray) hrun ?_ ?_
  ·show(callFunc gf (#[]++cv.toArray)).run E.P w3=_
   rw[KO hE hbg];simp
  ·refine CallsD.mono (V4 (vX g3 w3 mb ml) (pO g3 mb ml) w3 cv rfl hent u hu) ?_
   rintro e u' w4 ⟨x0,K9,g4,v4,hΦ,⟨v',rfl⟩,hset,hx⟩;obtain⟨s4,hback,hfin⟩:=hall x0 K9 hΦ;obtain⟨g5,h5⟩:=AZ hi3 qA CS hback hx;have hkeep: ∀a b,(a,b)∈jH 0 args→B.β a=B'.β a:=fun a b hab=>by
    have h6:=R7 args 0 hab;exact(m4 a (by generalize HL=H at*;omega)).symm
   obtain⟨v,hv1,hv2⟩:=hfin {B' with df:=[{target:=.fn (.func gf) cv.toArray,args:= #[]}]} g5 a3 w4 m1.symm m2.symm hkeep h5;show Leaves E.P fn a3.tmps R [] (settle u') w4;rw[hset];exact⟨v,hv1,hv2⟩
 rcases hrec with⟨rfl,hee⟩|⟨u,rfl,hu⟩
 ·rcases hee with rfl|rfl
  ·exact hleave .returning (.inl ⟨rfl,rfl⟩)
  ·exact hleave .returning (.inl ⟨rfl,rfl⟩)
 ·show bodyPostD E.P fn R (.panic [{v:=(bR rec).getD undef,recovered:=false}]) a3 w3
  rw[hu];exact hleave _ (.inr ⟨u,hu,rfl⟩)
theorem Ml (hE:sO E) {α:Type} {call:Caller α} (ih:lu E call) (fuel:Nat):lu E (DX false E call fuel):=by
 intro f args K r h;unfold DX at h;split at h
 ·cases h
 ·rename_i fn hfn
  split at h
  ·rename_i c args' hb hargs
   have ha:=hargs;rw[yZ hargs] at h ha;clear hargs args';split at h
   ·
    obtain⟨e,s',he,hl⟩:=jb hE ih _ rfl fuel c _ _ r h;rw[Dl] at he;obtain⟨v,hK,hv⟩:=kT he;refine⟨v,hK,?_⟩;rcases hv with⟨ho,hh,hee,hret⟩|⟨x,bs,rfl,hee,hfin⟩|⟨x,bs,u,rfl,⟨y,rfl,hu⟩,hfin⟩
    ·refine .inl ⟨ho,jl ha hh fun B g w us hdf hi=>calls_of_wp hfn hb ?_⟩
     have hst:=l9 (fn:=fn) hi;rw[(mZ hh).1,(mZ hh).2] at hl;refine hl B g.G w g _ w hst _ fun g' a' w' hi'=>?_
     obtain⟨u,g2,hrun,hfo,hres⟩:=hret (B2:=B) rfl rfl hi';have qR:=hi'.df.trans hdf;rw[hdf] at hfo;rcases hee with rfl|rfl
     ·exact⟨qR,_,hrun,_,g2,rfl,hfo,hres⟩
     ·exact⟨qR,_,hrun,_,g2,rfl,hfo,hres⟩
    ·refine .inr (.inl ⟨false,x,bs,rfl,fun B g w us hdf hi=>calls_of_wp hfn hb ?_⟩)
     refine hl B g.G w g _ w (l9 (fn:=fn) hi) _ fun g' a' w' hi'=>?_
     obtain⟨u,g2,hrun,h2⟩:=hfin rfl rfl hdf (fun _ _ _=>rfl) hi';have qR:=hi'.df.trans hdf;rcases hee with rfl|rfl
     ·exact⟨qR,_,hrun,g2,_,rfl,h2⟩
     ·exact⟨qR,_,hrun,g2,_,rfl,h2⟩
    ·refine .inr (.inl ⟨true,x,bs,rfl,fun B g w us hdf hi=>calls_of_wp hfn hb ?_⟩)
     refine hl B g.G w g _ w (l9 (fn:=fn) hi) _ fun g' a' w' hi'=>?_
     obtain⟨g2,h2⟩:=hfin rfl rfl hdf (fun _ _ _=>rfl) hi';have qR:=hi'.df.trans hdf;show bodyPost E.P fn _ (.panic [{v:=(bR y).getD undef,recovered:=false}]) a' w';rw[hu];exact⟨qR,g2,_,rfl,h2⟩
   ·
    rename_i cA o1 o2 cB hsplit;obtain⟨id,rfl⟩:=Fz hsplit;split at h
    ·rename_i gf first ccaps t cl hop1 hg1 hd1 hop2 hg2 hd2
     split at h
     ·rename_i t' kY lT
      have hcond:=aC h;obtain⟨htt,h9⟩:=hcond;clear h;have htt:t=t':=by simpa using htt
      subst htt;obtain⟨e1,s1,he1,hl1⟩:=jb hE ih _ rfl fuel cA _ _ r h9
      cases e1 with
      |exit id=>cases he1
      |ret=>cases he1
      |nX v=>cases he1
      |norm=>
      simp only at he1;split at he1
      ·rename_i g' bG Lr
       obtain⟨hc1,he2⟩:=aC he1;clear he1;rw[Bool.and_eq_true,Bool.and_eq_true] at hc1;obtain⟨⟨hgg,htl⟩,hal⟩:=hc1;obtain⟨hal,hgA⟩:=Bool.and_eq_true_iff.1 hal;have hgg:g'=gf:=by simpa using hgg
       subst hgg;have htl:=jk htl;obtain⟨hal,hgA⟩:=Bool.and_eq_true_iff.1 hal;have hal:=jk hal;split at he2
       ·rename_i s2 yg
        obtain⟨e3,s3,La,hl3⟩:=jb hE ih _ rfl fuel cB _ _ r he2;have hdk: ∃rec,dfK false E call fuel fn g' (kF 0 bG) (pN args) K rec s3=some r∧((rec=.nilif∧(e3=.norm∨e3=.ret))∨ ∃u,e3=.nX rec∧bR rec=some u):=by
         cases e3 with
         |norm=>exact⟨.nilif,La,.inl ⟨rfl,.inl rfl⟩⟩
         |ret=>exact⟨.nilif,La,.inl ⟨rfl,.inr rfl⟩⟩
         |exit id=>cases La
         |nX v=>
          have La:(match bR v with|some _=>dfK false E call fuel fn g' (kF 0 bG) (pN args) K v s3|none=>none)=some r:=La;split at La
          ·rename_i u hu;exact⟨v,La,.inr ⟨u,rfl,hu⟩⟩
          ·cases La
        obtain⟨rec,hdk,hrec⟩:=hdk;unfold dfK at hdk;split at hdk
        ·rename_i as mb ml qA
         obtain⟨CS,hdk2⟩:=aC hdk;obtain⟨hbg,x0,K9,hKc,V4⟩:=Uw hE ih hdk2;simp only at hKc;split at hKc
         ·rename_i s4 hback
          rw[Dl] at hKc;obtain⟨v,hK,hv⟩:=kT hKc;refine⟨v,hK,?_⟩;rcases hv with⟨ho,hh,hee,hret⟩|⟨x,bs,rfl,hee,hfin⟩|⟨x,bs,u,rfl,⟨y,hy,hu⟩,hfin⟩
          ·refine .inl ⟨ho,jl ha hh fun B g w us hdf hi=>?_⟩
           have hi0:Inv E B g.G w ⟨bH 0 args,dG 0 args⟩ g ⟨us.toArray,[]⟩ w:=by rw[(mZ hh).1,(mZ hh).2];exact hi
           refine uk hE ih hfn hb hg1 hd1 hop2 hg2 hd2 kY lT hl1 Lr htl hal hgA yg (fuel:=fuel) (first:=first) (ccaps:=ccaps) hdf hi0 fun B2 G0 w0 g5 a5 w5 hi5 Q hq=>hl3 B2 G0 w0 g5 a5 w5 hi5 Q fun g' a' w' hi'=>hq e3 s3 g' a' w' ⟨rec,as,mb,ml,_,hrec,qA,CS,hbg,V4,fun _ _ hΦ=>⟨s4,by rw[hΦ.1,hΦ.2];exact hback,fun B4 g4 a4 w4 q1 q2 q3 hi4=>?_⟩⟩ hi'
           obtain⟨u,g2,hrun,hfo,hres⟩:=hret (B2:=B) q1 q2 hi4;rw[hdf] at hfo;rw[←q1] at hres;exact⟨_,hrun,_,g2,rfl,hfo,hres⟩
          ·refine .inr (.inl ⟨false,x,bs,rfl,fun B g w us hdf hi=>?_⟩)
           refine uk hE ih hfn hb hg1 hd1 hop2 hg2 hd2 kY lT hl1 Lr htl hal hgA yg (fuel:=fuel) (first:=first) (ccaps:=ccaps) hdf hi fun B2 G0 w0 g5 a5 w5 hi5 Q hq=>hl3 B2 G0 w0 g5 a5 w5 hi5 Q fun g' a' w' hi'=>hq e3 s3 g' a' w' ⟨rec,as,mb,ml,_,hrec,qA,CS,hbg,V4,fun _ _ hΦ=>⟨s4,by rw[hΦ.1,hΦ.2];exact hback,fun B4 g4 a4 w4 q1 q2 q3 hi4=>?_⟩⟩ hi'
           obtain⟨u,g2,hrun,h2⟩:=hfin q1 q2 hdf q3 hi4;exact⟨_,hrun,g2,_,rfl,h2⟩
          ·cases hy
         ·cases hKc
        ·cases hdk
       ·cases he2
      ·cases he1
     ·cases h
    ·cases h
  ·cases h
def oF:V→V
 | .o9 b x y=>match b with|true=>oF x|false=>oF y
 |v=>v
theorem vw {α:Type} {K:V→Option α} {r:α}: ∀v:V,CW K v=some r→K (oF v)=some r
 | .o9 b x y,h=>by
  unfold CW at h;unfold oF;rcases ko h with⟨rfl,h⟩|⟨rfl,h⟩
  ·exact vw x h
  ·exact vw y h
 | .any,h=>h
 | .bool _,h=>h
 | .int _ _,h=>h
 | .str _,h=>h
 | .agg _,h=>h
 | .tup _,h=>h
 | .nilsl,h=>h
 | .sl _ _ _ _,h=>h
 | .rptr _ _ _,h=>h
 | .box _ _,h=>h
 | .eptr _ _ _ _ _ _,h=>h
 | .fn _ _,h=>h
 | .nilif,h=>h
 | .nilp,h=>h
 | .iface _ _,h=>h
 | .bxa _ _,h=>h
 | .out _ _ _,h=>h
 | .old _,h=>h
 | .slz _ _ _ _ _ _ _ _ _ _,h=>h
 | .epz _ _ _ _ _,h=>h
 | .keep _ _,h=>h
def XH (E:Env) (f:Nat) (args:List V) (r:V):Prop:=(f<GX→af E f args r)∧(GX≤f→ ∀p x bs,oF r=.out p x bs→XC E (f-GX) args p x bs)∧(KX≤f→ ∀p x,oF r=.keep p x→KC E (f-KX) args p x)
def bq (E:Env) (S:List (Nat×aF)):Prop:=∀f sp,fM S f=some sp→ ∀args r,sp args=some (true,r)→XH E f args r
theorem bq.nil:bq E []:=fun f sp h=>by cases h
theorem bq.Xc {S:List (Nat×aF)} {f:Nat} {sp:aF} (h: ∀args r,sp args=some (true,r)→XH E f args r) (hS:bq E S):bq E ((f,sp)::S):=by
 intro g sp' hf args r hr;unfold fM at hf
 cases hg:f==g with
 |true=>
  rw[hg,cond_true] at hf;simp only[Option.some.injEq] at hf;subst hf;have:f=g:=by simpa using hg
  subst this;exact h args r hr
 |false=>
  rw[hg,cond_false] at hf;exact hS g sp' hf args r hr
theorem bq.cons {S:List (Nat×aF)} {f:Nat} {sp:aF} (h: ∀args r,sp args=some (true,r)→af E f args r) (hS:bq E S) (hf:Nat.blt f GX=true:=by rfl):bq E ((f,sp)::S):=
 bq.Xc (fun args r hr=>⟨fun _=>h args r hr,fun hg=>absurd (jk hf) (Nat.not_lt.2 hg),fun hg=>absurd (jk hf) (Nat.not_lt.2 (Nat.le_trans (show GX≤KX by decide) hg))⟩) hS
theorem bq.tF {S:List (Nat×aF)} {f:Nat} {sp:aF} (h: ∀args r,sp args=some (true,r)→ ∀p x bs,oF r=.out p x bs→XC E f args p x bs) (hS:bq E S) (hf:Nat.blt f GX=true:=by rfl):bq E ((GX+f,sp)::S):=
 bq.Xc (fun args r hr=>⟨fun hf=>absurd hf (by omega),fun _ p x bs hc=>by rw[show GX+f-GX=f by omega];exact h args r hr p x bs hc,fun hg=>absurd hg (by have:=jk hf;unfold GX KX at*;omega)⟩) hS
theorem bq.consK {S:List (Nat×aF)} {f:Nat} {sp:aF} (h: ∀args r,sp args=some (true,r)→ ∃p x,oF r=.keep p x∧KC E f args p x) (hS:bq E S):bq E ((KX+f,sp)::S):=
 bq.Xc (fun args r hr=>by
  obtain⟨p',x',h1,h2⟩:=h args r hr;refine⟨fun hf=>absurd hf (by unfold GX KX;omega),fun _ p x bs hc=>?_,fun _ p x hc=>?_⟩
  ·rw[h1] at hc;cases hc
  ·rw[h1] at hc;cases hc
   rw[show KX+f-KX=f by omega];exact h2) hS
theorem R8 {g:Gh} {x:V} {v:Value} (h:aI g x v):aI g x.wO v:=by
 cases x with
 |sl e sh o xs=>exact bI rfl (ve (o:=o) (kM h))
 |old y=>
  show aI g (bif y.dZ then y else .any) v
  cases y.dZ
  ·exact ja
  ·exact bI h.2.2 h.2.1
 |_=>exact h
theorem ul: ∀(l:List V) (j:Nat),iy l=false→bH j l=l∧dG j l=[]∧ ∀bs,eX j l bs=[]
 |[],_,_=>⟨rfl,rfl,fun _=>rfl⟩
 |x::l,j,h=>by
  unfold iy at h;rw[List.any_cons,Bool.or_eq_false_iff] at h;obtain⟨h1,h2,h3⟩:=ul l (j+1) h.2
  cases x with
  |bxa off cs=>cases h.1
  |_=>exact⟨by unfold bH;rw[h1];rfl,h2,fun bs=>h3 bs⟩
theorem FD (l:List V):iy (l.map V.wO)=iy l:=by
 unfold iy;rw[List.any_map];congr 1
 funext x
 cases x with
 |old y=>
  show(bif y.dZ then y else .any).yw=false
  cases y with
  |sl e sh o xs=>cases o<;>rfl
  |_=>rfl
 |_=>rfl
theorem xc_unl {f:Nat} {args:List V} {p:Bool} {x:V} {bs:List (List V)} (hb:iy args=false) (h:XC E f (args.map V.wO) p x bs):XC E f args p x bs:=by
 obtain⟨h1,h2,h3⟩:=ul args 0 hb;obtain⟨k1,k2,k3⟩:=ul (args.map V.wO) 0 (by rw[FD];exact hb);intro B g w vs hdf hi;rw[h1,h2] at hi;have hi':Inv E B g.G w ⟨bH 0 (args.map V.wO),dG 0 (args.map V.wO)⟩ g ⟨vs.toArray,[]⟩ w:=by
  rw[k1,k2];exact hi.less (dJ hi.fr fun y _ v hv=>R8 hv) (fun k cs hk=>hk)
 have:=h B g w vs hdf hi';rw[k3] at this;rw[h3];exact this
theorem KQ {f:Nat} {args:List V} {r:V} (h:af E f (args.map V.wO) r):af E f args r:=by
 intro G w vs hG Xb hp;refine h G w vs hG Xb (dJ hp fun y _ v hv=>?_)
 cases y with
 |sl e sh o xs=>exact ve (o:=o) hv
 |old y=>unfold aN at hv;exact hv.elim
 |_=>exact hv
theorem unl_unl (args:List V):(args.map V.wO).map V.wO=args.map V.wO:=by
 rw[List.map_map];refine List.map_congr_left fun x _=>?_
 cases x with
 |old y=>
  show(bif y.dZ then y else .any).wO=(bif y.dZ then y else .any)
  cases y with
  |sl e sh o xs=>cases o<;>rfl
  |_=>rfl
 |_=>rfl
theorem kc_unl {f:Nat} {args:List V} {p:Bool} {x:V} (hb:iy args=false) (h:KC E f (args.map V.wO) p x):KC E f args p x:=by
 obtain⟨h1,h2,h3⟩:=ul args 0 hb;obtain⟨k1,k2,k3⟩:=ul (args.map V.wO) 0 (by rw[FD];exact hb);intro B g w vs hdf hi;rw[h1,h2] at hi;have hi':Inv E B g.G w ⟨bH 0 (args.map V.wO),dG 0 (args.map V.wO)⟩ g ⟨vs.toArray,[]⟩ w:=by
  rw[k1,k2];exact hi.less (dJ hi.fr fun y _ v hv=>R8 hv) (fun k cs hk=>hk)
 exact h B g w vs hdf hi'
theorem Mm (hE:sO E) {S:List (Nat×aF)} (hS:bq E S) (fuel:Nat) {α:Type}: ∀d,lu E (bV (α:=α) E S fuel d):=by
 have caseK: ∀f sp,fM S (KX+f)=some sp→ ∀args (K:V→Option α) r,(match sp args with|some (c,r)=>sel c (CW (fun v=>match v with| .keep p x=>K (.keep p x)|_=>none) r) none|none=>none)=some r→ ∃v,K v=some r∧FOk E f args v:=by
  intro f sp hf args K r h;split at h
  ·rename_i c v hv
   rcases ko h with⟨rfl,h⟩|⟨_,h⟩
   ·have h2:=vw v h
    split at h2
    ·rename_i p x hch
     have:=(hS _ sp hf args v hv).2.2 (by omega) p x hch;rw[show KX+f-KX=f by omega] at this;exact⟨_,h2,.inr (.inr ⟨p,x,rfl,this⟩)⟩
    ·cases h2
   ·cases h
  ·cases h
 have caseX: ∀f sp,fM S (GX+f)=some sp→ ∀args (K:V→Option α) r,(match sp args with|some (c,r)=>sel c (CW (fun v=>match v with| .out p x bs=>K (.out p x bs)|_=>none) r) none|none=>none)=some r→ ∃v,K v=some r∧FOk E f args v:=by
  intro f sp hf args K r h;split at h
  ·rename_i c v hv
   rcases ko h with⟨rfl,h⟩|⟨_,h⟩
   ·have h2:=vw v h
    split at h2
    ·rename_i p x bs hch
     have:=(hS _ sp hf args v hv).2.1 (by omega) p x bs hch;rw[show GX+f-GX=f by omega] at this;exact⟨_,h2,.inr (.inl ⟨p,x,bs,rfl,this⟩)⟩
    ·cases h2
   ·cases h
  ·cases h
 have caseP: ∀f sp,fM S f=some sp→f<GX→ ∀args (K:V→Option α) r,(match sp (args.map V.wO) with|some (c,r)=>sel c (match r with| .out _ _ _=>none| .keep _ _=>none|r=>K r) none|none=>none)=some r→ ∃v,K v=some r∧FOk E f args v:=by
  intro f sp hf hlt args K r h;split at h
  ·rename_i c v hv
   rcases ko h with⟨rfl,h⟩|⟨_,h⟩
   ·have hc:=(hS _ sp hf _ v hv).1 hlt
    split at h
    ·cases h
    ·cases h
    ·rename_i hne hne2
     refine⟨v,h,.inl ⟨?_,hc⟩⟩
     cases v<;>first|rfl|exact absurd rfl (hne _ _ _)|exact absurd rfl (hne2 _ _)
   ·cases h
  ·cases h
 have one: ∀(f:Nat) (args:List V) (K:V→Option α) (r:α) (X:Option α),(X=some r→ ∃v,K v=some r∧FOk E f args v)→(match fM S (KX+f) with
  |some sp=>match sp args with|some (c,r)=>sel c (CW (fun v=>match v with| .keep p x=>K (.keep p x)|_=>none) r) none|none=>none
  |none=>match fM S (GX+f) with
  |some sp=>match sp args with|some (c,r)=>sel c (CW (fun v=>match v with| .out p x bs=>K (.out p x bs)|_=>none) r) none|none=>none
  |none=>bif Nat.blt f GX then(match fM S f with
   |some sp=>match sp (args.map V.wO) with|some (c,r)=>sel c (match r with| .out _ _ _=>none| .keep _ _=>none|r=>K r) none|none=>none
   |none=>X) else none)=some r→ ∃v,K v=some r∧FOk E f args v:=by
  intro f args K r X hX h;split at h
  ·rename_i sp hf;exact caseK f sp hf args K r h
  split at h
  ·rename_i sp hf;exact caseX f sp hf args K r h
  ·obtain⟨hlt,h⟩:=aC h
   split at h
   ·rename_i sp hf;exact caseP f sp hf (jk hlt) args K r h
   ·exact hX h
 intro d;induction d with
 |zero=>
  intro f args K r h;exact one f args K r none (fun h=>by cases h) h
 |succ d ih=>
  intro f args K r h;refine one f args K r _ (fun h=>?_) h;obtain⟨v,hK,hv⟩:=Ml hE ih fuel f _ K r h;refine⟨v,hK,?_⟩
  cases hb:iy args with
  |true=>rw[hb,cond_true] at hv;exact hv
  |false=>
   rw[hb,cond_false] at hv;rcases hv with⟨ho,hc⟩|⟨p,x,bs,rfl,hx⟩|⟨p,x,rfl,hx⟩
   ·rw[unl_unl] at hc;exact .inl ⟨ho,hc⟩
   ·exact .inr (.inl ⟨p,x,bs,rfl,xc_unl hb hx⟩)
   ·exact .inr (.inr ⟨p,x,rfl,kc_unl hb hx⟩)
theorem XI (hE:sO E) {call:Caller V} (ih:lu E call) (fuel:Nat) {f:Nat} {args:List V} {r:V} (h:cr E call fuel f args some=some r):FOk E f args r:=by
 have low:DX false E call fuel f args some=some r→FOk E f args r:=fun h=>by
  obtain⟨v,hK,hv⟩:=Ml hE ih fuel f args some r h;simp only[Option.some.injEq] at hK;subst hK;exact hv
 unfold cr at h;by_cases hh:handed args=false;rotate_left
 ·have hh:handed args=true:=by simpa using hh
  refine low ?_;unfold DX at h⊢
  cases hfn:E.P.funcs[f]? with
  |none=>rw[hfn] at h;cases h
  |some fn=>
   rw[hfn] at h;simp only at h⊢
   cases hargs:yx args with
   |none=>rw[hargs] at h;split at h<;>rename_i hq<;>first|cases hq|cases h
   |some args'=>
    have hh2:handed args'=true:=by rw[yZ hargs];exact hh
    cases hb:fn.body with
    |none=>rw[hb] at h;cases h
    |some c=>
     simp only[hb,hargs,hh2] at h⊢;exact h
 ·unfold DX at h
  split at h
  ·cases h
  ·rename_i fn hfn
   split at h
   ·rename_i c args' hb hargs
    have ha:=hargs;rw[yZ hargs] at h ha;split at h
    ·rename_i hsp
     have fin: ∀(B:Own) (g:Gh) (w:World) (us:List Value),Inv E B g.G w ⟨bH 0 args,dG 0 args⟩ g ⟨us.toArray,[]⟩ w→ ∀Q:Exit→Act→World→Prop,(∀e s' g' a' w',Gb E.P fn args some e s'=some r→Inv E B g.G w s' g' a' w'→Q (Lm e) a' w')→c.wp E.P Q (Act.mk (us.toArray++Array.replicate (fn.ntmps-us.toArray.size) undef) []) w:=by
      intro B g w us hi Q hq;refine oD hE ih _ fuel c _ _ r h g _ w (l9 (fn:=fn) hi) Q fun e s' g' a' w' he hi'=>?_
      rw[Dl] at he;exact hq e s' g' a' w' he hi'
     cases ho:tC r with
     |false=>
      refine .inl ⟨ho,jl ha hh fun B g w us hdf hi=>calls_of_wp hfn hb ?_⟩;refine fin B g w us (by rw[(mZ hh).1,(mZ hh).2];exact hi) _ fun e s' g' a' w' he hi'=>?_
      obtain⟨v,hK,hv⟩:=kT he;simp only[Option.some.injEq] at hK;subst hK;rcases hv with⟨_,_,hee,hret⟩|⟨x,bs,rfl,_,_⟩|⟨x,bs,u,rfl,_,_⟩
      ·obtain⟨u,g2,hrun,hfo,hres⟩:=hret (B2:=B) rfl rfl hi'
       have qR:=hi'.df.trans hdf;rw[hdf] at hfo;rcases hee with rfl|rfl
       ·exact⟨qR,_,hrun,_,g2,rfl,hfo,hres⟩
       ·exact⟨qR,_,hrun,_,g2,rfl,hfo,hres⟩
      ·cases ho
      ·cases ho
     |true=>
      cases r with
      |out p x0 K9=>
       refine .inr (.inl ⟨p,x0,K9,rfl,fun B g w us hdf hi=>calls_of_wp hfn hb ?_⟩);refine fin B g w us hi _ fun e s' g' a' w' he hi'=>?_
       obtain⟨v,hK,hv⟩:=kT he;simp only[Option.some.injEq] at hK;subst hK;rcases hv with⟨ho,_⟩|⟨x,bs,hx,hee,hfin⟩|⟨x,bs,u,hx,⟨y,rfl,hu⟩,hfin⟩
       ·cases ho
       ·cases hx
        obtain⟨u,g2,hrun,h2⟩:=hfin rfl rfl hdf (fun _ _ _=>rfl) hi';have qR:=hi'.df.trans hdf;rcases hee with rfl|rfl
        ·exact⟨qR,_,hrun,g2,_,rfl,h2⟩
        ·exact⟨qR,_,hrun,g2,_,rfl,h2⟩
       ·cases hx
        obtain⟨g2,h2⟩:=hfin rfl rfl hdf (fun _ _ _=>rfl) hi';have qR:=hi'.df.trans hdf;show bodyPost E.P fn _ (.panic [{v:=(bR y).getD undef,recovered:=false}]) a' w';rw[hu];exact⟨qR,g2,_,rfl,h2⟩
      |keep p0 x0=>exact .inr (.inr ⟨p0,x0,rfl,fun B g w us hdf hi=>calls_of_wp hfn hb (fin B g w us hi _ fun e s' g' a' w' he hi'=>by
        obtain⟨v,hK,hv⟩:=kT he;simp only[Option.some.injEq] at hK;subst hK;rcases hv with⟨ho,_⟩|⟨x,bs,hx,_⟩|⟨x,bs,u,hx,_⟩
        ·cases ho
        ·cases hx
        ·cases hx)⟩)
      |_=>cases ho
    ·
     rename_i cA o1 o2 cB hsplit;obtain⟨id,rfl⟩:=Fz hsplit;split at h
     ·rename_i gf first ccaps t cl hop1 hg1 hd1 hop2 hg2 hd2
      split at h
      ·rename_i t' kY lT
       obtain⟨htt,h9⟩:=aC h;clear h;have htt:t=t':=by simpa using htt
       subst htt;obtain⟨e1,s1,he1,hl1⟩:=jb hE ih _ rfl fuel cA _ _ r h9
       cases e1 with
       |exit id=>cases he1
       |ret=>cases he1
       |nX v=>cases he1
       |norm=>
       simp only at he1;split at he1
       ·rename_i g' bG Lr
        obtain⟨hc1,he2⟩:=aC he1;clear he1;rw[Bool.and_eq_true,Bool.and_eq_true] at hc1;obtain⟨⟨hgg,htl⟩,hal⟩:=hc1;obtain⟨hal,hgA⟩:=Bool.and_eq_true_iff.1 hal;have hgg:g'=gf:=by simpa using hgg
        subst hgg;have htl:=jk htl;obtain⟨hal,hgA⟩:=Bool.and_eq_true_iff.1 hal;have hal:=jk hal;split at he2
        ·rename_i s2 yg
         have ends: ∀e3 s3,dfEx (true&& !handed args) E call fuel fn g' (kF 0 bG) (pN args) some e3 s3=some r→ ∃(rec:V) (as:List V) (mb ml:List (Nat×Nat)) (Φ:V→List (List V)→Prop),
           ((rec=.nilif∧(e3=.norm∨e3=.ret))∨ ∃u,e3=.nX rec∧bR rec=some u)∧om s3.bx 0 (kF 0 bG)=some (as,mb,ml)∧oh mb ml=true∧jI E.P g'=true∧DC E g' as rec Φ∧ ∀x0 K9,Φ x0 K9→ ∃s4,ou s3 none mb ml x0 K9=some s4∧Gb E.P fn args some .ret s4=some r:=by
          intro e3 s3 La;have hdk: ∃rec,dfK (true&& !handed args) E call fuel fn g' (kF 0 bG) (pN args) some rec s3=some r∧((rec=.nilif∧(e3=.norm∨e3=.ret))∨ ∃u,e3=.nX rec∧bR rec=some u):=by
           cases e3 with
           |norm=>exact⟨.nilif,La,.inl ⟨rfl,.inl rfl⟩⟩
           |ret=>exact⟨.nilif,La,.inl ⟨rfl,.inr rfl⟩⟩
           |exit id=>cases La
           |nX v=>
            have La:(match bR v with|some _=>dfK (true&& !handed args) E call fuel fn g' (kF 0 bG) (pN args) some v s3|none=>none)=some r:=La;split at La
            ·rename_i u hu;exact⟨v,La,.inr ⟨u,rfl,hu⟩⟩
            ·cases La
          obtain⟨rec,hdk,hrec⟩:=hdk;unfold dfK at hdk;split at hdk
          ·rename_i as mb ml qA
           obtain⟨CS,hdk2⟩:=aC hdk;obtain⟨hbg,V4⟩:=clo_cps hE ih hdk2;refine⟨rec,as,mb,ml,_,hrec,qA,CS,hbg,V4,fun x0 K9 hKc=>?_⟩;simp only at hKc;split at hKc
           ·rename_i s4 hback
            rw[Dl] at hKc;exact⟨s4,hback,hKc⟩
           ·cases hKc
          ·cases hdk
         cases ho:tC r with
         |false=>
          refine .inl ⟨ho,jl ha hh fun B g w us hdf hi=>?_⟩;have hi0:Inv E B g.G w ⟨bH 0 args,dG 0 args⟩ g ⟨us.toArray,[]⟩ w:=by rw[(mZ hh).1,(mZ hh).2];exact hi
          refine uk hE ih hfn hb hg1 hd1 hop2 hg2 hd2 kY lT hl1 Lr htl hal hgA yg (fuel:=fuel) (first:=first) (ccaps:=ccaps) hdf hi0 fun B2 G0 w0 g5 a5 w5 hi5 Q hq=>oD hE ih _ fuel cB s2 _ r he2 g5 a5 w5 hi5 Q fun e3 s3 g6 a6 w6 hek hi6=>?_
          obtain⟨rec,as,mb,ml,Φ,hrec,qA,CS,hbg,V4,hall⟩:=ends e3 s3 hek;refine hq e3 s3 g6 a6 w6 ⟨rec,as,mb,ml,Φ,hrec,qA,CS,hbg,V4,fun x0 K9 hΦ=>(hall x0 K9 hΦ).imp fun s4 hs=>⟨hs.1,fun B4 g4 a4 w4 q1 q2 q3 hi4=>?_⟩⟩ hi6;have hKc:=hs.2;obtain⟨v,hK,hv⟩:=kT hKc;simp only[Option.some.injEq] at hK;subst hK;rcases hv with⟨_,_,hee,hret⟩|⟨x,bs,rfl,_,_⟩|⟨x,bs,u,rfl,_,_⟩
          ·obtain⟨u,g2,hrun,hfo,hres⟩:=hret (B2:=B) q1 q2 hi4
           rw[hdf] at hfo;rw[←q1] at hres;exact⟨_,hrun,_,g2,rfl,hfo,hres⟩
          ·cases ho
          ·cases ho
         |true=>
          cases r with
          |out p x0' bs0'=>
           refine .inr (.inl ⟨p,x0',bs0',rfl,fun B g w us hdf hi=>?_⟩);refine uk hE ih hfn hb hg1 hd1 hop2 hg2 hd2 kY lT hl1 Lr htl hal hgA yg (fuel:=fuel) (first:=first) (ccaps:=ccaps) hdf hi fun B2 G0 w0 g5 a5 w5 hi5 Q hq=>oD hE ih _ fuel cB s2 _ _ he2 g5 a5 w5 hi5 Q fun e3 s3 g6 a6 w6 hek hi6=>?_
           obtain⟨rec,as,mb,ml,Φ,hrec,qA,CS,hbg,V4,hall⟩:=ends e3 s3 hek;refine hq e3 s3 g6 a6 w6 ⟨rec,as,mb,ml,Φ,hrec,qA,CS,hbg,V4,fun x0 K9 hΦ=>(hall x0 K9 hΦ).imp fun s4 hs=>⟨hs.1,fun B4 g4 a4 w4 q1 q2 q3 hi4=>?_⟩⟩ hi6;have hKc:=hs.2;obtain⟨v,hK,hv⟩:=kT hKc;simp only[Option.some.injEq] at hK;subst hK;rcases hv with⟨ho,_⟩|⟨x,bs,hx,hee,hfin⟩|⟨x,bs,u,hx,⟨y,hy,hu⟩,hfin⟩
           ·cases ho
           ·cases hx
            obtain⟨u,g2,hrun,h2⟩:=hfin q1 q2 hdf q3 hi4;exact⟨_,hrun,g2,_,rfl,h2⟩
           ·cases hy
          |keep p0 x0'=>exact .inr (.inr ⟨p0,x0',rfl,fun B g w us hdf hi=>by
            refine uk hE ih hfn hb hg1 hd1 hop2 hg2 hd2 kY lT hl1 Lr htl hal hgA yg (fuel:=fuel) (first:=first) (ccaps:=ccaps) hdf hi fun B2 G0 w0 g5 a5 w5 hi5 Q hq=>oD hE ih _ fuel cB s2 _ _ he2 g5 a5 w5 hi5 Q fun e3 s3 g6 a6 w6 hek hi6=>?_
            obtain⟨rec,as,mb,ml,Φ,hrec,qA,CS,hbg,V4,hall⟩:=ends e3 s3 hek;refine hq e3 s3 g6 a6 w6 ⟨rec,as,mb,ml,Φ,hrec,qA,CS,hbg,V4,fun x0 K9 hΦ=>?_⟩ hi6;obtain⟨s4,hback,hKc⟩:=hall x0 K9 hΦ;obtain⟨v,hK,hv⟩:=kT hKc;simp only[Option.some.injEq] at hK;subst hK;exfalso;rcases hv with⟨ho,_⟩|⟨x,bs,hx,_⟩|⟨x,bs,u,hx,_⟩
            ·cases ho
            ·cases hx
            ·cases hx⟩)
          |_=>cases ho
        ·cases he2
       ·cases he1
      ·cases h
     ·cases h
   ·cases h
theorem ah (hE:sO E) {S:List (Nat×aF)} (hS:bq E S) (fuel d:Nat) {f:Nat} {args:List V} {r:V} (h:cr E (bV E S fuel d) fuel f args some=some r) (hr:tC r=false:=by rfl):af E f args r:=by
 have hc:=XI hE (Mm hE hS fuel (α:=V) d) fuel h;rcases hc with⟨_,hc⟩|⟨p,x,bs,rfl,_⟩|⟨p,x,rfl,_⟩
 ·exact KQ hc
 ·cases hr
 ·cases hr
theorem mq (hE:sO E) {S:List (Nat×aF)} (hS:bq E S) (fuel d:Nat) {f:Nat} {args:List V} {p:Bool} {x:V} {bs:List (List V)} (h:cr E (bV E S fuel d) fuel f args some=some (.out p x bs)):XC E f args p x bs:=by
 have hc:=XI hE (Mm hE hS fuel (α:=V) d) fuel h;rcases hc with⟨ho,_⟩|⟨p',x',bs',he,hx⟩|⟨p',x',he,_⟩
 ·cases ho
 ·cases he;exact hx
 ·cases he
end
theorem bJ {α:Type} (c:Bool) (a b:α):sel c a b=if c=true then a else b:=by cases c<;>rfl
theorem ay {α:Type} {c:Bool} {a b:α} (h:c=true):sel c a b=a:=by subst h;rfl
theorem aU {α:Type} {c:Bool} {a b:α} (h:c=false):sel c a b=b:=by subst h;rfl
theorem bf (a b:Int):(aT a b=true)=(a<b):=by unfold aT;simp
theorem aA (a b:Int):(ai a b=true)=(a≤b):=by unfold ai;simp
theorem aK (a b:Int):(ieq a b=true)=(a=b):=by unfold ieq;simp
theorem Dn (a b:Nat):(nle a b=true)=(a≤b):=by unfold nle;simp
theorem aH (a b:Bool):(ak a b=true)=(a=true∧b=true):=by cases a<;>cases b<;>simp[ak]
theorem bP (a:Bool):(aG a=true)= ¬(a=true):=by cases a<;>simp[aG]
theorem dI (a b:List UInt8):(seq a b=true)=(a=b):=by unfold seq;simp
theorem iG (a b:List UInt8):(kS a b=true)=(a.length+b.length≤1152921504606846976):=by unfold kS;rw[Dn]
theorem Ba (a:List UInt8):(GN a=true)=(a.length≤1152921504606846976):=by unfold GN;rw[Dn]
theorem kU (a b:List V):(fI a b=true)=(a.length+b.length≤16777216):=by unfold fI;rw[Dn]
theorem bD {a b:Int} (h:a<b):aT a b=true:=by rw[bf];exact h
theorem bB {a b:Int} (h:b≤a):aT a b=false:=by unfold aT;simp;omega
theorem bF {a b:Int} (h:a≤b):ai a b=true:=by rw[aA];exact h
theorem vY {a b:Int} (h:b<a):ai a b=false:=by unfold ai;simp;omega
theorem bn {a b:Int} (h:a=b):ieq a b=true:=by rw[aK];exact h
theorem cO {a b:Int} (h:a≠b):ieq a b=false:=by unfold ieq;simpa using h
theorem iO {a b:Int} (h: -9223372036854775808≤a+b∧a+b≤9223372036854775807):fB .i64 a b=a+b:=IntWalk.i64_in _ h
theorem qY {a b:Int} (h: -9223372036854775808≤a-b∧a-b≤9223372036854775807):iX .i64 a b=a-b:=IntWalk.i64_in _ h
theorem Pw {a b:Int} (h: -9223372036854775808≤a*b∧a*b≤9223372036854775807):DK .i64 a b=a*b:=IntWalk.i64_in _ h
theorem iaddu64 {a b:Int} (h:0≤a+b∧a+b≤18446744073709551615):fB .u64 a b=a+b:=IntWalk.u64_in _ h
theorem imulu64 {a b:Int} (h:0≤a*b∧a*b≤18446744073709551615):DK .u64 a b=a*b:=IntWalk.u64_in _ h
theorem icnvu64 {a:Int} (h:0≤a∧a≤18446744073709551615):pq .u64 a=a:=IntWalk.u64_in _ h
theorem icnv64 {a:Int} (h: -9223372036854775808≤a∧a≤9223372036854775807):pq .i64 a=a:=IntWalk.i64_in _ h
theorem icnvu8 {a:Int} (h:0≤a∧a≤255):pq .u8 a=a:=IntWalk.u8_in _ h
theorem isubu8 {a b:Int} (h:0≤a-b∧a-b≤255):iX .u8 a b=a-b:=IntWalk.u8_in _ h
theorem Mq {k:IntKind} {a b:Int} (ha:0≤a) (hw:k.wrap (a/b)=a/b):qQ k a b=a/b:=by
 unfold qQ;rw[Int.tdiv_eq_ediv_of_nonneg ha];exact hw
theorem div_le_self {a b:Int} (ha:0≤a) (hb:0<b):0≤a/b∧a/b≤a:=⟨Int.ediv_nonneg ha (by omega),Int.ediv_le_self b ha⟩
theorem JB {a b:Int} (ha:0≤a) (hb:0<b) (h:a≤9223372036854775807):qQ .i64 a b=a/b:=
 Mq ha (IntWalk.i64_in _ (by have:=div_le_self ha hb;omega))
theorem JZ {a b:Int} (ha:0≤a) (hb:0<b) (h:a≤18446744073709551615):qQ .u64 a b=a/b:=
 Mq ha (IntWalk.u64_in _ (by have:=div_le_self ha hb;omega))
theorem um {a b:Int} (ha:0≤a):wP a b=a%b:=Int.tmod_eq_emod_of_nonneg ha
theorem aB (l:List UInt8):aj l=(l.length:Int):=rfl
theorem aD (l:List V):av l=(l.length:Int):=rfl
theorem sat_nat (l:List UInt8) (i:Nat):sat l (i:Int)=((l.getD i 0).toNat:Int):=rfl
theorem EL (l:List UInt8) (a b:Nat):dF l (a:Int) (b:Int)=(l.drop a).take (b-a):=rfl
theorem ku (l:List V) (i:Nat):aP l (i:Int)=l.getD i .any:=rfl
theorem af.env {E E':Env} {f:Nat} {args:List V} {r:V} (hP:E.P=E'.P) (h: ∀n v,E.glob n=some v→E'.glob n=some v) (c:af E f args r):af E' f args r:=by
 intro G w vs hG hg hp;have:=c G w vs hG (fun n v hv=>hg n v (h n v hv)) hp;rw[hP] at this;exact this
def rP (E:Env) (f:Nat) (args:List V) (r:V):Prop:=∀p x bs,oF r=.out p x bs→XC E f args p x bs
theorem rP.out {E:Env} {f:Nat} {args:List V} {p:Bool} {x:V} {bs:List (List V)} (h:XC E f args p x bs):rP E f args (.out p x bs):=by
 intro p' x' bs' hc
 cases hc;exact h
theorem rP.o9 {E:Env} {f:Nat} {args:List V} {c:Bool} {a b:V} (h1:c=true→rP E f args a) (h2:c=false→rP E f args b):rP E f args (.o9 c a b):=by
 intro p x bs hc
 cases c with
 |true=>exact h1 rfl p x bs hc
 |false=>exact h2 rfl p x bs hc
theorem Inv.env {E E':Env} {B:Own} {G0:aM} {w0:World} {s:St} {g:Gh} {a:Act} {w:World} (hP:E.P=E'.P) (hg:lS E' G0) (h:Inv E B G0 w0 s g a w):Inv E' B G0 w0 s g a w:=
 ⟨h.fr,h.df,h.gok,h.own,hP▸h.bxs,h.kX,h.hB,h.ext,⟨hg,h.glob.2⟩,h.g1,h.zb⟩
theorem XC.env {E E':Env} {f:Nat} {args:List V} {p:Bool} {x:V} {bs:List (List V)} (hP:E.P=E'.P) (h: ∀n v,E.glob n=some v→E'.glob n=some v) (c:XC E f args p x bs):XC E' f args p x bs:=by
 intro B g w vs hdf hi;have hg:=hi.glob.1;have:=c B g w vs hdf (hi.env hP.symm fun n v hv=>hg n v (h n v hv));rw[hP] at this;refine Calls.mono this ?_;rintro e w' ⟨g',v,he,hx⟩;exact⟨g',v,he,hx.env hP hg⟩
theorem rP.env {E E':Env} {f:Nat} {args:List V} {r:V} (hP:E.P=E'.P) (h: ∀n v,E.glob n=some v→E'.glob n=some v) (c:rP E f args r):rP E' f args r:=fun p x bs hc=>(c p x bs hc).env hP h
def qB (w:World):aM:=fun b=>match w.heap[b]? with|some (.cells c _ _)=>some c.toList|_=>none
theorem YU (w:World):vO (qB w) w:=by
 intro b l h;unfold qB at h;split at h
 ·rename_i c e fr hc
  simp only[Option.some.injEq] at h;subst h;exact⟨c,e,fr,hc,List.take_length⟩
 ·cases h
def G6 {H:Type} (P:Program):Nat→TypeId→DataW H→Nat→Option V
 |0,_,_,_=>none
 |f+1,t,d,i=>
  match P.underlying t,d with
  |some (.int k),.lit (.int _ n)=>(match i with|0=>some (.int k n)|_=>none)
  |some .bool,.lit (.bool b)=>(match i with|0=>some (.bool b)|_=>none)
  |some .string,.lit (.string l)=>(match i with|0=>some (.str l)|_=>none)
  |some (.struct fs),.agg ds=>(List.range ds.length).findSome? fun j=>
   match fs[j]?,ds[j]? with
   |some fd,some x=>(match Nat.ble fd.offset i&&Nat.blt i (fd.offset+P.cellsOf fd.type) with|true=>G6 P f fd.type x (i-fd.offset)|false=>none)
   |_,_=>none
  |some (.array n e),.agg ds=>(match ds[i/P.cellsOf e]? with|some x=>G6 P f e x (i%P.cellsOf e)|none=>none)
  |_,_=>none
variable {H:Type} {enc:TypeId×Value→H} {P:Program} {w:World} {base:Nat} {spare:Nat→Bool} {held:Bool}
theorem Bb (G:aM): ∀(f:Nat) (t:TypeId) (d:DataW H) (i:Nat) (v:V),G6 P f t d i=some v→ ∀(fuel:Nat) (cs:List Value) (p:List MemPlace),DataW.trod enc P w base spare held fuel t cs=some (d,p)→
  ∃u,cs[i]? =some u∧aN G v u
 |0,_,_,_,_,h,_,_,_,_=>by simp[G6] at h
 |f+1,t,d,i,v,h,fuel,cs,p,hd=>by
  unfold G6 at h;split at h
  ·rename_i k k' n hu
   obtain⟨m,rfl,e,_⟩:=DataW.trod_int hu hd;simp only[Prod.mk.injEq,DataW.lit.injEq,Lit.int.injEq] at e;obtain⟨⟨rfl,rfl⟩,_⟩:=e;split at h
   ·simp only[Option.some.injEq] at h
    subst h;exact⟨_,rfl,by unfold aN;rfl⟩
   ·cases h
  ·rename_i b hu
   obtain⟨m,rfl,e⟩:=DataW.trod_bool hu hd;simp only[Prod.mk.injEq,DataW.lit.injEq,Lit.bool.injEq] at e;obtain⟨rfl,_⟩:=e;split at h
   ·simp only[Option.some.injEq] at h
    subst h;exact⟨_,rfl,by unfold aN;rfl⟩
   ·cases h
  ·rename_i l hu
   obtain⟨s,rfl,e,_⟩:=DataW.trod_string hu hd;simp only[Prod.mk.injEq,DataW.lit.injEq,Lit.string.injEq] at e;obtain⟨rfl,_⟩:=e;split at h
   ·simp only[Option.some.injEq] at h
    subst h;exact⟨_,rfl,by unfold aN;cases s;simp⟩
   ·cases h
  ·rename_i fs ds hu
   obtain⟨xs,m,_,e,hlen,hn,hel⟩:=DataW.trod_struct hu hd;simp only[Prod.mk.injEq,DataW.agg.injEq] at e;obtain⟨j,_,hj⟩:=List.exists_of_findSome?_eq_some h;split at hj
   ·rename_i fd x hfd hx
    split at hj
    ·rename_i hb
     rw[Bool.and_eq_true] at hb;have h1:=Nat.le_of_ble_eq_true hb.1;have h2:i<fd.offset+P.cellsOf fd.type:=by have:=hb.2;rwa [Nat.blt_eq] at this
     rw[e.1,List.getElem?_map] at hx;obtain⟨y,hy,hy1⟩:=Option.map_eq_some_iff.1 hx;have:=hel j fd hfd;rw[hy] at this;obtain⟨u,hu',hr⟩:=Bb G f fd.type x _ v hj m _ y.2 (by rw[this,←hy1]);refine⟨u,?_,hr⟩;rw[List.getElem?_take_of_lt (by omega),List.getElem?_drop,show fd.offset+(i-fd.offset)=i by omega] at hu';exact hu'
    ·cases hj
   ·cases hj
  ·rename_i n e ds hu
   obtain⟨xs,m,_,ex,hlen,hn,hel⟩:=DataW.trod_array hu hd;simp only[Prod.mk.injEq,DataW.agg.injEq] at ex;split at h
   ·rename_i x hx
    rw[ex.1,List.getElem?_map] at hx;obtain⟨y,hy,hy1⟩:=Option.map_eq_some_iff.1 hx;have hlt:i/P.cellsOf e<n:=by rw[←hn];exact(List.getElem?_eq_some_iff.1 hy).1
    have:=hel _ hlt;rw[hy] at this;obtain⟨u,hu',hr⟩:=Bb G f e x _ v h m _ y.2 (by rw[this,←hy1]);refine⟨u,?_,hr⟩;by_cases h0:P.cellsOf e=0
    ·rw[h0,List.take_zero] at hu'
     cases hu'
    ·rw[List.getElem?_take_of_lt (Nat.mod_lt _ (by omega)),List.getElem?_drop,Nat.mul_comm,Nat.div_add_mod] at hu'
     exact hu'
   ·cases h
  ·cases h
theorem Mr {α β:Type} {f:α→Option β}: ∀{l:List α} {ys:List β},l.mapM f=some ys→ys.length=l.length∧ ∀(i:Nat) a y,l[i]? =some a→ys[i]? =some y→f a=some y
 |[],ys,h=>by simp at h;subst h;exact⟨rfl,by simp⟩
 |a::l,ys,h=>by
  rw[List.mapM_cons] at h
  cases ha:f a with
  |none=>rw[ha] at h;cases h
  |some y=>
   rw[ha] at h
   cases hl:l.mapM f with
   |none=>rw[hl] at h;cases h
   |some zs=>
    rw[hl] at h;simp at h;subst h;obtain⟨h1,h2⟩:=Mr hl;refine⟨by simp[h1],fun i a' y' h3 h4=>?_⟩
    cases i with
    |zero=>simp at h3 h4;subst h3;subst h4;exact ha
    |succ i=>exact h2 i a' y' (by simpa using h3) (by simpa using h4)
theorem kV {name:String} {g:Nat} {cs:Array Value} {t:TypeId} {fuel f:Nat} {d:DataW H} {p:List MemPlace} {sh:List Kd} {xs:List V} (hg:P.globalNamed name=some g) (hv:w.var? P name=some cs)
  (hd:DataW.trod enc P w base spare held fuel t cs.toList=some (d,p)) (hx:(List.range sh.length).mapM (G6 P f t d)=some xs) (hf:gH sh (.agg xs)=true):
  aN (qB w) (.rptr sh (.agg xs) 0) (.pointer (some ⟨g,0,none⟩)):=by
 obtain⟨h1,h2⟩:=Mr hx;rw[List.length_range] at h1;have hcell: ∀(i:Nat) (x:V),xs[i]? =some x→ ∃u,cs.toList[i]? =some u∧aN (qB w) x u:=by
  intro i x hxi;have hi:i<sh.length:=by rw[←h1];exact(List.getElem?_eq_some_iff.1 hxi).1
  exact Bb (qB w) f t d i x (h2 i i x (by rw[List.getElem?_range hi]) hxi) fuel _ p hd
 have hsz:xs.length≤cs.toList.length:=by
  rcases Nat.lt_or_ge cs.toList.length xs.length with hlt|hge
  ·obtain⟨u,hu,_⟩:=hcell cs.toList.length xs[cs.toList.length] (List.getElem?_eq_getElem hlt)
   rw[List.getElem?_eq_none (Nat.le_refl _)] at hu
   cases hu
  ·exact hge
 unfold aN;refine⟨g,0,cs.toList,rfl,?_,hf,.agg (cs.toList.take sh.length).toArray,?_,?_⟩
 ·simp only[World.var?,hg,Option.bind_some] at hv
  split at hv
  ·rename_i c e fr hc
   simp only[Option.some.injEq] at hv;subst hv;unfold qB;rw[hc]
  ·cases hv
 ·unfold aN
  refine⟨_,rfl,?_⟩;rw[eP];refine⟨by rw[List.length_take];omega,fun i x u hxi hui=>?_⟩;obtain⟨u',hu',hr⟩:=hcell i x hxi;have hi:i<sh.length:=by rw[←h1];exact(List.getElem?_eq_some_iff.1 hxi).1
  rw[List.getElem?_take_of_lt hi,hu'] at hui;simp only[Option.some.injEq] at hui;rw[←hui];exact hr
 ·simp[Value.cells]
theorem Iw {g:Nat} {k:IntKind} {m:Int} (h:w.cell? ⟨g,0,none⟩=some (.int k m)):aN (qB w) (.rptr [.int k] (.int k m) 0) (.pointer (some ⟨g,0,none⟩)):=by
 simp only[World.cell?] at h;split at h
 ·rename_i c e fr hc
  unfold aN;refine⟨g,0,c.toList,rfl,by unfold qB;rw[hc],by simp[gH,V.cells,fJ,fits,ak],.int k m,by unfold aN;rfl,?_⟩;have h0:c.toList[0]? =some (.int k m):=by simpa using h
  cases hc:c.toList with
  |nil=>rw[hc] at h0;cases h0
  |cons a t=>rw[hc] at h0;simp at h0;subst h0;rfl
 ·cases h
theorem zL {E:Env} {f:Nat} {args:List V} {vs:List Value} (c:af E f args (.bool true)) (hg:lS E (qB w)) (hp:PW (aN (qB w)) args vs):
  Calls E.P f vs.toArray w fun e w'=>e=.returned (.bool true)∧Below w.heap.size w w':=by
 refine(c (qB w) w vs (YU w) hg hp).mono ?_;rintro e w' ⟨v,G',rfl,hN,hr⟩;have:v=.bool true:=hr;rw[this];exact⟨rfl,hN.1⟩
end Nt.Ev
