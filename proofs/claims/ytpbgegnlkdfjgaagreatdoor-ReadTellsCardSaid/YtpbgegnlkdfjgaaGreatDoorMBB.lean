/-
  The evaluator is right: functions; those that are handed boxes and labelled slices, that raise, that defer a closure which takes back. The evaluator is right: bodies of functions, contracts. Small laws on the evaluator's primitives: how printed equations are read. From the evaluator's contracts to the rows: what is known of a world where a statement begins.
-/
import Derived.Test.YtpbgegnlkdfjgaaGreatDoorMBS
import Derived.Recover
import Derived.IntWalk
import Derived.ChangeArms
import Derived.OpenShut
import Derived.FnData
set_option linter.unusedVariables false
set_option linter.unusedSimpArgs false
set_option linter.unusedSectionVars false
namespace Nt.Ev
open Go Go.RowKit
section
variable {E:Env}
theorem argV_eq {x y:V} (h:Vz x=some y):y=x:=by
 cases x with
 |fn f c=>cases c<;>(simp[Vz,V.deep] at h;exact h.symm)
 |bxa off cs=>simp only[Vz,Option.some.injEq] at h;exact h.symm
 |sl e sh o xs=>simp only[Vz,Option.some.injEq] at h;exact h.symm
 |old z=>
  have h:(bif z.fA then some (V.old z) else none)=some y:=h;obtain⟨_,h⟩:=aF h;simp only[Option.some.injEq] at h;exact h.symm
 |_=>simp[Vz,V.deep] at h<;>exact h.symm
theorem BJ: ∀{xs ys:List V},Bb xs=some ys→ys=xs
 |[],ys,h=>by simp only[Bb,Option.some.injEq] at h;exact h.symm
 |x::xs,ys,h=>by
  unfold Bb at h;split at h
  ·rename_i a b ha hb
   simp only[Option.some.injEq] at h;rw[←h,argV_eq ha,BJ hb]
  ·cases h
theorem Ni (args:List V):handed (rV args)=handed args:=by
 unfold rV
 cases h:handed args with
 |false=>rfl
 |true=>
  rw[cond_true];unfold handed at h⊢;rw[List.any_eq_true] at h⊢;obtain⟨x,hx,hh⟩:=h
  cases x with
  |bxa off cs=>exact⟨_,List.mem_map.2 ⟨_,hx,rfl⟩,rfl⟩
  |sl e sh o xs=>cases o with
   |none=>cases hh
   |some L=>exact⟨_,List.mem_map.2 ⟨_,hx,rfl⟩,rfl⟩
  |_=>cases hh
theorem Iw (s:St): ∀(args:List V) (j:Nat),(∀x∈args,x.Ba=false)→o7 s j args=some []∧jN j args=[]
 |[],j,_=>⟨rfl,rfl⟩
 |x::args,j,h=>by
  have ih:=Iw s args (j+1) fun y hy=>h y (List.mem_cons_of_mem _ hy)
  have hx:=h x List.mem_cons_self
  cases x<;>first|exact ih|cases hx
theorem KM (s:St) (f:V→V) (hf: ∀x,(f x).Ba=x.Ba): ∀(args:List V) (j:Nat),o7 s j (args.map f)=o7 s j args∧jN j (args.map f)=jN j args
 |[],j=>⟨rfl,rfl⟩
 |x::args,j=>by
  have ih:=KM s f hf args (j+1);have hx:=hf x;rw[List.map_cons];have other: ∀y:V,y.Ba=false→o7 s j (y::args)=o7 s (j+1) args∧jN j (y::args)=jN (j+1) args:=fun y hy=>by cases y<;>first|exact⟨rfl,rfl⟩|cases hy
  have ZH: ∀y:V,y.Ba=false→o7 s j (y::args.map f)=o7 s (j+1) (args.map f)∧jN j (y::args.map f)=jN (j+1) (args.map f):=fun y hy=>by cases y<;>first|exact⟨rfl,rfl⟩|cases hy
  cases hb:x.Ba with
  |false=>
   rw[hb] at hx;rw[(other x hb).1,(other x hb).2,(ZH _ hx).1,(ZH _ hx).2];exact ih
  |true=>
   rw[hb] at hx;generalize f x=y at hx
   cases x<;>first|cases hb|skip
   cases y<;>first|cases hx|skip
   simp only[o7,jN,ih.1,ih.2];exact⟨trivial,trivial⟩
theorem KN (s:St) (args:List V):o7 s 0 (rV args)=o7 s 0 args∧jN 0 (rV args)=jN 0 args:=by
 unfold rV
 cases h:handed args with
 |false=>
  have h2:=Iw s args 0 fun x hx=>by
   unfold handed at h;rw[List.any_eq_false] at h;have:=h x hx
   cases x<;>first|rfl|(exfalso;exact this rfl)
  rw[cond_false,h2.1,h2.2];exact⟨rfl,rfl⟩
 |true=>
  rw[cond_true];exact KM s _ (fun x=>by cases x<;>first|rfl|(rename_i o _;cases o<;>rfl)) args 0
theorem aaS {α:Type} (p:Bool) (x:V) (s:St) (args:List V) (K:V→Option α):rU p x s (rV args) K=rU p x s args K:=by
 unfold rU;rw[(KN s args).1,(KN s args).2]
theorem FE {α:Type} (P:Program) (fn:Func) (args:List V) (K:V→Option α):Jc P fn (rV args) K=Jc P fn args K:=by
 funext e s
 cases e<;>simp only[Jc,Ni,aaS]
theorem OT: ∀(bs:List (List V)) (j:Nat) (p:Nat×Nat),p∈VB j bs→ ∃i,p.2=fJ true p.1 i
 |[],j,p,h=>by cases h
 |cs::bs,j,p,h=>by
  unfold VB at h;rcases List.mem_append.1 h with h|h
  ·obtain⟨i,hi⟩:=iL _ _ _ h
   exact⟨_,hi⟩
  ·exact OT bs (j+1) p h
theorem cls_lt' {L i:Nat} (h:fJ true L i<HL):L<HL:=by
 unfold fJ at h;rw[Bool.true_and] at h
 cases hq:Nat.ble HL L with
 |true=>rw[hq,cond_true] at h;omega
 |false=>
  refine Nat.lt_of_not_le fun e=>?_
  rw[Nat.ble_eq_true_of_le e] at hq
  cases hq
theorem ME: ∀(args:List V) (j:Nat) {a b:Nat},(a,b)∈jN j args→a=b∧HL≤a
 |[],j,a,b,h=>by cases h
 |x::args,j,a,b,h=>by
  have rest:(a,b)∈jN (j+1) args→a=b∧HL≤a:=ME args (j+1)
  cases x with
  |bxa off cs=>
   unfold jN at h;rcases List.mem_cons.1 h with h|h
   ·simp only[Prod.mk.injEq] at h
    obtain⟨rfl,rfl⟩:=h;exact⟨rfl,by omega⟩
   ·exact rest h
  |_=>exact rest h
theorem qm {s:St} (f:List V→List V): ∀(args:List V) (j:Nat) (bs:List (List V)),o7 s j args=some bs→ ∀k cs,ay (fH j args (bs.map f)) k=some cs→ ∃cs0,ay s.bx k=some cs0∧cs=f cs0
 |[],j,bs,h,k,cs,hk=>by cases hk
 |x::args,j,bs,h,k,cs,hk=>by
  have rest:o7 s (j+1) args=some bs→ay (fH (j+1) args (bs.map f)) k=some cs→ ∃cs0,ay s.bx k=some cs0∧cs=f cs0:=fun h1 h2=>qm f args (j+1) bs h1 k cs h2
  cases x with
  |bxa off c0=>
   unfold o7 at h;split at h
   ·rename_i c1 b1 h1 h2
    simp only[Option.some.injEq] at h;subst h;rw[List.map_cons] at hk;unfold fH ay at hk
    cases hq:HL+j==k with
    |true=>
     rw[hq,cond_true] at hk;simp only[Option.some.injEq] at hk;obtain rfl:HL+j=k:=by simpa using hq
     exact⟨c1,h1,hk.symm⟩
    |false=>
     rw[hq,cond_false] at hk;exact qm f args (j+1) b1 h2 k cs hk
   ·cases h
  |_=>exact rest h hk
theorem nu: ∀(args:List V) (j:Nat) (bs:List (List V)) {k:Nat} {cs:List V},ay (fH j args bs) k=some cs→ ∃k0,(k,k0)∈jN j args
 |[],j,bs,k,cs,h=>by cases h
 |x::args,j,bs,k,cs,h=>by
  have rest:ay (fH (j+1) args bs) k=some cs→ ∃k0,(k,k0)∈jN (j+1) args:=fun h=>nu args (j+1) bs h
  cases x with
  |bxa off c0=>
   cases bs with
   |nil=>
    obtain⟨k0,hk0⟩:=nu args (j+1) [] h;exact⟨k0,List.mem_cons_of_mem _ hk0⟩
   |cons c1 bs=>
    unfold fH ay at h
    cases hq:HL+j==k with
    |true=>
     obtain rfl:HL+j=k:=by simpa using hq
     exact⟨_,List.mem_cons_self⟩
    |false=>
     rw[hq,cond_false] at h;obtain⟨k0,hk0⟩:=nu args (j+1) bs h;exact⟨k0,List.mem_cons_of_mem _ hk0⟩
  |_=>exact rest h
theorem FF {α:Type} {p:Bool} {x:V} {s:St} {args:List V} {K:V→Option α} {r:α} (h:rU p x s args K=some r):
  ∃x' bs,K (.out p x' bs)=some r∧(∀t y,x=.iface t y→x'=.iface t y)∧(x=.tup []→x'=.tup [])∧ ∀{B B2:Own} {G0:aQ} {w0:World} {g:Gh} {a:Act} {w:World} {v:Value},B2.m=B.m→B2.n=B.n→B2.df=[]→(∀a b,(a,b)∈jN 0 args→B2.β a=B.β a)→Inv E B G0 w0 s g a w→aM g x v→ ∃g',Inv E B2 G0 w0 ⟨[x'],fH 0 args bs⟩ g' ⟨#[v],[]⟩ w:=by
 unfold rU at h;split at h
 ·rename_i bs hbs
  simp only at h;obtain⟨hn,h⟩:=aF h;rw[vo] at hn;have hf:=sw (rR (fun L i=>fJ true L i) 0 (CK x)++VB 0 bs) [];generalize hml:qE [] (rR (fun L i=>fJ true L i) 0 (CK x)++VB 0 bs)=ml at h hn hf;have hcls: ∀p∈ml,∃i,p.2=fJ true p.1 i:=fun p hp=>by
   rcases List.mem_append.1 (hf.2 p hp).1 with h|h
   ·obtain⟨i,hi⟩:=iL _ _ _ h
    exact⟨_,hi⟩
   ·exact OT bs 0 p h
  refine⟨_,_,h,fun t y e=>(by subst e;rfl),fun e=>(by subst e;rfl),fun {B B2 G0 w0 g a w v} hm2 hn2 hd2 hβ2 hi hv=>?_⟩;let O2:Nat→Option (Value×Nat×Nat):=fun n=>match lk (fu ml) n with|some L=>g.O L|none=>none
  have hO: ∀L n,lk ml L=some n→O2 n=g.O L:=fun L n hl=>by
   show(match lk (fu ml) n with|some L=>g.O L|none=>none)=_;rw[jQ hn (kD hl)]
  have Bc: ∀n x,O2 n=some x→ ∃L,(L,n)∈ml∧g.O L=some x:=fun n x hx=>by
   have hx:(match lk (fu ml) n with|some L=>g.O L|none=>none)=some x:=hx;split at hx
   ·rename_i L hL;exact⟨L,qL.1 (kD hL),hx⟩
   ·cases hx
  let β2:Nat→Option Nat:=fun k=>if HL≤k then B2.β k else g.β k
  have hβk: ∀a b,(a,b)∈jN 0 args→β2 a=g.β a:=fun a b hab=>by
   have h1:=(ME args 0 hab).2;show(if HL≤a then B2.β a else g.β a)=_;rw[if_pos h1,hβ2 a b hab,hi.ext.2.2 a h1]
  let C2:Nat→Option (List Value):=fun n=>match lk (fu ml) n with|some L=>g.C L|none=>none
  have hC: ∀L n,lk ml L=some n→C2 n=g.C L:=fun L n hl=>by
   show(match lk (fu ml) n with|some L=>g.C L|none=>none)=_;rw[jQ hn (kD hl)]
  have hCm: ∀L n,(L,n)∈ml→C2 n=g.C L:=fun L n hl=>by
   show(match lk (fu ml) n with|some L=>g.C L|none=>none)=_;rw[jQ hn hl]
  let g2:Gh:=⟨g.G,O2,β2,g.G1,C2⟩
  have A7: ∀(y:V) (u:Value),aM g y u→aM g2 (y.ren (jN 0 args) ml) u:=fun y u hy=>G7 (g:=g) (g':=g2) rfl hO hC (fun k n hk=>by
   have h1:=kD hk;rw[←(ME args 0 h1).1];exact hβk k n h1) hy
  have hok2: ∀L b,B2.ok L b↔B.ok L b:=fun L b=>by unfold Own.ok;rw[hm2,hn2]
  refine⟨g2,PW.cons (A7 x v hv) .nil,hd2.symm,hi.gok,⟨fun n v' e sz hn'=>?_,fun n n' v1 v2 e e' sz sz' b h1 h2 hb1 hb2=>?_⟩,⟨fun k cs hk=>?_,fun k k' cs cs' hk hk' hb=>?_⟩,by rw[hm2];exact hi.mM,by rw[hm2,hn2];exact hi.hB,⟨fun b hb=>hi.ext.1 b (by rw[←hm2];exact hb),hi.ext.2.1,fun k hk=>if_pos hk⟩,by rw[hn2];exact hi.glob,hi.g1,fun k cs n v' e sz b hk hn' hb hβ=>?_⟩
  ·obtain⟨L,hL,hx⟩:=Bc n _ hn'
   obtain⟨q1,q2⟩:=hi.own.1 L v' e sz hx;refine⟨q1,q2.imp id ?_⟩;rintro⟨b,m,cap,cur,l,hv',hok,hh,hnc,hcm,hcs,hrow,hln⟩;refine⟨b,m,cap,cur,l,hv',(hok2 n b).2 ⟨hok.1,fun hlt=>hok.2 ?_⟩,hh,hnc,hcm,hcs,by
    unfold nQ at hrow⊢;rw[show g2.C n=g.C L from hCm L n hL];exact hrow,hln⟩
   obtain⟨i,hi'⟩:=hcls _ hL;simp only at hi';rw[hi'] at hlt;exact cls_lt' hlt
  ·obtain⟨L,hL,hx⟩:=Bc n _ h1
   obtain⟨L',hL',hx'⟩:=Bc n' _ h2;have:=hi.own.2 L L' v1 v2 e e' sz sz' b hx hx' hb1 hb2;subst this;exact BG hf.1 hL hL'
  ·obtain⟨cs0,h1,rfl⟩:=qm (s:=s) (fun cs=>cs.map (V.ren (jN 0 args) ml)) args 0 bs hbs k cs hk
   obtain⟨b,c,e,q1,q2,q3,q4,q5,q6,q7⟩:=hi.bxs.1 k cs0 h1;obtain⟨k0,hk0⟩:=nu args 0 _ hk;exact⟨b,c,e,(hβk k k0 hk0).trans q1,by rw[hm2];exact q2,q3,dX q4 fun y _ u=>A7 y u,q5,q6,kT (GV _ _) q7⟩
  ·obtain⟨k0,hk0⟩:=nu args 0 _ hk
   obtain⟨k1,hk1⟩:=nu args 0 _ hk';have hb:β2 k=β2 k':=hb;rw[hβk k k0 hk0,hβk k' k1 hk1] at hb;obtain⟨c1,h1,_⟩:=qm (s:=s) (fun cs=>cs.map (V.ren (jN 0 args) ml)) args 0 bs hbs k cs hk;obtain⟨c2,h2,_⟩:=qm (s:=s) (fun cs=>cs.map (V.ren (jN 0 args) ml)) args 0 bs hbs k' cs' hk';exact hi.bxs.2 k k' c1 c2 h1 h2 hb
  ·obtain⟨L,hL,hx⟩:=Bc n _ hn'
   obtain⟨k0,hk0⟩:=nu args 0 _ hk;obtain⟨c1,h1,_⟩:=qm (s:=s) (fun cs=>cs.map (V.ren (jN 0 args) ml)) args 0 bs hbs k cs hk;have hβ:β2 k=some b:=hβ;rw[hβk k k0 hk0] at hβ;exact hi.zb k c1 L v' e sz b h1 hx hb hβ
 ·cases h
theorem EB {G:aQ} {x:V} {u:Value} (h:oo x=some u):aP G x u:=by
 cases x with
 |bool b=>simp only[oo,Option.some.injEq] at h;unfold aP;exact h.symm
 |int k n=>simp only[oo,Option.some.injEq] at h;unfold aP;exact h.symm
 |_=>cases h
theorem EC {G:aQ}: ∀{xs:List V} {us:List Value},oq xs=some us→PW (aP G) xs us
 |[],us,h=>by simp only[oq,Option.some.injEq] at h;subst h;exact .nil
 |x::xs,us,h=>by
  unfold oq at h;split at h
  ·rename_i a b ha hb
   simp only[Option.some.injEq] at h;subst h;exact .cons (EB ha) (EC hb)
  ·cases h
theorem AO {g:Gh} {x:V} {u:Value} (h:cO x=some u):aM g x u∧ ∃t y,x=.iface t y:=by
 unfold cO at h;split at h
 ·rename_i t cs
  split at h
  ·rename_i l hl
   simp only[Option.some.injEq] at h;subst h;exact⟨jG.2 ⟨_,rfl,by unfold aP;exact⟨l,rfl,(fD _ _).2 (EC hl)⟩⟩,_,_,rfl⟩
  ·cases h
 ·rename_i t y _
  split at h
  ·rename_i z hz
   simp only[Option.some.injEq] at h;subst h;exact⟨jG.2 ⟨_,rfl,EB hz⟩,_,_,rfl⟩
  ·cases h
 ·cases h
theorem Wp {g:Gh} {vs:List V} {us:List Value} (h:PW (fun x v=>bM g x v∧oU x=true) vs us):aM g (Ui vs) (Bd us):=by
 have Br: ∀(vs:List V) (us:List Value),PW (fun x v=>bM g x v∧oU x=true) vs us→aM g (.tup vs) (.tuple us.toArray):=fun vs us h=>⟨us,rfl,h.mono fun _ _ _ h=>h.1⟩
 match vs,us,h with
 |[],us,h=>rw[h.cZ];exact Br [] [] .nil
 |[x],us,h=>
  obtain⟨u,t,rfl,⟨h1,h2⟩,h3⟩:=h.cons_inv;rw[h3.cZ];have Ou:x.single=true:=by cases x<;>first|rfl|cases h2
  exact bH Ou h1
 |x::y::vs,us,h=>
  have hl:=h.1;match us,hl with
  |u::v::us,_=>exact Br _ _ h
theorem ny {B:Own} {g:Gh} {w:World} {fr:List V} {bx:List (Nat×List V)} {vs:List Value} {fn:Func} {G0:aQ} {w0:World} (hi:Inv E B G0 w0 ⟨fr,bx⟩ g ⟨vs.toArray,[]⟩ w):
  Inv E B G0 w0 ⟨Bo fn fr,bx⟩ g {tmps:=vs.toArray++Array.replicate (fn.ntmps-vs.toArray.size) undef,defers:=[]} w:=by
 have hfr:PW (aM g) fr vs:=by simpa using hi.fr
 refine⟨?_,hi.df,hi.gok,hi.own,hi.bxs,hi.mM,hi.hB,hi.ext,hi.glob,hi.g1,hi.zb⟩;show PW (aM g) (fr++List.replicate (fn.ntmps-fr.length) (.tup [])) (vs.toArray++Array.replicate (fn.ntmps-vs.toArray.size) undef).toList;have e1:(vs.toArray++Array.replicate (fn.ntmps-vs.toArray.size) undef).toList=vs++List.replicate (fn.ntmps-fr.length) undef:=by
  rw[hfr.1];simp
 rw[e1];refine hfr.append ⟨by simp,fun i x v hx hv=>?_⟩;rw[List.getElem?_replicate] at hx hv;split at hx
 ·rename_i hlt
  rw[if_pos hlt] at hv;simp only[Option.some.injEq] at hx hv;subst hx;subst hv;exact⟨[],rfl,.nil⟩
 ·cases hx
def UO (rec:V) (u:FrameMode):Prop:=(rec=.nilif∧u=.returning)∨ ∃q,cO rec=some q∧u=.panicking [{v:=q,recovered:=false}]
def DC (E:Env) (f:Nat) (args:List V) (rec:V) (Φ:V→List (List V)→Prop):Prop:=
 ∀(B:Own) (g:Gh) (w:World) (vs:List Value),B.df=[]→Inv E B g.G w ⟨bV 0 args,dU 0 args⟩ g ⟨vs.toArray,[]⟩ w→ ∀u,UO rec u→
  CallsD E.P f vs.toArray u w fun e u' w'=>∃x bs g' v,Φ x bs∧(∃v',e=.returned v')∧settle u'=.returning∧Inv E B g.G w ⟨[x],fH 0 args bs⟩ g' ⟨#[v],[]⟩ w'
theorem Wq (hE:vT E) {α:Type} {call:Caller α} (hc:l9 E call) {fuel f:Nat} {args:List V} {rec:V} {K:V→Option α} {r:α} (h:Oo false E call fuel f args rec K=some r):jO E.P f=true∧ ∃x bs,K (.out false x bs)=some r∧DC E f args rec (fun x' bs'=>x'=x∧bs'=bs):=by
 unfold Oo at h;split at h
 ·cases h
 ·rename_i fn hfn
  split at h
  ·rename_i c hbody
   split at h
   ·rename_i id ops b
    split at h
    ·rename_i o hops
     split at h
     ·rename_i cl d hop hg hd hres
      split at h
      ·rename_i lV mW
       obtain⟨e,s',he,hl⟩:=jb hE hc _ rfl fuel b _ _ r h;have hret:rU false (.tup []) s' args K=some r∧(e=.norm∨e=.ret):=by
        cases e with
        |norm=>exact⟨he,.inl rfl⟩
        |ret=>exact⟨he,.inr rfl⟩
        |exit id=>cases he
        |qo v=>cases he
       obtain⟨ho,hee⟩:=hret;obtain⟨x',bs,hK,_,htup,hinv⟩:=FF (E:=E) ho;refine⟨by unfold jO;rw[hfn];simp only[hbody];rfl,x',bs,hK,fun B g w vs hdf hi u hu=>?_⟩;refine callsD_of_wpS hfn hbody fun c₀ cs hc₀=>?_
       have Zb:ops= #[o]:=by rw[←Array.toList_inj];simpa using hops
       subst Zb;refine wpS_seq (wpS_region ?_);have Zc: ∀ρ,(execOp ρ o).run E.P w=.ok .recover w:=by
        intro ρ;obtain⟨callee,kK,cts⟩:=cl;simp only at lV mW;subst lV;simp only[execOp,hop,resolve];simp[invoke,builtin]
       have hlist:List.range (#[o]:Array Oper).size=[0]:=rfl;rw[hlist];unfold wpOpsS;simp only[List.getElem?_toArray,List.getElem?_cons_zero];have hw: ∀y,Region.wanted o y=true:=fun y=>by unfold Region.wanted;rw[hg]
       rw[if_pos (hw _),Zc];simp only[hd];have hstart:=ny (fn:=fn) hi;have fin: ∀(v:Value) (u':FrameMode),settle u'=.returning→aM g rec v→
         Code.wpS E.P b (bodyPostS E.P fn c₀ cs fun e u' w'=>∃x1 bs1 g' v,(x1=x'∧bs1=bs)∧(∃v',e=.returned v')∧settle u'=.returning∧Inv E B g.G w ⟨[x1],fH 0 args bs1⟩ g' ⟨#[v],[]⟩ w')
          (Act.put {tmps:=vs.toArray++Array.replicate (fn.ntmps-vs.toArray.size) undef,defers:=[]} (some d) v) ({c₀ with mode:=u'}::cs) w:=by
        intro v u' hset hv;refine wpS_of_wp (hl B g.G w g _ w (hstart.put (some d) hv) _ fun g' a' w' hi'=>?_);have hrun:(results fn a'.tmps).run E.P w'=.ok (.tuple #[]) w':=by
         have:=oG (fn:=fn) (a:=a') (w:=w') (E:=E) (us:=[]) (by rw[hres];rfl);simpa[Bd] using this
        have uS:a'.defers=[]:=hi'.df.trans hdf;have hfin: ∃g2,Inv E B g.G w ⟨[x'],fH 0 args bs⟩ g2 ⟨#[.tuple #[]],[]⟩ w':=by
         exact hinv rfl rfl hdf (fun _ _ _=>rfl) hi' (v:=.tuple #[]) ⟨[],rfl,.nil⟩
        obtain⟨g2,h2⟩:=hfin;have hpost:a'.defers=[]∧ ∃u'',({c₀ with mode:=u'}::cs:List Frame)={c₀ with mode:=u''}::cs∧ ∃v,(results fn a'.tmps).run E.P w'=.ok v w'∧ ∃x1 bs1 g' v_1,(x1=x'∧bs1=bs)∧(∃v',Ending.returned v=.returned v')∧settle u''=.returning∧Inv E B g.G w ⟨[x1],fH 0 args bs1⟩ g' ⟨#[v_1],[]⟩ w':=
         ⟨uS,u',rfl,_,hrun,_,_,g2,_,⟨rfl,rfl⟩,⟨_,rfl⟩,hset,h2⟩
        rcases hee with rfl|rfl
        ·exact hpost
        ·exact hpost
       rcases hu with⟨rfl,rfl⟩|⟨q,hq,rfl⟩
       ·have hrec:recoverD (c₀::cs)=none:=by simp only[recoverD,hc₀]
        rw[hrec];have:=fin .nilIface .returning rfl (nD.2 rfl);have e1:({c₀ with mode:=.returning}:Frame)=c₀:=by rw[←hc₀]
        rw[e1] at this;exact this
       ·have hrec:recoverD (c₀::cs)=some (q,{c₀ with mode:=.panicking [{v:=q,recovered:=true}]}::cs):=by simp only[recoverD,hc₀]
        rw[hrec];exact fin q _ rfl (AO hq).1
      ·cases h
     ·cases h
    ·cases h
   ·cases h
  ·cases h
theorem clo_cps (hE:vT E) {α:Type} {call:Caller α} (hc:l9 E call) {fuel f:Nat} {args:List V} {rec:V} {K:V→Option α} {r:α} {o:Bool} (h:Oo o E call fuel f args rec K=some r):jO E.P f=true∧DC E f args rec (fun x bs=>K (.out false x bs)=some r):=by
 unfold Oo at h;split at h
 ·cases h
 ·rename_i fn hfn
  split at h
  ·rename_i c hbody
   split at h
   ·rename_i id ops b
    split at h
    ·rename_i op hops
     split at h
     ·rename_i cl d hop hg hd hres
      split at h
      ·rename_i lV mW
       refine⟨by unfold jO;rw[hfn];simp only[hbody];rfl,fun B g w vs hdf hi u hu=>?_⟩;refine callsD_of_wpS hfn hbody fun c₀ cs hc₀=>?_
       have Zb:ops= #[op]:=by rw[←Array.toList_inj];simpa using hops
       subst Zb;refine wpS_seq (wpS_region ?_);have Zc: ∀ρ,(execOp ρ op).run E.P w=.ok .recover w:=by
        intro ρ;obtain⟨callee,kK,cts⟩:=cl;simp only at lV mW;subst lV;simp only[execOp,hop,resolve];simp[invoke,builtin]
       have hlist:List.range (#[op]:Array Oper).size=[0]:=rfl;rw[hlist];unfold wpOpsS;simp only[List.getElem?_toArray,List.getElem?_cons_zero];have hw: ∀y,Region.wanted op y=true:=fun y=>by unfold Region.wanted;rw[hg]
       rw[if_pos (hw _),Zc];simp only[hd];have hstart:=ny (fn:=fn) hi;have fin: ∀(v:Value) (u':FrameMode),settle u'=.returning→aM g rec v→
         Code.wpS E.P b (bodyPostS E.P fn c₀ cs fun e u' w'=>∃x' bs g' v,K (.out false x' bs)=some r∧(∃v',e=.returned v')∧settle u'=.returning∧Inv E B g.G w ⟨[x'],fH 0 args bs⟩ g' ⟨#[v],[]⟩ w')
          (Act.put {tmps:=vs.toArray++Array.replicate (fn.ntmps-vs.toArray.size) undef,defers:=[]} (some d) v) ({c₀ with mode:=u'}::cs) w:=by
        intro v u' hset hv;refine wpS_of_wp (qH hE hc _ fuel b _ _ r h g _ w (hstart.put (some d) hv) _ fun e s' g' a' w' he hi'=>?_);have hret:rU false (.tup []) s' args K=some r∧(e=.norm∨e=.ret):=by
         cases e with
         |norm=>exact⟨he,.inl rfl⟩
         |ret=>exact⟨he,.inr rfl⟩
         |exit id=>cases he
         |qo v=>cases he
        obtain⟨ho,hee⟩:=hret;obtain⟨x',bs,hK,_,htup,hinv⟩:=FF (E:=E) ho;have hrun:(results fn a'.tmps).run E.P w'=.ok (.tuple #[]) w':=by
         have:=oG (fn:=fn) (a:=a') (w:=w') (E:=E) (us:=[]) (by rw[hres];rfl);simpa[Bd] using this
        have uS:a'.defers=[]:=hi'.df.trans hdf;have hfin: ∃g2,Inv E B g.G w ⟨[x'],fH 0 args bs⟩ g2 ⟨#[.tuple #[]],[]⟩ w':=by
         exact hinv rfl rfl hdf (fun _ _ _=>rfl) hi' (v:=.tuple #[]) ⟨[],rfl,.nil⟩
        obtain⟨g2,h2⟩:=hfin;have hpost:a'.defers=[]∧ ∃u'',({c₀ with mode:=u'}::cs:List Frame)={c₀ with mode:=u''}::cs∧ ∃v,(results fn a'.tmps).run E.P w'=.ok v w'∧ ∃x' bs g' v_1,K (.out false x' bs)=some r∧(∃v',Ending.returned v=.returned v')∧settle u''=.returning∧Inv E B g.G w ⟨[x'],fH 0 args bs⟩ g' ⟨#[v_1],[]⟩ w':=
         ⟨uS,u',rfl,_,hrun,x',bs,g2,_,hK,⟨_,rfl⟩,hset,h2⟩
        rcases hee with rfl|rfl
        ·exact hpost
        ·exact hpost
       rcases hu with⟨rfl,rfl⟩|⟨q,hq,rfl⟩
       ·have hrec:recoverD (c₀::cs)=none:=by simp only[recoverD,hc₀]
        rw[hrec];have:=fin .nilIface .returning rfl (nD.2 rfl);have e1:({c₀ with mode:=.returning}:Frame)=c₀:=by rw[←hc₀]
        rw[e1] at this;exact this
       ·have hrec:recoverD (c₀::cs)=some (q,{c₀ with mode:=.panicking [{v:=q,recovered:=true}]}::cs):=by simp only[recoverD,hc₀]
        rw[hrec];exact fin q _ rfl (AO hq).1
      ·cases h
     ·cases h
    ·cases h
   ·cases h
  ·cases h
def FOk (E:Env) (f:Nat) (args:List V) (v:V):Prop:=(wL v=false∧af E f (args.map V.zQ) v)∨(∃p x bs,v=.out p x bs∧XC E f args p x bs)∨ ∃p x,v=.keep p x∧KC E f args p x
theorem Js {x:V} (h:x.fA=true):x.plain=true:=by
 cases x with
 |sl e sh o xs=>cases o<;>first|rfl|cases h
 |agg cs=>rfl
 |rptr sh y off=>rfl
 |iface t y=>rfl
 |_=>cases h
theorem ED {G:aQ} {g:Gh} (h1:g.G=G) (h2:g.G1=G): ∀{args:List V} {us:List Value},Bb args=some args→handed args=false→PW (aP G) (args.map V.zQ) us→PW (aM g) args us
 |[],us,_,_,hp=>by rw[hp.cZ];exact .nil
 |x::l,us,ha,hh,hp=>by
  obtain⟨v,t,rfl,hv,ht⟩:=hp.cons_inv;unfold handed at hh;rw[List.any_cons,Bool.or_eq_false_iff] at hh;unfold Bb at ha;split at ha
  ·rename_i a b hxa hlb
   simp only[Option.some.injEq,List.cons.injEq] at ha;obtain⟨rfl,rfl⟩:=ha;refine .cons ?_ (ED h1 h2 hlb hh.2 ht);have dp: ∀{y:V},y.deep=some y→aP G y v→aM g y v:=fun hd hr=>bW (jF hd) (by rw[h1];exact hr)
   cases a with
   |bxa off cs=>cases hh.1
   |sl e sh o xs=>cases o with
    |none=>exact dp rfl hv
    |some L=>cases hh.1
   |old y=>
    have hxa:(bif y.fA then some (V.old y) else none)=some (.old y):=hxa;obtain⟨ho,_⟩:=aF hxa;have hv:aP G (bif y.fA then y else .any) v:=hv;rw[ho,cond_true] at hv;exact⟨by rw[h2];exact hv,by rw[h1];exact hv,Js ho⟩
   |fn f c=>cases c with
    |nil=>exact dp rfl hv
    |cons c cs=>
     have hv:aP G (.fn f (c::cs)) v:=hv;unfold aP at hv;exact absurd hv.2 (by simp)
   |_=>exact dp hxa hv
  ·cases ha
theorem jr {f:Nat} {args:List V} {r:V} (ha:Bb args=some args) (hh:handed args=false)
  (h: ∀(B:Own) (g:Gh) (w:World) (us:List Value),B.df=[]→Inv E B g.G w ⟨args,[]⟩ g ⟨us.toArray,[]⟩ w→Calls E.P f us.toArray w fun e w'=>∃v g',e=.returned v∧Inv E B g.G w ⟨[],[]⟩ g' ⟨#[],[]⟩ w'∧fP g'.G w' B.m r v):af E f (args.map V.zQ) r:=by
 intro G w us hG Zd hp;have hp:=ED (g:=⟨G,fun _=>none,fun _=>none,G,fun _=>none⟩) rfl rfl ha hh hp;have hi:Inv E ⟨(w.heap.size≤ ·),w.heap.size,fun _=>none,[]⟩ G w ⟨args,[]⟩ ⟨G,fun _=>none,fun _=>none,G,fun _=>none⟩ ⟨us.toArray,[]⟩ w:=by
  refine⟨?_,rfl,hG,⟨fun L v e sz h=>(by cases h),fun L L' v v' e e' sz sz' b h=>(by cases h)⟩,⟨fun k cs h=>(by cases h),fun k k' cs cs' h=>(by cases h)⟩,.refl _ _,⟨Nat.le_refl _,fun b hb=>hb⟩,⟨fun _ _=>rfl,.refl _,fun _ _=>rfl⟩,⟨Zd,fun b l hb=>eY hG hb⟩,.refl _,fun k cs L v e sz b hk=>(by cases hk)⟩;show PW _ args us.toArray.toList;rw[List.toList_toArray];exact hp
 refine Calls.mono (h _ ⟨G,fun _=>none,fun _=>none,G,fun _=>none⟩ w us rfl hi) ?_;rintro e w' ⟨v,g',rfl,hi',hr⟩;exact⟨v,g'.G,rfl,⟨hi'.mM.below,fun b hb=>hi'.ext.1 b (Nat.not_le.2 hb),hi'.gok⟩,hr⟩
theorem Inv.drop {B B2:Own} {G0:aQ} {w0:World} {s:St} {g:Gh} {a:Act} {w:World} (h:Inv E B G0 w0 s g a w) (hm:B2.m=B.m) (hn:B2.n=B.n): ∃g',g'.G=g.G∧Inv E B2 G0 w0 ⟨[],[]⟩ g' ⟨#[],B2.df⟩ w:=by
 refine⟨⟨g.G,fun _=>none,B2.β,g.G1,fun _=>none⟩,rfl,⟨.nil,rfl,h.gok,⟨fun L v e sz hL=>(by cases hL),fun L L' v v' e e' sz sz' b hL=>(by cases hL)⟩,⟨fun k cs hk=>(by cases hk),fun k k' cs cs' hk=>(by cases hk)⟩,by rw[hm];exact h.mM,by rw[hm,hn];exact h.hB,⟨fun b hb=>h.ext.1 b (by rw[←hm];exact hb),h.ext.2.1,fun _ _=>rfl⟩,by rw[hn];exact h.glob,h.g1,fun k cs L v e sz b hk=>(by cases hk)⟩⟩
theorem Ws {s:St} {rs:List ResultVar} {p:Bool} {x:V} {bs:List (List V)} (h:uh E.P s rs=some [.out p x bs]):wL (.out p x bs)=false:=by
 exfalso
 cases rs with
 |nil=>cases h
 |cons r rs=>
  simp only[uh] at h;split at h
  ·cases h
  ·rename_i y hy
   split at h
   ·cases h
   ·simp only[Option.some.injEq,List.cons.injEq] at h
    obtain⟨rfl,_⟩:=h;have:=EA hy;rcases this with h|⟨e,sh,o,xs,h⟩|⟨cs,h⟩
    ·cases h
    ·cases h
    ·cases h
theorem SQ {s:St} {rs:List ResultVar} {p:Bool} {x:V} (h:uh E.P s rs=some [.keep p x]):wL (.keep p x)=false:=by
 exfalso
 cases rs with
 |nil=>cases h
 |cons r rs=>
  simp only[uh] at h;split at h
  ·cases h
  ·rename_i y hy
   split at h
   ·cases h
   ·simp only[Option.some.injEq,List.cons.injEq] at h
    obtain⟨rfl,_⟩:=h;have:=EA hy;rcases this with h|⟨e,sh,o,xs,h⟩|⟨cs,h⟩
    ·cases h
    ·cases h
    ·cases h
def Up (E:Env) (fn:Func) (s:St) (v:V):Prop:=
 ∀{B B2:Own} {G0:aQ} {w0:World} {g:Gh} {a:Act} {w:World},B2.m=B.m→B2.n=B.n→Inv E B G0 w0 s g a w→ ∃u g2,(results fn a.tmps).run E.P w=.ok u w∧Inv E B2 G0 w0 ⟨[],[]⟩ g2 ⟨#[],B2.df⟩ w∧fP g2.G w B.m v u
theorem SS {fn:Func} {s:St} {vs:List V} (h:uh E.P s fn.results.toList=some vs):Up E fn s (On vs):=by
 intro B B2 G0 w0 g a w hm hn hi;obtain⟨us,hu,hpu⟩:=tC hi _ _ h;have hres:=ret_res hi.own hpu;obtain⟨g2,hg2,hfo⟩:=hi.drop (B2:=B2) hm hn;rw[←hg2] at hres;exact⟨_,g2,oG hu,hfo,hres⟩
theorem kd_fits {v y:V} {k:Kd} (h:Rl v=some k) (hd:v.deep=some y):fits k y=true:=by
 cases v with
 |bool b=>simp only[Rl,Option.some.injEq] at h;simp only[V.deep,Option.some.injEq] at hd;subst h;subst hd;rfl
 |int k n=>simp only[Rl,Option.some.injEq] at h;simp only[V.deep,Option.some.injEq] at hd;subst h;subst hd;simp[fits]
 |str l=>simp only[Rl,Option.some.injEq] at h;simp only[V.deep,Option.some.injEq] at hd;subst h;subst hd;rfl
 |sl e sh o xs=>
  simp only[Rl] at h;obtain⟨h1,h2⟩:=aF h;simp only[V.deep,Option.some.injEq] at hd;simp only[Option.some.injEq] at h2;subst h2;subst hd;simp[fits,h1]
 |_=>simp[Rl] at h
theorem OU: ∀{vs ys:List V} {ks:List Kd},JZ vs=some ks→V.zi vs=some ys→fV ks ys=true
 |[],ys,ks,h,hd=>by
  simp only[JZ,Option.some.injEq] at h;simp only[V.zi,Option.some.injEq] at hd;subst h;subst hd;rfl
 |v::l,ys,ks,h,hd=>by
  simp only[JZ] at h;simp only[V.zi] at hd;split at h
  ·rename_i k ks' hk hks
   split at hd
   ·rename_i y ys' hy hys
    simp only[Option.some.injEq] at h hd;subst h;subst hd;simp only[fV,kd_fits hk hy,OU hks hys];rfl
   ·cases hd
  ·cases h
theorem UQ {s:St} {rs:List ResultVar} {v:V} (h:Gd s rs=some v): ∃t k cells sh cs,rs=[.tmp t]∧slot s.fr t=.box k 0∧ay s.bx k=some cells∧JZ cells=some sh∧V.zi cells=some cs∧v=.rptr sh (.agg cs) 0:=by
 unfold Gd at h;split at h
 ·rename_i t
  split at h
  ·rename_i k off hsl
   obtain⟨h1,h2⟩:=aF h;obtain rfl:off=0:=by simpa using h1
   split at h2
   ·rename_i cells hc
    split at h2
    ·rename_i sh hk
     split at h2
     ·rename_i cs hd
      simp only[Option.some.injEq] at h2;exact⟨t,k,cells,sh,cs,rfl,hsl,hc,hk,hd,h2.symm⟩
     ·cases h2
    ·cases h2
   ·cases h2
  ·cases h
 ·cases h
theorem frz_out {s:St} {rs:List ResultVar} {v:V} (h:Gd s rs=some v):wL v=false:=by
 obtain⟨_,_,_,_,_,_,_,_,_,_,rfl⟩:=UQ h;rfl
theorem SV {fn:Func} {s:St} {v:V} (h:Gd s fn.results.toList=some v):Up E fn s v:=by
 obtain⟨t,k,cells,sh,cs,hrs,hsl,hl,hk,hd,rfl⟩:=UQ h;intro B B2 G0 w0 g a w hm hn hi;have hev:aM g (slot s.fr t) (a.tmps.getD t undef):=fo hi.fr hi.oh (.tmp t);rw[hsl] at hev;obtain⟨b,hb,hv⟩:=eF.1 hev;obtain⟨b',c,e,hb',hBb,hh,hp,ho,hG,_⟩:=hi.bxs.1 k cells hl;rw[hb] at hb';simp only[Option.some.injEq] at hb';subst hb';have hrun:(fn.results.toList.mapM (Ag a)).run E.P w=.ok [a.tmps.getD t undef] w:=by
  rw[hrs,List.mapM_cons];rfl
 have hmore:mF g.G (upd g.G b c.toList):=by
  intro j l hj;have:j≠b:=fun e=>by rw[e,hG] at hj;cases hj
  exact⟨l,by rw[gH _ _ _ _ this];exact hj,List.prefix_refl _⟩
 have hfit:=OU hk hd;have hpw:PW (aP (upd g.G b c.toList)) cs c.toList:=(GU cells cs c.toList hd hp).mono fun x _ u hu=>gQ hmore x u hu
 obtain⟨g2,hg2,hfo⟩:=hi.drop (B2:=B2) hm hn;refine⟨_,⟨upd g.G b c.toList,fun _=>none,B2.β,g2.G1,fun _=>none⟩,oG hrun,?_,?_⟩
 ·refine⟨.nil,rfl,?_,⟨fun L v e sz hL=>(by cases hL),fun L L' v v' e e' sz sz' b hL=>(by cases hL)⟩,⟨fun k cs hk=>(by cases hk),fun k k' cs cs' hk=>(by cases hk)⟩,hfo.mM,hfo.hB,⟨fun j hj=>?_,?_,fun _ _=>rfl⟩,hfo.glob,hfo.g1,fun k cs L v e sz b hk=>(by cases hk)⟩
  ·intro j l hj
   have hj:upd g.G b c.toList j=some l:=hj;by_cases e1:j=b
   ·subst e1
    rw[upd_same] at hj;obtain rfl:=Option.some.inj hj;exact⟨c,e,_,hh,List.take_length⟩
   ·rw[gH _ _ _ _ e1] at hj
    exact hi.gok j l hj
  ·have:j≠b:=fun e1=>hj (by rw[e1,hm];exact hBb)
   show upd g.G b c.toList j=_;rw[gH _ _ _ _ this];exact hi.ext.1 j (by rw[←hm];exact hj)
  ·exact hi.ext.2.1.trans hmore
 ·rw[show Bd [a.tmps.getD t undef]=a.tmps.getD t undef from rfl,hv]
  show aP (upd g.G b c.toList) (.rptr sh (.agg cs) 0) _;unfold aP;refine⟨b,0,c.toList,rfl,upd_same _ _ _,hfit,.agg c,?_,?_⟩
  ·unfold aP
   exact⟨c.toList,by simp,(fD _ _).2 hpw⟩
  ·have h1:=jS _ _ hfit
   have h2:cs.length=c.toList.length:=hpw.1;rw[List.drop_zero,h1,h2,List.take_length];simp[Value.cells]
theorem lQ {α:Type} {fn:Func} {args:List V} {K:V→Option α} {r:α} {e:Ex} {s':St} (he:Jc E.P fn args K e s'=some r):
  ∃v,K v=some r∧((wL v=false∧handed args=false∧(e=.norm∨e=.ret)∧Up E fn s' v)∨
   (∃x bs,v=.out false x bs∧(e=.norm∨e=.ret)∧ ∀{B B2:Own} {G0:aQ} {w0:World} {g:Gh} {a:Act} {w:World},B2.m=B.m→B2.n=B.n→B2.df=[]→(∀a b,(a,b)∈jN 0 args→B2.β a=B.β a)→Inv E B G0 w0 s' g a w→ ∃u g',(results fn a.tmps).run E.P w=.ok u w∧Inv E B2 G0 w0 ⟨[x],fH 0 args bs⟩ g' ⟨#[u],[]⟩ w)∨
   (∃x bs u,v=.out true x bs∧(∃y,e=.qo y∧cO y=some u)∧ ∀{B B2:Own} {G0:aQ} {w0:World} {g:Gh} {a:Act} {w:World},B2.m=B.m→B2.n=B.n→B2.df=[]→(∀a b,(a,b)∈jN 0 args→B2.β a=B.β a)→Inv E B G0 w0 s' g a w→ ∃g',Inv E B2 G0 w0 ⟨[x],fH 0 args bs⟩ g' ⟨#[u],[]⟩ w)):=by
 have UR:(e=.norm∨e=.ret)→(match uh E.P s' fn.results.toList with|some vs=>(bif handed args then rU false (Ui vs) s' args K else K (On vs))|none=>bif handed args then none else(match Gd s' fn.results.toList with|some r=>K r|none=>none))=some r→
   ∃v,K v=some r∧((wL v=false∧handed args=false∧(e=.norm∨e=.ret)∧Up E fn s' v)∨
   (∃x bs,v=.out false x bs∧(e=.norm∨e=.ret)∧ ∀{B B2:Own} {G0:aQ} {w0:World} {g:Gh} {a:Act} {w:World},B2.m=B.m→B2.n=B.n→B2.df=[]→(∀a b,(a,b)∈jN 0 args→B2.β a=B.β a)→Inv E B G0 w0 s' g a w→ ∃u g',(results fn a.tmps).run E.P w=.ok u w∧Inv E B2 G0 w0 ⟨[x],fH 0 args bs⟩ g' ⟨#[u],[]⟩ w)∨
   (∃x bs u,v=.out true x bs∧(∃y,e=.qo y∧cO y=some u)∧ ∀{B B2:Own} {G0:aQ} {w0:World} {g:Gh} {a:Act} {w:World},B2.m=B.m→B2.n=B.n→B2.df=[]→(∀a b,(a,b)∈jN 0 args→B2.β a=B.β a)→Inv E B G0 w0 s' g a w→ ∃g',Inv E B2 G0 w0 ⟨[x],fH 0 args bs⟩ g' ⟨#[u],[]⟩ w)):=by
  intro hee h;split at h
  ·rename_i vs hvs
   cases hh:handed args with
   |false=>
    rw[hh,cond_false] at h;refine⟨_,h,.inl ⟨?_,rfl,hee,SS hvs⟩⟩
    cases vs with
    |nil=>rfl
    |cons v l=>cases l with
     |cons _ _=>rfl
     |nil=>
      have:oU v=true:=by
       cases hres:fn.results.toList with
       |nil=>rw[hres] at hvs;cases hvs
       |cons x rs=>
        rw[hres] at hvs;simp only[uh] at hvs;split at hvs
        ·cases hvs
        ·rename_i y hy
         split at hvs
         ·cases hvs
         ·simp only[Option.some.injEq,List.cons.injEq] at hvs
          rw[←hvs.1];exact Wo hy
      show wL v=false
      cases v with
      |out _ _ _=>exact Ws hvs
      |keep _ _=>exact SQ hvs
      |_=>rfl
   |true=>
    rw[hh,cond_true] at h;obtain⟨x',bs,hK,_,_,hinv⟩:=FF (E:=E) h;refine⟨_,hK,.inr (.inl ⟨x',bs,rfl,hee,fun {B B2 G0 w0 g a w} m1 m2 m3 m4 hi=>?_⟩)⟩;obtain⟨us,hu,hpu⟩:=tC hi _ _ hvs;obtain⟨g',h2⟩:=hinv m1 m2 m3 m4 hi (Wp hpu);exact⟨_,g',oG hu,h2⟩
  ·cases hh:handed args with
   |true=>rw[hh,cond_true] at h;cases h
   |false=>
    rw[hh,cond_false] at h;split at h
    ·rename_i v hv
     exact⟨v,h,.inl ⟨frz_out hv,rfl,hee,SV hv⟩⟩
    ·cases h
 cases e with
 |norm=>exact UR (.inl rfl) he
 |ret=>exact UR (.inr rfl) he
 |exit id=>cases he
 |qo y=>
  have he:(match cO y with|some _=>rU true y s' args K|none=>none)=some r:=he;split at he
  ·rename_i u hu
   obtain⟨x',bs,hK,hif,_,hinv⟩:=FF (E:=E) he;refine⟨_,hK,.inr (.inr ⟨x',bs,u,rfl,⟨y,rfl,hu⟩,fun {B B2 G0 w0 g a w} m1 m2 m3 m4 hi=>hinv m1 m2 m3 m4 hi (AO hu).1⟩)⟩
  ·cases he
theorem Inv.redf {B:Own} {G0:aQ} {w0:World} {s:St} {g:Gh} {a:Act} {w:World} (h:Inv E B G0 w0 s g a w) (df:List Deferred):Inv E {B with df:=df} G0 w0 s g {a with defers:=df} w:=
 ⟨h.fr,rfl,h.gok,h.own,h.bxs,h.mM,h.hB,h.ext,h.glob,h.g1,h.zb⟩
theorem Iy {c a b:Code} {o1 o2:Oper} (h:Mt c=some (a,o1,o2,b)): ∃id,c=.seq a (.seq (.region id #[o1,o2] false) b):=by
 unfold Mt at h;split at h
 ·rename_i x id ops y
  split at h
  ·rename_i p q hops
   split at h
   ·simp only[Option.some.injEq,Prod.mk.injEq] at h
    obtain⟨rfl,rfl,rfl,rfl⟩:=h;have:ops= #[p,q]:=by rw[←Array.toList_inj];simpa using hops
    exact⟨id,by rw[this]⟩
   ·cases h
  ·cases h
 ·cases h
end
section
variable {E:Env}
theorem BK {g:Gh} {β':Nat→Option Nat} {k k':Nat} (h1:β' k'=g.β k) (h2: ∀j,j≠k'→β' j=g.β j) {x:V} {v:Value} (hx:uY k' x=false) (h:bM g x v):bM {g with β:=β'} (rbV k k' x) v:=by
 cases x with
 |box j off=>
  obtain⟨b,hb,hv⟩:=h;show bM _ (bif j==k then .box k' off else .box j off) v
  cases hj:j==k with
  |true=>
   obtain rfl:j=k:=by simpa using hj
   exact⟨b,h1.trans hb,hv⟩
  |false=>
   have hne:j≠k':=fun e=>by subst e;simp[uY] at hx
   exact⟨b,(h2 j hne).trans hb,hv⟩
 |sl e sh ow xs=>cases ow<;>exact h
 |eptr _ _ _ _ _ _=>exact h
 |_=>exact h
theorem SX {k k':Nat} {x:V} (h:x.single=true):(rbV k k' x).single=true:=by
 cases x with
 |box j off=>show(bif j==k then V.box k' off else .box j off).single=true;cases j==k<;>rfl
 |tup _=>cases h
 |fn _ _=>cases h
 |_=>rfl
theorem US {g:Gh} {β':Nat→Option Nat} {k k':Nat} (h1:β' k'=g.β k) (h2: ∀j,j≠k'→β' j=g.β j) {x:V} {v:Value} (hx:x.gF k'=false) (h:aM g x v):aM {g with β:=β'} (x.rb k k') v:=by
 cases x with
 |tup vs=>
  obtain⟨a,rfl,h⟩:=h;simp only[V.gF,List.any_eq_false] at hx;exact⟨a,rfl,dX h fun y hy v hv=>BK h1 h2 (by have:=hx y hy;simpa using this) hv⟩
 |fn f c=>
  obtain⟨a,rfl,h⟩:=h;simp only[V.gF,List.any_eq_false] at hx;exact⟨a,rfl,dX h fun y hy v hv=>BK h1 h2 (by have:=hx y hy;simpa using this) hv⟩
 |box j off=>exact bH (SX (x:=.box j off) rfl) (BK (x:=.box j off) h1 h2 hx (aW (x:=.box j off) rfl h))
 |_=>simp only[aM,V.gF] at h hx⊢;exact BK h1 h2 hx h
theorem uK {k k':Nat}: ∀(l:List (Nat×List V)),(∀p∈l,p.1≠k')→ ∀j cs,ay (rbBx k k' l) j=some cs→ ∃j0 cs0,ay l j0=some cs0∧cs=cs0.map (V.rb k k')∧j=if j0=k then k' else j0
 |[],_,j,cs,h=>by cases h
 |(i,c)::l,hl,j,cs,h=>by
  have hi:i≠k':=hl (i,c) List.mem_cons_self;unfold rbBx ay at h
  cases hq:(bif i==k then k' else i)==j with
  |true=>
   rw[hq,cond_true] at h;simp only[Option.some.injEq] at h;refine⟨i,c,by unfold ay;rw[beq_self_eq_true,cond_true],h.symm,?_⟩;rw[beq_iff_eq] at hq;rw[←hq];by_cases hik:i=k
   ·subst hik;rw[beq_self_eq_true,cond_true,if_pos rfl]
   ·have:(i==k)=false:=by simpa using hik
    rw[this,cond_false,if_neg hik]
  |false=>
   rw[hq,cond_false] at h;obtain⟨j0,cs0,h1,h2,h3⟩:=uK l (fun p hp=>hl p (List.mem_cons_of_mem _ hp)) j cs h;refine⟨j0,cs0,?_,h2,h3⟩;unfold ay;have hne:i≠j0:=by
    intro e;subst e;rw[beq_eq_false_iff_ne] at hq;apply hq
    rw[h3];by_cases hik:i=k
    ·subst hik;rw[beq_self_eq_true,cond_true,if_pos rfl]
    ·have:(i==k)=false:=by simpa using hik
     rw[this,cond_false,if_neg hik]
   have:(i==j0)=false:=by simpa using hne
   rw[this,cond_false];exact h1
theorem Inv.rb {B:Own} {G0:aQ} {w0:World} {s:St} {g:Gh} {a:Act} {w:World} (h:Inv E B G0 w0 s g a w) {k k':Nat} (hn:s.mP k'=true) (hk:k≠k'):
  Inv E {B with β:=fun j=>if j=k' then g.β k else B.β j} G0 w0 (s.rb k k') {g with β:=fun j=>if j=k' then g.β k else g.β j} a w:=by
 have h1:(fun j=>if j=k' then g.β k else g.β j) k'=g.β k:=if_pos rfl;have h2: ∀j,j≠k'→(fun j=>if j=k' then g.β k else g.β j) j=g.β j:=fun j hj=>if_neg hj
 have hkeys: ∀p∈s.bx,p.1≠k':=fun p hp e=>by
  unfold St.mP at hn;rw[Bool.and_eq_true,List.all_eq_true,List.all_eq_true] at hn;have:=hn.2 p hp;simp only[Bool.and_eq_true] at this;have:=fI this.1;rw[beq_eq_false_iff_ne] at this;exact this e
 refine⟨dX h.fr fun x hx v=>US h1 h2 (G6 hn x hx),h.df,h.gok,h.own,⟨fun j cs hj=>?_,fun j j' cs cs' hj hj' hb=>?_⟩,h.mM,h.hB,⟨h.ext.1,h.ext.2.1,fun j hj=>?_⟩,h.glob,h.g1,fun j cs L v e sz b hj hL hb hβ=>?_⟩
 ·obtain⟨j0,cs0,q1,rfl,rfl⟩:=uK s.bx hkeys j cs hj
  obtain⟨b,c,e,r1,r2,r3,r4,r5,r6,r7⟩:=h.bxs.1 j0 cs0 q1;have hj0:j0≠k':=hkeys _ (jI _ _ _ q1);refine⟨b,c,e,?_,r2,r3,dX r4 fun x hx v=>US h1 h2 ((xw hn j0 cs0 q1).2 x hx),r5,r6,kT (rb_nilp _ _) r7⟩;show(if(if j0=k then k' else j0)=k' then g.β k else g.β (if j0=k then k' else j0))=some b;by_cases hjk:j0=k
  ·subst hjk;simp[r1]
  ·rw[if_neg hjk,if_neg hj0];exact r1
 ·obtain⟨j0,cs0,q1,_,rfl⟩:=uK s.bx hkeys j cs hj
  obtain⟨j1,cs1,q2,_,rfl⟩:=uK s.bx hkeys j' cs' hj';have hj0:j0≠k':=hkeys _ (jI _ _ _ q1);have hj1:j1≠k':=hkeys _ (jI _ _ _ q2);have e0: ∀j,j≠k'→(if(if j=k then k' else j)=k' then g.β k else g.β (if j=k then k' else j))=g.β j:=by
   intro j hj;by_cases hjk:j=k
   ·subst hjk;simp
   ·rw[if_neg hjk,if_neg hj]
  have hb:(if(if j0=k then k' else j0)=k' then g.β k else g.β (if j0=k then k' else j0))=(if(if j1=k then k' else j1)=k' then g.β k else g.β (if j1=k then k' else j1)):=hb;rw[e0 j0 hj0,e0 j1 hj1] at hb;rw[h.bxs.2 j0 j1 cs0 cs1 q1 q2 hb]
 ·show(if j=k' then g.β k else g.β j)=(if j=k' then g.β k else B.β j)
  split
  ·rfl
  ·exact h.ext.2.2 j hj
 ·obtain⟨j0,cs0,q1,_,rfl⟩:=uK s.bx hkeys j cs hj
  have hj0:j0≠k':=hkeys _ (jI _ _ _ q1);have hβ:(if(if j0=k then k' else j0)=k' then g.β k else g.β (if j0=k then k' else j0))=some b:=hβ;refine h.zb j0 cs0 L v e sz b q1 hL hb ?_;by_cases hjk:j0=k
  ·subst hjk;simpa using hβ
  ·rw[if_neg hjk,if_neg hj0] at hβ;exact hβ
theorem OV {G0:aQ} {w0:World} {a:Act} {w:World}: ∀(bR:List V) (j:Nat) (B:Own) (s s':St) (g:Gh) (cv:List Value),Inv E B G0 w0 s g a w→rZ j bR s=some s'→PW (bM g) bR cv→
  ∃B' g',B'.m=B.m∧B'.n=B.n∧B'.df=B.df∧(∀k,k<HL+5000+j→B'.β k=B.β k)∧(∀i v,cv[i]? =some v→ ∃b,B'.β (HL+5000+j+i)=some b∧v=.pointer (some ⟨b,0,none⟩))∧Inv E B' G0 w0 s' g' a w
 |[],j,B,s,s',g,cv,h,hr,hp=>by
  simp only[rZ,Option.some.injEq] at hr;subst hr;rw[hp.cZ];exact⟨B,g,rfl,rfl,rfl,fun _ _=>rfl,fun i v hv=>by simp at hv,h⟩
 |x::bR,j,B,s,s',g,cv,h,hr,hp=>by
  cases x with
  |box k off=>
   cases off with
   |succ n=>cases hr
   |zero=>
   unfold rZ at hr;obtain⟨hc,hr⟩:=aF hr;rw[Bool.and_eq_true] at hc;have hkl:=jq hc.2;obtain⟨v,t,rfl,⟨b,hb,hv⟩,ht⟩:=hp.cons_inv;have hk:k≠HL+5000+j:=by omega
   have h1:=h.rb hc.1 hk;have ht':PW (bM {g with β:=fun i=>if i=HL+5000+j then g.β k else g.β i}) bR t:=by
    refine caps_pw (s:=s.rb k (HL+5000+j)) bR (j+1) hr ht fun i hi=>?_
    show(if i=HL+5000+j then g.β k else g.β i)=g.β i;rw[if_neg (by omega)]
   obtain⟨B',g',m1,m2,m3,m4,m5,m6⟩:=OV bR (j+1) _ _ s' _ t h1 hr ht';refine⟨B',g',m1,m2,m3,fun i hi=>?_,fun i u hu=>?_,m6⟩
   ·rw[m4 i (by omega)]
    show(if i=HL+5000+j then g.β k else B.β i)=B.β i;rw[if_neg (by omega)]
   ·cases i with
    |zero=>
     simp only[List.getElem?_cons_zero,Option.some.injEq] at hu;subst hu;refine⟨b,?_,hv⟩;rw[Nat.add_zero,m4 (HL+5000+j) (by omega)];show(if HL+5000+j=HL+5000+j then g.β k else _)=some b;rw[if_pos rfl];exact hb
    |succ i=>
     simp only[List.getElem?_cons_succ] at hu;obtain⟨b',q1,q2⟩:=m5 i u hu;exact⟨b',by rw[←q1];congr 1;omega,q2⟩
  |_=>cases hr
where
 caps_pw {g:Gh} {β':Nat→Option Nat} {s s':St}: ∀(bR:List V) (j:Nat),rZ j bR s=some s'→ ∀{t:List Value},PW (bM g) bR t→(∀i,i<HL→β' i=g.β i)→PW (bM {g with β:=β'}) bR t:=by
  intro bR;induction bR generalizing s with
  |nil=>intro j _ t hp _;rw[hp.cZ];exact .nil
  |cons x bR ih=>
   intro j hr t hp hβ;obtain⟨v,t,rfl,h1,h2⟩:=hp.cons_inv
   cases x with
   |box k off=>
    cases off with
    |succ n=>cases hr
    |zero=>
     unfold rZ at hr;obtain⟨hc,hr⟩:=aF hr;rw[Bool.and_eq_true] at hc;obtain⟨b,hb,hv⟩:=h1;exact .cons ⟨b,(hβ k (jq hc.2)).trans hb,hv⟩ (ih (j+1) hr h2 hβ)
   |_=>cases hr
theorem Iz {g:Gh}: ∀(bR:List V) (j:Nat) (cv:List Value),bR.length=cv.length→(∀i v,cv[i]? =some v→ ∃b,g.β (HL+5000+j+i)=some b∧v=.pointer (some ⟨b,0,none⟩))→PW (Lv g) (kY j bR) cv
 |[],j,cv,hl,_=>by
  have:cv=[]:=List.eq_nil_of_length_eq_zero hl.symm;rw[this];exact .nil
 |x::bR,j,[],hl,_=>by simp at hl
 |x::bR,j,v::cv,hl,h=>by
  unfold kY;obtain⟨b,h1,h2⟩:=h 0 v rfl;refine .cons (.inr ⟨b,by simpa using h1,h2⟩) (Iz bR (j+1) cv (by simpa using hl) fun i u hu=>?_);obtain⟨b',q1,q2⟩:=h (i+1) u (by simpa using hu);exact⟨b',by rw[←q1];congr 1;omega,q2⟩
theorem UT: ∀(args:List V) (j:Nat) {a b:Nat},(a,b)∈jN j args→a<HL+j+args.length
 |[],j,a,b,h=>by cases h
 |x::args,j,a,b,h=>by
  have rest:(a,b)∈jN (j+1) args→a<HL+j+(x::args).length:=fun h=>by have:=UT args (j+1) h;rw[List.length_cons];omega
  cases x with
  |bxa off cs=>
   unfold jN at h;rcases List.mem_cons.1 h with h|h
   ·simp only[Prod.mk.injEq] at h
    obtain⟨rfl,rfl⟩:=h;rw[List.length_cons];omega
   ·exact rest h
  |_=>exact rest h
theorem Nj (hE:vT E) {id:Nat} (hb:jO E.P id=true) (args:Array Value) (w:World):(callFunc id args).run E.P w=.ok (.enter id args) w:=by
 unfold jO at hb;split at hb
 ·rename_i fn hfn
  have hname:fn.name≠ "runtime.NumGoroutine" :=by
   have:=Array.all_eq_true_iff_forall_mem.1 hE.names fn (Array.mem_of_getElem? hfn);have hbn:fn.body.isNone=false:=by cases hq:fn.body with|none=>rw[hq] at hb;cases hb|some _=>rfl
   rw[hbn] at this;simpa using this
  obtain⟨bd,hbd⟩:=Option.isSome_iff_exists.1 hb;simp[callFunc,hfn,hname,hbd]
 ·cases hb
theorem oC {args:List V} (hh:handed args=false):bV 0 args=args∧dU 0 args=[]:=by
 have: ∀(l:List V) (j:Nat),handed l=false→bV j l=l∧dU j l=[]:=by
  intro l;induction l with
  |nil=>intro j _;exact⟨rfl,rfl⟩
  |cons x l ih=>
   intro j h;unfold handed at h;rw[List.any_cons,Bool.or_eq_false_iff] at h;obtain⟨h1,h2⟩:=ih (j+1) h.2
   cases x with
   |bxa off cs=>cases h.1
   |_=>exact⟨by unfold bV;rw[h1];rfl,h2⟩
 exact this args 0 hh
def DfEnd (E:Env) (fn:Func) (gf:Nat) (bR args:List V) (B:Own) (g:Gh) (R:Ending→World→Prop) (e3:Ex) (s3:St) (w:World):Prop:=
 ∃(rec:V) (as:List V) (mb ml:List (Nat×Nat)) (Φ:V→List (List V)→Prop),((rec=.nilif∧(e3=.norm∨e3=.ret))∨ ∃u,e3=.qo rec∧cO rec=some u)∧
  qC s3.bx 0 (kY 0 bR)=some (as,mb,ml)∧qB mb ml=true∧jO E.P gf=true∧DC E gf as rec Φ∧ ∀x0 NQ,Φ x0 NQ→ ∃s4,qF s3 none mb ml x0 NQ=some s4∧
  ∀B4 g4 a4 w4,B.m=B4.m→B.n=B4.n→(∀a b,(a,b)∈jN 0 args→B.β a=B4.β a)→Inv E B4 g.G w s4 g4 a4 w4→ ∃v,(results fn a4.tmps).run E.P w4=.ok v w4∧R (.returned v) w4
theorem xx (hE:vT E) {α:Type} {call:Caller α} (ih:l9 E call) {fuel f:Nat} {fn:Func} {cA cB:Code} {id:Nat} {o1 o2:Oper} {cl:Call} {t gf:Nat} {first ccaps:Array Operand} {bR args:List V}
  (hfn:E.P.funcs[f]? =some fn) (hb:fn.body=some (.seq cA (.seq (.region id #[o1,o2] false) cB))) (hg1:o1.guard=none) (hd1:o1.dst=some t) (hop2:o2.op=.defer cl) (hg2:o2.guard=none) (hd2:o2.dst=none)
  (lV:cl.callee=.value (.tmp t)) (mW:cl.args.toList=[]) {s1 s2:St}
  (hl1:Za E cA ⟨Bo fn (bV 0 args),dU 0 args⟩ .norm s1) (Ob:EV E s1.fr s1.bx o1=some (true,.val (.fn gf bR))) (htl:t<s1.fr.length) (hal:args.length<5000) (hgA:Nat.blt gf zP=true)
  (A7:rZ 0 bR (s1.put (some t) (.fn gf bR))=some s2)
  {B:Own} {g:Gh} {w:World} {us:List Value} {R:Ending→World→Prop} (hdf:B.df=[]) (hi:Inv E B g.G w ⟨bV 0 args,dU 0 args⟩ g ⟨us.toArray,[]⟩ w)
  (hl3: ∀(B2:Own) (G0:aQ) (w0:World) (g5:Gh) (a5:Act) (w1:World),Inv E B2 G0 w0 s2 g5 a5 w1→ ∀Q:Exit→Act→World→Prop,(∀e3 s3 g' a' w',DfEnd E fn gf bR args B g R e3 s3 w→Inv E B2 G0 w0 s3 g' a' w'→Q (N9 e3) a' w')→cB.wp E.P Q a5 w1):Calls E.P f us.toArray w R:=by
 refine calls_of_wp_defers hfn hb ?_;refine wp_seq (hl1 B g.G w g _ w (ny (fn:=fn) hi) _ fun g1 a1 w1 hi1=>?_);refine wp_seq (wp_region ?_);have hlist:List.range (#[o1,o2]:Array Oper).size=[0,1]:=rfl;rw[hlist];have hdo:=jT (ac:=a1) (B:=B) (w:=w1) (g:=g1) (o:=o1) hE rfl hi1.gok hi1.own hi1.bxs hi1.hB hi1.m1 (fun y=>fo hi1.fr hi1.oh y) Ob;obtain⟨fv,Y5,hfv⟩:=hdo;obtain⟨cv,hcv0,hpc⟩:=hfv;rw[Bp hgA] at hcv0;subst hcv0;have hi2:=hi1.put (some t) (v:=.fn gf bR) (u:=.func (.func gf) #[] cv.toArray) ⟨cv,(Bp hgA).symm,hpc⟩;obtain⟨B',g',m1,m2,m3,m4,m5,hi2'⟩:=OV bR 0 B _ s2 g1 cv hi2 A7 hpc;unfold wpOps;simp only[List.getElem?_toArray,List.getElem?_cons_zero];have hw1: ∀y,Region.wanted o1 y=true:=fun y=>by unfold Region.wanted;rw[hg1]
 have hw2: ∀y,Region.wanted o2 y=true:=fun y=>by unfold Region.wanted;rw[hg2]
 rw[if_pos (hw1 _)];refine .inl ?_;unfold Oper.wp;rw[Y5];show wpOps E.P #[o1,o2] _ [1] (a1.put o1.dst _) w1;rw[hd1];unfold wpOps;simp only[List.getElem?_toArray,List.getElem?_cons_succ,List.getElem?_cons_zero];rw[if_pos (hw2 _)];refine .inl ?_;unfold Oper.wp;have htm:(Act.put a1 (some t) (.func (.func gf) #[] cv.toArray)).eval (.tmp t)=.func (.func gf) #[] cv.toArray:=by
  have hlen:t<a1.tmps.size:=by
   have:=hi1.fr.1;rw[Array.length_toList] at this;omega
  show(a1.tmps.setIfInBounds t _).getD t undef=_;simp[Array.getD,hlen]
 have Uj:(execOp (Act.put a1 (some t) (.func (.func gf) #[] cv.toArray)).eval o2).run E.P w1=.ok (.defer {target:=.fn (.func gf) cv.toArray,args:= #[]}) w1:=by
  obtain⟨callee,kK,cts⟩:=cl;simp only at lV mW;subst lV;obtain rfl:kK= #[]:=by rw[←Array.toList_inj];simpa using mW
  simp only[execOp,hop2,resolve,Deferred.ofValue,htm];simp
 rw[Uj];rw[Oper.upon_defer,hd2];unfold wpOps;have hdf1:a1.defers=[]:=hi1.df.trans hdf;have hi3:=hi2'.redf [{target:=.fn (.func gf) cv.toArray,args:= #[]}];have e1:(Act.put a1 (some t) (.func (.func gf) #[] cv.toArray)).defers=[]:=hdf1;rw[e1];refine hl3 _ g.G w _ _ w1 hi3 _ fun e3 s3 g3 a3 w3 hP hi3=>?_
 obtain⟨rec,as,mb,ml,Φ,hrec,ul,EW,hbg,Yp,hall⟩:=hP;have hleave: ∀u,UO rec u→Leaves E.P fn a3.tmps R a3.defers u w3:=by
  intro u hu;have hd3:a3.defers=[{target:=.fn (.func gf) cv.toArray,args:= #[]}]:=hi3.df;rw[hd3];have hcv:PW (Lv g3) (kY 0 bR) cv:=Iz bR 0 cv hpc.1 fun i v hv=>by
   obtain⟨b,q1,q2⟩:=m5 i v hv;exact⟨b,by rw[hi3.ext.2.2 _ (by omega)];exact q1,q2⟩
  have hent:=qU hi3 hcv ul EW;have hrun:u≠.run:=by
   rcases hu with⟨_,rfl⟩|⟨q,_,rfl⟩
   ·intro e;cases e
   ·intro e;cases e
  refine leaves_cons (f:=gf) (args:=cv.toArray) hrun ?_ ?_
  ·show(callFunc gf (#[]++cv.toArray)).run E.P w3=_
   rw[Nj hE hbg];simp
  ·refine CallsD.mono (Yp (zo g3 w3 mb ml) (rW g3 mb ml) w3 cv rfl hent u hu) ?_
   rintro e u' w4 ⟨x0,NQ,g4,v4,hΦ,⟨v',rfl⟩,hset,hx⟩;obtain⟨s4,hback,hfin⟩:=hall x0 NQ hΦ;obtain⟨g5,h5⟩:=Dn hi3 ul EW hback hx;have hkeep: ∀a b,(a,b)∈jN 0 args→B.β a=B'.β a:=fun a b hab=>by
    have h6:=UT args 0 hab;exact(m4 a (by generalize HL=H at*;omega)).symm
   obtain⟨v,hv1,hv2⟩:=hfin {B' with df:=[{target:=.fn (.func gf) cv.toArray,args:= #[]}]} g5 a3 w4 m1.symm m2.symm hkeep h5;show Leaves E.P fn a3.tmps R [] (settle u') w4;rw[hset];exact⟨v,hv1,hv2⟩
 rcases hrec with⟨rfl,hee⟩|⟨u,rfl,hu⟩
 ·rcases hee with rfl|rfl
  ·exact hleave .returning (.inl ⟨rfl,rfl⟩)
  ·exact hleave .returning (.inl ⟨rfl,rfl⟩)
 ·show bodyPostD E.P fn R (.panic [{v:=(cO rec).getD undef,recovered:=false}]) a3 w3
  rw[hu];exact hleave _ (.inr ⟨u,hu,rfl⟩)
theorem OW (hE:vT E) {α:Type} {call:Caller α} (ih:l9 E call) (fuel:Nat):l9 E (Gf false E call fuel):=by
 intro f args K r h;unfold Gf at h;split at h
 ·cases h
 ·rename_i fn hfn
  split at h
  ·rename_i c args' hb hargs
   have ha:=hargs;rw[BJ hargs] at h ha;clear hargs args';split at h
   ·
    obtain⟨e,s',he,hl⟩:=jb hE ih _ rfl fuel c _ _ r h;rw[FE] at he;obtain⟨v,hK,hv⟩:=lQ he;refine⟨v,hK,?_⟩;rcases hv with⟨ho,hh,hee,hret⟩|⟨x,bs,rfl,hee,hfin⟩|⟨x,bs,u,rfl,⟨y,rfl,hu⟩,hfin⟩
    ·refine .inl ⟨ho,jr ha hh fun B g w us hdf hi=>calls_of_wp hfn hb ?_⟩
     have hst:=ny (fn:=fn) hi;rw[(oC hh).1,(oC hh).2] at hl;refine hl B g.G w g _ w hst _ fun g' a' w' hi'=>?_
     obtain⟨u,g2,hrun,hfo,hres⟩:=hret (B2:=B) rfl rfl hi';have uS:=hi'.df.trans hdf;rw[hdf] at hfo;rcases hee with rfl|rfl
     ·exact⟨uS,_,hrun,_,g2,rfl,hfo,hres⟩
     ·exact⟨uS,_,hrun,_,g2,rfl,hfo,hres⟩
    ·refine .inr (.inl ⟨false,x,bs,rfl,fun B g w us hdf hi=>calls_of_wp hfn hb ?_⟩)
     refine hl B g.G w g _ w (ny (fn:=fn) hi) _ fun g' a' w' hi'=>?_
     obtain⟨u,g2,hrun,h2⟩:=hfin rfl rfl hdf (fun _ _ _=>rfl) hi';have uS:=hi'.df.trans hdf;rcases hee with rfl|rfl
     ·exact⟨uS,_,hrun,g2,_,rfl,h2⟩
     ·exact⟨uS,_,hrun,g2,_,rfl,h2⟩
    ·refine .inr (.inl ⟨true,x,bs,rfl,fun B g w us hdf hi=>calls_of_wp hfn hb ?_⟩)
     refine hl B g.G w g _ w (ny (fn:=fn) hi) _ fun g' a' w' hi'=>?_
     obtain⟨g2,h2⟩:=hfin rfl rfl hdf (fun _ _ _=>rfl) hi';have uS:=hi'.df.trans hdf;show bodyPost E.P fn _ (.panic [{v:=(cO y).getD undef,recovered:=false}]) a' w';rw[hu];exact⟨uS,g2,_,rfl,h2⟩
   ·
    rename_i cA o1 o2 cB hsplit;obtain⟨id,rfl⟩:=Iy hsplit;split at h
    ·rename_i gf first ccaps t cl hop1 hg1 hd1 hop2 hg2 hd2
     split at h
     ·rename_i t' lV mW
      have hcond:=aF h;obtain⟨htt,h9⟩:=hcond;clear h;have htt:t=t':=by simpa using htt
      subst htt;obtain⟨e1,s1,he1,hl1⟩:=jb hE ih _ rfl fuel cA _ _ r h9
      cases e1 with
      |exit id=>cases he1
      |ret=>cases he1
      |qo v=>cases he1
      |norm=>
      simp only at he1;split at he1
      ·rename_i g' bR Ob
       obtain⟨hc1,he2⟩:=aF he1;clear he1;rw[Bool.and_eq_true,Bool.and_eq_true] at hc1;obtain⟨⟨hgg,htl⟩,hal⟩:=hc1;obtain⟨hal,hgA⟩:=Bool.and_eq_true_iff.1 hal;have hgg:g'=gf:=by simpa using hgg
       subst hgg;have htl:=jq htl;obtain⟨hal,hgA⟩:=Bool.and_eq_true_iff.1 hal;have hal:=jq hal;split at he2
       ·rename_i s2 A7
        obtain⟨e3,s3,NR,hl3⟩:=jb hE ih _ rfl fuel cB _ _ r he2;have hdk: ∃rec,dfK false E call fuel fn g' (kY 0 bR) (rV args) K rec s3=some r∧((rec=.nilif∧(e3=.norm∨e3=.ret))∨ ∃u,e3=.qo rec∧cO rec=some u):=by
         cases e3 with
         |norm=>exact⟨.nilif,NR,.inl ⟨rfl,.inl rfl⟩⟩
         |ret=>exact⟨.nilif,NR,.inl ⟨rfl,.inr rfl⟩⟩
         |exit id=>cases NR
         |qo v=>
          have NR:(match cO v with|some _=>dfK false E call fuel fn g' (kY 0 bR) (rV args) K v s3|none=>none)=some r:=NR;split at NR
          ·rename_i u hu;exact⟨v,NR,.inr ⟨u,rfl,hu⟩⟩
          ·cases NR
        obtain⟨rec,hdk,hrec⟩:=hdk;unfold dfK at hdk;split at hdk
        ·rename_i as mb ml ul
         obtain⟨EW,hdk2⟩:=aF hdk;obtain⟨hbg,x0,NQ,hKc,Yp⟩:=Wq hE ih hdk2;simp only at hKc;split at hKc
         ·rename_i s4 hback
          rw[FE] at hKc;obtain⟨v,hK,hv⟩:=lQ hKc;refine⟨v,hK,?_⟩;rcases hv with⟨ho,hh,hee,hret⟩|⟨x,bs,rfl,hee,hfin⟩|⟨x,bs,u,rfl,⟨y,hy,hu⟩,hfin⟩
          ·refine .inl ⟨ho,jr ha hh fun B g w us hdf hi=>?_⟩
           have hi0:Inv E B g.G w ⟨bV 0 args,dU 0 args⟩ g ⟨us.toArray,[]⟩ w:=by rw[(oC hh).1,(oC hh).2];exact hi
           refine xx hE ih hfn hb hg1 hd1 hop2 hg2 hd2 lV mW hl1 Ob htl hal hgA A7 (fuel:=fuel) (first:=first) (ccaps:=ccaps) hdf hi0 fun B2 G0 w0 g5 a5 w5 hi5 Q hq=>hl3 B2 G0 w0 g5 a5 w5 hi5 Q fun g' a' w' hi'=>hq e3 s3 g' a' w' ⟨rec,as,mb,ml,_,hrec,ul,EW,hbg,Yp,fun _ _ hΦ=>⟨s4,by rw[hΦ.1,hΦ.2];exact hback,fun B4 g4 a4 w4 q1 q2 q3 hi4=>?_⟩⟩ hi'
           obtain⟨u,g2,hrun,hfo,hres⟩:=hret (B2:=B) q1 q2 hi4;rw[hdf] at hfo;rw[←q1] at hres;exact⟨_,hrun,_,g2,rfl,hfo,hres⟩
          ·refine .inr (.inl ⟨false,x,bs,rfl,fun B g w us hdf hi=>?_⟩)
           refine xx hE ih hfn hb hg1 hd1 hop2 hg2 hd2 lV mW hl1 Ob htl hal hgA A7 (fuel:=fuel) (first:=first) (ccaps:=ccaps) hdf hi fun B2 G0 w0 g5 a5 w5 hi5 Q hq=>hl3 B2 G0 w0 g5 a5 w5 hi5 Q fun g' a' w' hi'=>hq e3 s3 g' a' w' ⟨rec,as,mb,ml,_,hrec,ul,EW,hbg,Yp,fun _ _ hΦ=>⟨s4,by rw[hΦ.1,hΦ.2];exact hback,fun B4 g4 a4 w4 q1 q2 q3 hi4=>?_⟩⟩ hi'
           obtain⟨u,g2,hrun,h2⟩:=hfin q1 q2 hdf q3 hi4;exact⟨_,hrun,g2,_,rfl,h2⟩
          ·cases hy
         ·cases hKc
        ·cases hdk
       ·cases he2
      ·cases he1
     ·cases h
    ·cases h
  ·cases h
def qI:V→V
 | .mK b x y=>match b with|true=>qI x|false=>qI y
 |v=>v
theorem yP {α:Type} {K:V→Option α} {r:α}: ∀v:V,E4 K v=some r→K (qI v)=some r
 | .mK b x y,h=>by
  unfold E4 at h;unfold qI;rcases kU h with⟨rfl,h⟩|⟨rfl,h⟩
  ·exact yP x h
  ·exact yP y h
 | .any,h=>h
 | .bool _,h=>h
 | .int _ _,h=>h
 | .str _,h=>h
 | .agg _,h=>h
 | .tup _,h=>h
 | .nilsl,h=>h
 | .sl _ _ _ _,h=>h
 | .rptr _ _ _,h=>h
 | .box _ _,h=>h
 | .eptr _ _ _ _ _ _,h=>h
 | .fn _ _,h=>h
 | .nilif,h=>h
 | .nilp,h=>h
 | .iface _ _,h=>h
 | .bxa _ _,h=>h
 | .out _ _ _,h=>h
 | .old _,h=>h
 | .slz _ _ _ _ _ _ _ _ _ _,h=>h
 | .epz _ _ _ _ _,h=>h
 | .keep _ _,h=>h
def ZI (E:Env) (f:Nat) (args:List V) (r:V):Prop:=(f<GX→af E f args r)∧(GX≤f→ ∀p x bs,qI r=.out p x bs→XC E (f-GX) args p x bs)∧(KX≤f→ ∀p x,qI r=.keep p x→KC E (f-KX) args p x)
def bF (E:Env) (S:List (Nat×aL)):Prop:=∀f sp,gq S f=some sp→ ∀args r,sp args=some (true,r)→ZI E f args r
theorem bF.nil:bF E []:=fun f sp h=>by cases h
theorem bF.Ze {S:List (Nat×aL)} {f:Nat} {sp:aL} (h: ∀args r,sp args=some (true,r)→ZI E f args r) (hS:bF E S):bF E ((f,sp)::S):=by
 intro g sp' hf args r hr;unfold gq at hf
 cases hg:f==g with
 |true=>
  rw[hg,cond_true] at hf;simp only[Option.some.injEq] at hf;subst hf;have:f=g:=by simpa using hg
  subst this;exact h args r hr
 |false=>
  rw[hg,cond_false] at hf;exact hS g sp' hf args r hr
theorem bF.cons {S:List (Nat×aL)} {f:Nat} {sp:aL} (h: ∀args r,sp args=some (true,r)→af E f args r) (hS:bF E S) (hf:Nat.blt f GX=true:=by rfl):bF E ((f,sp)::S):=
 bF.Ze (fun args r hr=>⟨fun _=>h args r hr,fun hg=>absurd (jq hf) (Nat.not_lt.2 hg),fun hg=>absurd (jq hf) (Nat.not_lt.2 (Nat.le_trans (show GX≤KX by decide) hg))⟩) hS
theorem bF.rX {S:List (Nat×aL)} {f:Nat} {sp:aL} (h: ∀args r,sp args=some (true,r)→ ∀p x bs,qI r=.out p x bs→XC E f args p x bs) (hS:bF E S) (hf:Nat.blt f GX=true:=by rfl):bF E ((GX+f,sp)::S):=
 bF.Ze (fun args r hr=>⟨fun hf=>absurd hf (by omega),fun _ p x bs hc=>by rw[show GX+f-GX=f by omega];exact h args r hr p x bs hc,fun hg=>absurd hg (by have:=jq hf;unfold GX KX at*;omega)⟩) hS
theorem bF.consK {S:List (Nat×aL)} {f:Nat} {sp:aL} (h: ∀args r,sp args=some (true,r)→ ∃p x,qI r=.keep p x∧KC E f args p x) (hS:bF E S):bF E ((KX+f,sp)::S):=
 bF.Ze (fun args r hr=>by
  obtain⟨p',x',h1,h2⟩:=h args r hr;refine⟨fun hf=>absurd hf (by unfold GX KX;omega),fun _ p x bs hc=>?_,fun _ p x hc=>?_⟩
  ·rw[h1] at hc;cases hc
  ·rw[h1] at hc;cases hc
   rw[show KX+f-KX=f by omega];exact h2) hS
theorem UU {g:Gh} {x:V} {v:Value} (h:aM g x v):aM g x.zQ v:=by
 cases x with
 |sl e sh o xs=>exact bW rfl (yL (o:=o) (lH h))
 |old y=>
  show aM g (bif y.fA then y else .any) v
  cases y.fA
  ·exact ja
  ·exact bW h.2.2 h.2.1
 |_=>exact h
theorem xA: ∀(l:List V) (j:Nat),iD l=false→bV j l=l∧dU j l=[]∧ ∀bs,fH j l bs=[]
 |[],_,_=>⟨rfl,rfl,fun _=>rfl⟩
 |x::l,j,h=>by
  unfold iD at h;rw[List.any_cons,Bool.or_eq_false_iff] at h;obtain⟨h1,h2,h3⟩:=xA l (j+1) h.2
  cases x with
  |bxa off cs=>cases h.1
  |_=>exact⟨by unfold bV;rw[h1];rfl,h2,fun bs=>h3 bs⟩
theorem IA (l:List V):iD (l.map V.zQ)=iD l:=by
 unfold iD;rw[List.any_map];congr 1
 funext x
 cases x with
 |old y=>
  show(bif y.fA then y else .any).Ba=false
  cases y with
  |sl e sh o xs=>cases o<;>rfl
  |_=>rfl
 |_=>rfl
theorem xc_unl {f:Nat} {args:List V} {p:Bool} {x:V} {bs:List (List V)} (hb:iD args=false) (h:XC E f (args.map V.zQ) p x bs):XC E f args p x bs:=by
 obtain⟨h1,h2,h3⟩:=xA args 0 hb;obtain⟨k1,k2,k3⟩:=xA (args.map V.zQ) 0 (by rw[IA];exact hb);intro B g w vs hdf hi;rw[h1,h2] at hi;have hi':Inv E B g.G w ⟨bV 0 (args.map V.zQ),dU 0 (args.map V.zQ)⟩ g ⟨vs.toArray,[]⟩ w:=by
  rw[k1,k2];exact hi.less (dX hi.fr fun y _ v hv=>UU hv) (fun k cs hk=>hk)
 have:=h B g w vs hdf hi';rw[k3] at this;rw[h3];exact this
theorem Nk {f:Nat} {args:List V} {r:V} (h:af E f (args.map V.zQ) r):af E f args r:=by
 intro G w vs hG Zd hp;refine h G w vs hG Zd (dX hp fun y _ v hv=>?_)
 cases y with
 |sl e sh o xs=>exact yL (o:=o) hv
 |old y=>unfold aP at hv;exact hv.elim
 |_=>exact hv
theorem unl_unl (args:List V):(args.map V.zQ).map V.zQ=args.map V.zQ:=by
 rw[List.map_map];refine List.map_congr_left fun x _=>?_
 cases x with
 |old y=>
  show(bif y.fA then y else .any).zQ=(bif y.fA then y else .any)
  cases y with
  |sl e sh o xs=>cases o<;>rfl
  |_=>rfl
 |_=>rfl
theorem kc_unl {f:Nat} {args:List V} {p:Bool} {x:V} (hb:iD args=false) (h:KC E f (args.map V.zQ) p x):KC E f args p x:=by
 obtain⟨h1,h2,h3⟩:=xA args 0 hb;obtain⟨k1,k2,k3⟩:=xA (args.map V.zQ) 0 (by rw[IA];exact hb);intro B g w vs hdf hi;rw[h1,h2] at hi;have hi':Inv E B g.G w ⟨bV 0 (args.map V.zQ),dU 0 (args.map V.zQ)⟩ g ⟨vs.toArray,[]⟩ w:=by
  rw[k1,k2];exact hi.less (dX hi.fr fun y _ v hv=>UU hv) (fun k cs hk=>hk)
 exact h B g w vs hdf hi'
theorem OX (hE:vT E) {S:List (Nat×aL)} (hS:bF E S) (fuel:Nat) {α:Type}: ∀d,l9 E (bB (α:=α) E S fuel d):=by
 have caseK: ∀f sp,gq S (KX+f)=some sp→ ∀args (K:V→Option α) r,(match sp args with|some (c,r)=>sel c (E4 (fun v=>match v with| .keep p x=>K (.keep p x)|_=>none) r) none|none=>none)=some r→ ∃v,K v=some r∧FOk E f args v:=by
  intro f sp hf args K r h;split at h
  ·rename_i c v hv
   rcases kU h with⟨rfl,h⟩|⟨_,h⟩
   ·have h2:=yP v h
    split at h2
    ·rename_i p x hch
     have:=(hS _ sp hf args v hv).2.2 (by omega) p x hch;rw[show KX+f-KX=f by omega] at this;exact⟨_,h2,.inr (.inr ⟨p,x,rfl,this⟩)⟩
    ·cases h2
   ·cases h
  ·cases h
 have caseX: ∀f sp,gq S (GX+f)=some sp→ ∀args (K:V→Option α) r,(match sp args with|some (c,r)=>sel c (E4 (fun v=>match v with| .out p x bs=>K (.out p x bs)|_=>none) r) none|none=>none)=some r→ ∃v,K v=some r∧FOk E f args v:=by
  intro f sp hf args K r h;split at h
  ·rename_i c v hv
   rcases kU h with⟨rfl,h⟩|⟨_,h⟩
   ·have h2:=yP v h
    split at h2
    ·rename_i p x bs hch
     have:=(hS _ sp hf args v hv).2.1 (by omega) p x bs hch;rw[show GX+f-GX=f by omega] at this;exact⟨_,h2,.inr (.inl ⟨p,x,bs,rfl,this⟩)⟩
    ·cases h2
   ·cases h
  ·cases h
 have caseP: ∀f sp,gq S f=some sp→f<GX→ ∀args (K:V→Option α) r,(match sp (args.map V.zQ) with|some (c,r)=>sel c (match r with| .out _ _ _=>none| .keep _ _=>none|r=>K r) none|none=>none)=some r→ ∃v,K v=some r∧FOk E f args v:=by
  intro f sp hf hlt args K r h;split at h
  ·rename_i c v hv
   rcases kU h with⟨rfl,h⟩|⟨_,h⟩
   ·have hc:=(hS _ sp hf _ v hv).1 hlt
    split at h
    ·cases h
    ·cases h
    ·rename_i hne hne2
     refine⟨v,h,.inl ⟨?_,hc⟩⟩
     cases v<;>first|rfl|exact absurd rfl (hne _ _ _)|exact absurd rfl (hne2 _ _)
   ·cases h
  ·cases h
 have one: ∀(f:Nat) (args:List V) (K:V→Option α) (r:α) (X:Option α),(X=some r→ ∃v,K v=some r∧FOk E f args v)→(match gq S (KX+f) with
  |some sp=>match sp args with|some (c,r)=>sel c (E4 (fun v=>match v with| .keep p x=>K (.keep p x)|_=>none) r) none|none=>none
  |none=>match gq S (GX+f) with
  |some sp=>match sp args with|some (c,r)=>sel c (E4 (fun v=>match v with| .out p x bs=>K (.out p x bs)|_=>none) r) none|none=>none
  |none=>bif Nat.blt f GX then(match gq S f with
   |some sp=>match sp (args.map V.zQ) with|some (c,r)=>sel c (match r with| .out _ _ _=>none| .keep _ _=>none|r=>K r) none|none=>none
   |none=>X) else none)=some r→ ∃v,K v=some r∧FOk E f args v:=by
  intro f args K r X hX h;split at h
  ·rename_i sp hf;exact caseK f sp hf args K r h
  split at h
  ·rename_i sp hf;exact caseX f sp hf args K r h
  ·obtain⟨hlt,h⟩:=aF h
   split at h
   ·rename_i sp hf;exact caseP f sp hf (jq hlt) args K r h
   ·exact hX h
 intro d;induction d with
 |zero=>
  intro f args K r h;exact one f args K r none (fun h=>by cases h) h
 |succ d ih=>
  intro f args K r h;refine one f args K r _ (fun h=>?_) h;obtain⟨v,hK,hv⟩:=OW hE ih fuel f _ K r h;refine⟨v,hK,?_⟩
  cases hb:iD args with
  |true=>rw[hb,cond_true] at hv;exact hv
  |false=>
   rw[hb,cond_false] at hv;rcases hv with⟨ho,hc⟩|⟨p,x,bs,rfl,hx⟩|⟨p,x,rfl,hx⟩
   ·rw[unl_unl] at hc;exact .inl ⟨ho,hc⟩
   ·exact .inr (.inl ⟨p,x,bs,rfl,xc_unl hb hx⟩)
   ·exact .inr (.inr ⟨p,x,rfl,kc_unl hb hx⟩)
theorem ZJ (hE:vT E) {call:Caller V} (ih:l9 E call) (fuel:Nat) {f:Nat} {args:List V} {r:V} (h:bD E call fuel f args some=some r):FOk E f args r:=by
 have low:Gf false E call fuel f args some=some r→FOk E f args r:=fun h=>by
  obtain⟨v,hK,hv⟩:=OW hE ih fuel f args some r h;simp only[Option.some.injEq] at hK;subst hK;exact hv
 unfold bD at h;by_cases hh:handed args=false;rotate_left
 ·have hh:handed args=true:=by simpa using hh
  refine low ?_;unfold Gf at h⊢
  cases hfn:E.P.funcs[f]? with
  |none=>rw[hfn] at h;cases h
  |some fn=>
   rw[hfn] at h;simp only at h⊢
   cases hargs:Bb args with
   |none=>rw[hargs] at h;split at h<;>rename_i hq<;>first|cases hq|cases h
   |some args'=>
    have hh2:handed args'=true:=by rw[BJ hargs];exact hh
    cases hb:fn.body with
    |none=>rw[hb] at h;cases h
    |some c=>
     simp only[hb,hargs,hh2] at h⊢;exact h
 ·unfold Gf at h
  split at h
  ·cases h
  ·rename_i fn hfn
   split at h
   ·rename_i c args' hb hargs
    have ha:=hargs;rw[BJ hargs] at h ha;split at h
    ·rename_i hsp
     have fin: ∀(B:Own) (g:Gh) (w:World) (us:List Value),Inv E B g.G w ⟨bV 0 args,dU 0 args⟩ g ⟨us.toArray,[]⟩ w→ ∀Q:Exit→Act→World→Prop,(∀e s' g' a' w',Jc E.P fn args some e s'=some r→Inv E B g.G w s' g' a' w'→Q (N9 e) a' w')→c.wp E.P Q (Act.mk (us.toArray++Array.replicate (fn.ntmps-us.toArray.size) undef) []) w:=by
      intro B g w us hi Q hq;refine qH hE ih _ fuel c _ _ r h g _ w (ny (fn:=fn) hi) Q fun e s' g' a' w' he hi'=>?_
      rw[FE] at he;exact hq e s' g' a' w' he hi'
     cases ho:wL r with
     |false=>
      refine .inl ⟨ho,jr ha hh fun B g w us hdf hi=>calls_of_wp hfn hb ?_⟩;refine fin B g w us (by rw[(oC hh).1,(oC hh).2];exact hi) _ fun e s' g' a' w' he hi'=>?_
      obtain⟨v,hK,hv⟩:=lQ he;simp only[Option.some.injEq] at hK;subst hK;rcases hv with⟨_,_,hee,hret⟩|⟨x,bs,rfl,_,_⟩|⟨x,bs,u,rfl,_,_⟩
      ·obtain⟨u,g2,hrun,hfo,hres⟩:=hret (B2:=B) rfl rfl hi'
       have uS:=hi'.df.trans hdf;rw[hdf] at hfo;rcases hee with rfl|rfl
       ·exact⟨uS,_,hrun,_,g2,rfl,hfo,hres⟩
       ·exact⟨uS,_,hrun,_,g2,rfl,hfo,hres⟩
      ·cases ho
      ·cases ho
     |true=>
      cases r with
      |out p x0 NQ=>
       refine .inr (.inl ⟨p,x0,NQ,rfl,fun B g w us hdf hi=>calls_of_wp hfn hb ?_⟩);refine fin B g w us hi _ fun e s' g' a' w' he hi'=>?_
       obtain⟨v,hK,hv⟩:=lQ he;simp only[Option.some.injEq] at hK;subst hK;rcases hv with⟨ho,_⟩|⟨x,bs,hx,hee,hfin⟩|⟨x,bs,u,hx,⟨y,rfl,hu⟩,hfin⟩
       ·cases ho
       ·cases hx
        obtain⟨u,g2,hrun,h2⟩:=hfin rfl rfl hdf (fun _ _ _=>rfl) hi';have uS:=hi'.df.trans hdf;rcases hee with rfl|rfl
        ·exact⟨uS,_,hrun,g2,_,rfl,h2⟩
        ·exact⟨uS,_,hrun,g2,_,rfl,h2⟩
       ·cases hx
        obtain⟨g2,h2⟩:=hfin rfl rfl hdf (fun _ _ _=>rfl) hi';have uS:=hi'.df.trans hdf;show bodyPost E.P fn _ (.panic [{v:=(cO y).getD undef,recovered:=false}]) a' w';rw[hu];exact⟨uS,g2,_,rfl,h2⟩
      |keep p0 x0=>exact .inr (.inr ⟨p0,x0,rfl,fun B g w us hdf hi=>calls_of_wp hfn hb (fin B g w us hi _ fun e s' g' a' w' he hi'=>by
        obtain⟨v,hK,hv⟩:=lQ he;simp only[Option.some.injEq] at hK;subst hK;rcases hv with⟨ho,_⟩|⟨x,bs,hx,_⟩|⟨x,bs,u,hx,_⟩
        ·cases ho
        ·cases hx
        ·cases hx)⟩)
      |_=>cases ho
    ·
     rename_i cA o1 o2 cB hsplit;obtain⟨id,rfl⟩:=Iy hsplit;split at h
     ·rename_i gf first ccaps t cl hop1 hg1 hd1 hop2 hg2 hd2
      split at h
      ·rename_i t' lV mW
       obtain⟨htt,h9⟩:=aF h;clear h;have htt:t=t':=by simpa using htt
       subst htt;obtain⟨e1,s1,he1,hl1⟩:=jb hE ih _ rfl fuel cA _ _ r h9
       cases e1 with
       |exit id=>cases he1
       |ret=>cases he1
       |qo v=>cases he1
       |norm=>
       simp only at he1;split at he1
       ·rename_i g' bR Ob
        obtain⟨hc1,he2⟩:=aF he1;clear he1;rw[Bool.and_eq_true,Bool.and_eq_true] at hc1;obtain⟨⟨hgg,htl⟩,hal⟩:=hc1;obtain⟨hal,hgA⟩:=Bool.and_eq_true_iff.1 hal;have hgg:g'=gf:=by simpa using hgg
        subst hgg;have htl:=jq htl;obtain⟨hal,hgA⟩:=Bool.and_eq_true_iff.1 hal;have hal:=jq hal;split at he2
        ·rename_i s2 A7
         have ends: ∀e3 s3,dfEx (true&& !handed args) E call fuel fn g' (kY 0 bR) (rV args) some e3 s3=some r→ ∃(rec:V) (as:List V) (mb ml:List (Nat×Nat)) (Φ:V→List (List V)→Prop),
           ((rec=.nilif∧(e3=.norm∨e3=.ret))∨ ∃u,e3=.qo rec∧cO rec=some u)∧qC s3.bx 0 (kY 0 bR)=some (as,mb,ml)∧qB mb ml=true∧jO E.P g'=true∧DC E g' as rec Φ∧ ∀x0 NQ,Φ x0 NQ→ ∃s4,qF s3 none mb ml x0 NQ=some s4∧Jc E.P fn args some .ret s4=some r:=by
          intro e3 s3 NR;have hdk: ∃rec,dfK (true&& !handed args) E call fuel fn g' (kY 0 bR) (rV args) some rec s3=some r∧((rec=.nilif∧(e3=.norm∨e3=.ret))∨ ∃u,e3=.qo rec∧cO rec=some u):=by
           cases e3 with
           |norm=>exact⟨.nilif,NR,.inl ⟨rfl,.inl rfl⟩⟩
           |ret=>exact⟨.nilif,NR,.inl ⟨rfl,.inr rfl⟩⟩
           |exit id=>cases NR
           |qo v=>
            have NR:(match cO v with|some _=>dfK (true&& !handed args) E call fuel fn g' (kY 0 bR) (rV args) some v s3|none=>none)=some r:=NR;split at NR
            ·rename_i u hu;exact⟨v,NR,.inr ⟨u,rfl,hu⟩⟩
            ·cases NR
          obtain⟨rec,hdk,hrec⟩:=hdk;unfold dfK at hdk;split at hdk
          ·rename_i as mb ml ul
           obtain⟨EW,hdk2⟩:=aF hdk;obtain⟨hbg,Yp⟩:=clo_cps hE ih hdk2;refine⟨rec,as,mb,ml,_,hrec,ul,EW,hbg,Yp,fun x0 NQ hKc=>?_⟩;simp only at hKc;split at hKc
           ·rename_i s4 hback
            rw[FE] at hKc;exact⟨s4,hback,hKc⟩
           ·cases hKc
          ·cases hdk
         cases ho:wL r with
         |false=>
          refine .inl ⟨ho,jr ha hh fun B g w us hdf hi=>?_⟩;have hi0:Inv E B g.G w ⟨bV 0 args,dU 0 args⟩ g ⟨us.toArray,[]⟩ w:=by rw[(oC hh).1,(oC hh).2];exact hi
          refine xx hE ih hfn hb hg1 hd1 hop2 hg2 hd2 lV mW hl1 Ob htl hal hgA A7 (fuel:=fuel) (first:=first) (ccaps:=ccaps) hdf hi0 fun B2 G0 w0 g5 a5 w5 hi5 Q hq=>qH hE ih _ fuel cB s2 _ r he2 g5 a5 w5 hi5 Q fun e3 s3 g6 a6 w6 hek hi6=>?_
          obtain⟨rec,as,mb,ml,Φ,hrec,ul,EW,hbg,Yp,hall⟩:=ends e3 s3 hek;refine hq e3 s3 g6 a6 w6 ⟨rec,as,mb,ml,Φ,hrec,ul,EW,hbg,Yp,fun x0 NQ hΦ=>(hall x0 NQ hΦ).imp fun s4 hs=>⟨hs.1,fun B4 g4 a4 w4 q1 q2 q3 hi4=>?_⟩⟩ hi6;have hKc:=hs.2;obtain⟨v,hK,hv⟩:=lQ hKc;simp only[Option.some.injEq] at hK;subst hK;rcases hv with⟨_,_,hee,hret⟩|⟨x,bs,rfl,_,_⟩|⟨x,bs,u,rfl,_,_⟩
          ·obtain⟨u,g2,hrun,hfo,hres⟩:=hret (B2:=B) q1 q2 hi4
           rw[hdf] at hfo;rw[←q1] at hres;exact⟨_,hrun,_,g2,rfl,hfo,hres⟩
          ·cases ho
          ·cases ho
         |true=>
          cases r with
          |out p x0' bs0'=>
           refine .inr (.inl ⟨p,x0',bs0',rfl,fun B g w us hdf hi=>?_⟩);refine xx hE ih hfn hb hg1 hd1 hop2 hg2 hd2 lV mW hl1 Ob htl hal hgA A7 (fuel:=fuel) (first:=first) (ccaps:=ccaps) hdf hi fun B2 G0 w0 g5 a5 w5 hi5 Q hq=>qH hE ih _ fuel cB s2 _ _ he2 g5 a5 w5 hi5 Q fun e3 s3 g6 a6 w6 hek hi6=>?_
           obtain⟨rec,as,mb,ml,Φ,hrec,ul,EW,hbg,Yp,hall⟩:=ends e3 s3 hek;refine hq e3 s3 g6 a6 w6 ⟨rec,as,mb,ml,Φ,hrec,ul,EW,hbg,Yp,fun x0 NQ hΦ=>(hall x0 NQ hΦ).imp fun s4 hs=>⟨hs.1,fun B4 g4 a4 w4 q1 q2 q3 hi4=>?_⟩⟩ hi6;have hKc:=hs.2;obtain⟨v,hK,hv⟩:=lQ hKc;simp only[Option.some.injEq] at hK;subst hK;rcases hv with⟨ho,_⟩|⟨x,bs,hx,hee,hfin⟩|⟨x,bs,u,hx,⟨y,hy,hu⟩,hfin⟩
           ·cases ho
           ·cases hx
            obtain⟨u,g2,hrun,h2⟩:=hfin q1 q2 hdf q3 hi4;exact⟨_,hrun,g2,_,rfl,h2⟩
           ·cases hy
          |keep p0 x0'=>exact .inr (.inr ⟨p0,x0',rfl,fun B g w us hdf hi=>by
            refine xx hE ih hfn hb hg1 hd1 hop2 hg2 hd2 lV mW hl1 Ob htl hal hgA A7 (fuel:=fuel) (first:=first) (ccaps:=ccaps) hdf hi fun B2 G0 w0 g5 a5 w5 hi5 Q hq=>qH hE ih _ fuel cB s2 _ _ he2 g5 a5 w5 hi5 Q fun e3 s3 g6 a6 w6 hek hi6=>?_
            obtain⟨rec,as,mb,ml,Φ,hrec,ul,EW,hbg,Yp,hall⟩:=ends e3 s3 hek;refine hq e3 s3 g6 a6 w6 ⟨rec,as,mb,ml,Φ,hrec,ul,EW,hbg,Yp,fun x0 NQ hΦ=>?_⟩ hi6;obtain⟨s4,hback,hKc⟩:=hall x0 NQ hΦ;obtain⟨v,hK,hv⟩:=lQ hKc;simp only[Option.some.injEq] at hK;subst hK;exfalso;rcases hv with⟨ho,_⟩|⟨x,bs,hx,_⟩|⟨x,bs,u,hx,_⟩
            ·cases ho
            ·cases hx
            ·cases hx⟩)
          |_=>cases ho
        ·cases he2
       ·cases he1
      ·cases h
     ·cases h
   ·cases h
theorem ai (hE:vT E) {S:List (Nat×aL)} (hS:bF E S) (fuel d:Nat) {f:Nat} {args:List V} {r:V} (h:bD E (bB E S fuel d) fuel f args some=some r) (hr:wL r=false:=by rfl):af E f args r:=by
 have hc:=ZJ hE (OX hE hS fuel (α:=V) d) fuel h;rcases hc with⟨_,hc⟩|⟨p,x,bs,rfl,_⟩|⟨p,x,rfl,_⟩
 ·exact Nk hc
 ·cases hr
 ·cases hr
theorem nI (hE:vT E) {S:List (Nat×aL)} (hS:bF E S) (fuel d:Nat) {f:Nat} {args:List V} {p:Bool} {x:V} {bs:List (List V)} (h:bD E (bB E S fuel d) fuel f args some=some (.out p x bs)):XC E f args p x bs:=by
 have hc:=ZJ hE (OX hE hS fuel (α:=V) d) fuel h;rcases hc with⟨ho,_⟩|⟨p',x',bs',he,hx⟩|⟨p',x',he,_⟩
 ·cases ho
 ·cases he;exact hx
 ·cases he
end
theorem bI {α:Type} (c:Bool) (a b:α):sel c a b=if c=true then a else b:=by cases c<;>rfl
theorem aj {α:Type} {c:Bool} {a b:α} (h:c=true):sel c a b=a:=by subst h;rfl
theorem aG {α:Type} {c:Bool} {a b:α} (h:c=false):sel c a b=b:=by subst h;rfl
theorem aU (a b:Int):(aK a b=true)=(a<b):=by unfold aK;simp
theorem aA (a b:Int):(ak a b=true)=(a≤b):=by unfold ak;simp
theorem aH (a b:Int):(ieq a b=true)=(a=b):=by unfold ieq;simp
theorem yC (a b:Nat):(nle a b=true)=(a≤b):=by unfold nle;simp
theorem aC (a b:Bool):(av a b=true)=(a=true∧b=true):=by cases a<;>cases b<;>simp[av]
theorem bE (a:Bool):(aB a=true)= ¬(a=true):=by cases a<;>simp[aB]
theorem dH (a b:List UInt8):(seq a b=true)=(a=b):=by unfold seq;simp
theorem Wt (a b:List UInt8):(Ga a b=true)=(a.length+b.length≤1152921504606846976):=by unfold Ga;rw[yC]
theorem Dt (a:List UInt8):(JQ a=true)=(a.length≤1152921504606846976):=by unfold JQ;rw[yC]
theorem nA (a b:List V):(dR a b=true)=(a.length+b.length≤16777216):=by unfold dR;rw[yC]
theorem bq {a b:Int} (h:a<b):aK a b=true:=by rw[aU];exact h
theorem bu {a b:Int} (h:b≤a):aK a b=false:=by unfold aK;simp;omega
theorem bA {a b:Int} (h:a≤b):ak a b=true:=by rw[aA];exact h
theorem zq {a b:Int} (h:b<a):ak a b=false:=by unfold ak;simp;omega
theorem aR {a b:Int} (h:a=b):ieq a b=true:=by rw[aH];exact h
theorem bf {a b:Int} (h:a≠b):ieq a b=false:=by unfold ieq;simpa using h
theorem dh {a b:Int} (h: -9223372036854775808≤a+b∧a+b≤9223372036854775807):bP .i64 a b=a+b:=IntWalk.i64_in _ h
theorem wV {a b:Int} (h: -9223372036854775808≤a-b∧a-b≤9223372036854775807):nP .i64 a b=a-b:=IntWalk.i64_in _ h
theorem L8 {a b:Int} (h: -9223372036854775808≤a*b∧a*b≤9223372036854775807):AZ .i64 a b=a*b:=IntWalk.i64_in _ h
theorem ZK {a:Int} (h: -9223372036854775808≤a∧a≤9223372036854775807):y8 .i64 a=a:=IntWalk.i64_in _ h
theorem ZL {a b:Int} (h:0≤a-b∧a-b≤255):nP .u8 a b=a-b:=IntWalk.u8_in _ h
theorem au (l:List UInt8):ah l=(l.length:Int):=rfl
theorem aI (l:List V):ax l=(l.length:Int):=rfl
theorem mg (l:List UInt8) (i:Nat):sat l (i:Int)=((l.getD i 0).toNat:Int):=rfl
theorem xB (l:List UInt8) (a b:Nat):bU l (a:Int) (b:Int)=(l.drop a).take (b-a):=rfl
theorem uz (l:List V) (i:Nat):aY l (i:Int)=l.getD i .any:=rfl
theorem af.env {E E':Env} {f:Nat} {args:List V} {r:V} (hP:E.P=E'.P) (h: ∀n v,E.glob n=some v→E'.glob n=some v) (c:af E f args r):af E' f args r:=by
 intro G w vs hG hg hp;have:=c G w vs hG (fun n v hv=>hg n v (h n v hv)) hp;rw[hP] at this;exact this
def uP (E:Env) (f:Nat) (args:List V) (r:V):Prop:=∀p x bs,qI r=.out p x bs→XC E f args p x bs
theorem uP.out {E:Env} {f:Nat} {args:List V} {p:Bool} {x:V} {bs:List (List V)} (h:XC E f args p x bs):uP E f args (.out p x bs):=by
 intro p' x' bs' hc
 cases hc;exact h
theorem uP.mK {E:Env} {f:Nat} {args:List V} {c:Bool} {a b:V} (h1:c=true→uP E f args a) (h2:c=false→uP E f args b):uP E f args (.mK c a b):=by
 intro p x bs hc
 cases c with
 |true=>exact h1 rfl p x bs hc
 |false=>exact h2 rfl p x bs hc
theorem Inv.env {E E':Env} {B:Own} {G0:aQ} {w0:World} {s:St} {g:Gh} {a:Act} {w:World} (hP:E.P=E'.P) (hg:oQ E' G0) (h:Inv E B G0 w0 s g a w):Inv E' B G0 w0 s g a w:=
 ⟨h.fr,h.df,h.gok,h.own,hP▸h.bxs,h.mM,h.hB,h.ext,⟨hg,h.glob.2⟩,h.g1,h.zb⟩
theorem XC.env {E E':Env} {f:Nat} {args:List V} {p:Bool} {x:V} {bs:List (List V)} (hP:E.P=E'.P) (h: ∀n v,E.glob n=some v→E'.glob n=some v) (c:XC E f args p x bs):XC E' f args p x bs:=by
 intro B g w vs hdf hi;have hg:=hi.glob.1;have:=c B g w vs hdf (hi.env hP.symm fun n v hv=>hg n v (h n v hv));rw[hP] at this;refine Calls.mono this ?_;rintro e w' ⟨g',v,he,hx⟩;exact⟨g',v,he,hx.env hP hg⟩
theorem uP.env {E E':Env} {f:Nat} {args:List V} {r:V} (hP:E.P=E'.P) (h: ∀n v,E.glob n=some v→E'.glob n=some v) (c:uP E f args r):uP E' f args r:=fun p x bs hc=>(c p x bs hc).env hP h
def vG (w:World):aQ:=fun b=>match w.heap[b]? with|some (.cells c _ _)=>some c.toList|_=>none
theorem aaT (w:World):ze (vG w) w:=by
 intro b l h;unfold vG at h;split at h
 ·rename_i c e fr hc
  simp only[Option.some.injEq] at h;subst h;exact⟨c,e,fr,hc,List.take_length⟩
 ·cases h
def J2 {H:Type} (P:Program):Nat→TypeId→DataW H→Nat→Option V
 |0,_,_,_=>none
 |f+1,t,d,i=>
  match P.underlying t,d with
  |some (.int k),.lit (.int _ n)=>(match i with|0=>some (.int k n)|_=>none)
  |some .bool,.lit (.bool b)=>(match i with|0=>some (.bool b)|_=>none)
  |some .string,.lit (.string l)=>(match i with|0=>some (.str l)|_=>none)
  |some (.struct fs),.agg ds=>(List.range ds.length).findSome? fun j=>
   match fs[j]?,ds[j]? with
   |some fd,some x=>(match Nat.ble fd.offset i&&Nat.blt i (fd.offset+P.cellsOf fd.type) with|true=>J2 P f fd.type x (i-fd.offset)|false=>none)
   |_,_=>none
  |some (.array n e),.agg ds=>(match ds[i/P.cellsOf e]? with|some x=>J2 P f e x (i%P.cellsOf e)|none=>none)
  |_,_=>none
variable {H:Type} {enc:TypeId×Value→H} {P:Program} {w:World} {base:Nat} {spare:Nat→Bool} {held:Bool}
theorem Du (G:aQ): ∀(f:Nat) (t:TypeId) (d:DataW H) (i:Nat) (v:V),J2 P f t d i=some v→ ∀(fuel:Nat) (cs:List Value) (p:List MemPlace),DataW.trod enc P w base spare held fuel t cs=some (d,p)→
  ∃u,cs[i]? =some u∧aP G v u
 |0,_,_,_,_,h,_,_,_,_=>by simp[J2] at h
 |f+1,t,d,i,v,h,fuel,cs,p,hd=>by
  unfold J2 at h;split at h
  ·rename_i k k' n hu
   obtain⟨m,rfl,e,_⟩:=DataW.trod_int hu hd;simp only[Prod.mk.injEq,DataW.lit.injEq,Lit.int.injEq] at e;obtain⟨⟨rfl,rfl⟩,_⟩:=e;split at h
   ·simp only[Option.some.injEq] at h
    subst h;exact⟨_,rfl,by unfold aP;rfl⟩
   ·cases h
  ·rename_i b hu
   obtain⟨m,rfl,e⟩:=DataW.trod_bool hu hd;simp only[Prod.mk.injEq,DataW.lit.injEq,Lit.bool.injEq] at e;obtain⟨rfl,_⟩:=e;split at h
   ·simp only[Option.some.injEq] at h
    subst h;exact⟨_,rfl,by unfold aP;rfl⟩
   ·cases h
  ·rename_i l hu
   obtain⟨s,rfl,e,_⟩:=DataW.trod_string hu hd;simp only[Prod.mk.injEq,DataW.lit.injEq,Lit.string.injEq] at e;obtain⟨rfl,_⟩:=e;split at h
   ·simp only[Option.some.injEq] at h
    subst h;exact⟨_,rfl,by unfold aP;cases s;simp⟩
   ·cases h
  ·rename_i fs ds hu
   obtain⟨xs,m,_,e,hlen,hn,hel⟩:=DataW.trod_struct hu hd;simp only[Prod.mk.injEq,DataW.agg.injEq] at e;obtain⟨j,_,hj⟩:=List.exists_of_findSome?_eq_some h;split at hj
   ·rename_i fd x hfd hx
    split at hj
    ·rename_i hb
     rw[Bool.and_eq_true] at hb;have h1:=Nat.le_of_ble_eq_true hb.1;have h2:i<fd.offset+P.cellsOf fd.type:=by have:=hb.2;rwa [Nat.blt_eq] at this
     rw[e.1,List.getElem?_map] at hx;obtain⟨y,hy,hy1⟩:=Option.map_eq_some_iff.1 hx;have:=hel j fd hfd;rw[hy] at this;obtain⟨u,hu',hr⟩:=Du G f fd.type x _ v hj m _ y.2 (by rw[this,←hy1]);refine⟨u,?_,hr⟩;rw[List.getElem?_take_of_lt (by omega),List.getElem?_drop,show fd.offset+(i-fd.offset)=i by omega] at hu';exact hu'
    ·cases hj
   ·cases hj
  ·rename_i n e ds hu
   obtain⟨xs,m,_,ex,hlen,hn,hel⟩:=DataW.trod_array hu hd;simp only[Prod.mk.injEq,DataW.agg.injEq] at ex;split at h
   ·rename_i x hx
    rw[ex.1,List.getElem?_map] at hx;obtain⟨y,hy,hy1⟩:=Option.map_eq_some_iff.1 hx;have hlt:i/P.cellsOf e<n:=by rw[←hn];exact(List.getElem?_eq_some_iff.1 hy).1
    have:=hel _ hlt;rw[hy] at this;obtain⟨u,hu',hr⟩:=Du G f e x _ v h m _ y.2 (by rw[this,←hy1]);refine⟨u,?_,hr⟩;by_cases h0:P.cellsOf e=0
    ·rw[h0,List.take_zero] at hu'
     cases hu'
    ·rw[List.getElem?_take_of_lt (Nat.mod_lt _ (by omega)),List.getElem?_drop,Nat.mul_comm,Nat.div_add_mod] at hu'
     exact hu'
   ·cases h
  ·cases h
theorem OY {α β:Type} {f:α→Option β}: ∀{l:List α} {ys:List β},l.mapM f=some ys→ys.length=l.length∧ ∀(i:Nat) a y,l[i]? =some a→ys[i]? =some y→f a=some y
 |[],ys,h=>by simp at h;subst h;exact⟨rfl,by simp⟩
 |a::l,ys,h=>by
  rw[List.mapM_cons] at h
  cases ha:f a with
  |none=>rw[ha] at h;cases h
  |some y=>
   rw[ha] at h
   cases hl:l.mapM f with
   |none=>rw[hl] at h;cases h
   |some zs=>
    rw[hl] at h;simp at h;subst h;obtain⟨h1,h2⟩:=OY hl;refine⟨by simp[h1],fun i a' y' h3 h4=>?_⟩
    cases i with
    |zero=>simp at h3 h4;subst h3;subst h4;exact ha
    |succ i=>exact h2 i a' y' (by simpa using h3) (by simpa using h4)
theorem yQ {name:String} {g:Nat} {cs:Array Value} {t:TypeId} {fuel f:Nat} {d:DataW H} {p:List MemPlace} {sh:List Kd} {xs:List V} (hg:P.globalNamed name=some g) (hv:w.var? P name=some cs)
  (hd:DataW.trod enc P w base spare held fuel t cs.toList=some (d,p)) (hx:(List.range sh.length).mapM (J2 P f t d)=some xs) (hf:gM sh (.agg xs)=true):
  aP (vG w) (.rptr sh (.agg xs) 0) (.pointer (some ⟨g,0,none⟩)):=by
 obtain⟨h1,h2⟩:=OY hx;rw[List.length_range] at h1;have hcell: ∀(i:Nat) (x:V),xs[i]? =some x→ ∃u,cs.toList[i]? =some u∧aP (vG w) x u:=by
  intro i x hxi;have hi:i<sh.length:=by rw[←h1];exact(List.getElem?_eq_some_iff.1 hxi).1
  exact Du (vG w) f t d i x (h2 i i x (by rw[List.getElem?_range hi]) hxi) fuel _ p hd
 have hsz:xs.length≤cs.toList.length:=by
  rcases Nat.lt_or_ge cs.toList.length xs.length with hlt|hge
  ·obtain⟨u,hu,_⟩:=hcell cs.toList.length xs[cs.toList.length] (List.getElem?_eq_getElem hlt)
   rw[List.getElem?_eq_none (Nat.le_refl _)] at hu
   cases hu
  ·exact hge
 unfold aP;refine⟨g,0,cs.toList,rfl,?_,hf,.agg (cs.toList.take sh.length).toArray,?_,?_⟩
 ·simp only[World.var?,hg,Option.bind_some] at hv
  split at hv
  ·rename_i c e fr hc
   simp only[Option.some.injEq] at hv;subst hv;unfold vG;rw[hc]
  ·cases hv
 ·unfold aP
  refine⟨_,rfl,?_⟩;rw[fD];refine⟨by rw[List.length_take];omega,fun i x u hxi hui=>?_⟩;obtain⟨u',hu',hr⟩:=hcell i x hxi;have hi:i<sh.length:=by rw[←h1];exact(List.getElem?_eq_some_iff.1 hxi).1
  rw[List.getElem?_take_of_lt hi,hu'] at hui;simp only[Option.some.injEq] at hui;rw[←hui];exact hr
 ·simp[Value.cells]
theorem Wu {g:Nat} {k:IntKind} {m:Int} (h:w.cell? ⟨g,0,none⟩=some (.int k m)):aP (vG w) (.rptr [.int k] (.int k m) 0) (.pointer (some ⟨g,0,none⟩)):=by
 simp only[World.cell?] at h;split at h
 ·rename_i c e fr hc
  unfold aP;refine⟨g,0,c.toList,rfl,by unfold vG;rw[hc],by simp[gM,V.cells,fV,fits,av],.int k m,by unfold aP;rfl,?_⟩;have h0:c.toList[0]? =some (.int k m):=by simpa using h
  cases hc:c.toList with
  |nil=>rw[hc] at h0;cases h0
  |cons a t=>rw[hc] at h0;simp at h0;subst h0;rfl
 ·cases h
theorem Nl {E:Env} {f:Nat} {args:List V} {vs:List Value} (c:af E f args (.bool true)) (hg:oQ E (vG w)) (hp:PW (aP (vG w)) args vs):
  Calls E.P f vs.toArray w fun e w'=>e=.returned (.bool true)∧Below w.heap.size w w':=by
 refine(c (vG w) w vs (aaT w) hg hp).mono ?_;rintro e w' ⟨v,G',rfl,hN,hr⟩;have:v=.bool true:=hr;rw[this];exact⟨rfl,hN.1⟩
end Nt.Ev
