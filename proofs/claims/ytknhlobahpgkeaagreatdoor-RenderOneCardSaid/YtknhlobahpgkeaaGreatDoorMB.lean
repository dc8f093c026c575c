/-
  From operations to states: what an operation's effect leaves true.
-/
import Derived.Test.YtknhlobahpgkeaaGreatDoorMAA
set_option linter.all false
namespace Nt.Ev
open Go Go.RowKit
def tJ:V→Bool
 | .sl _ _ (some _) _=>true
 |_=>false
def nS (G:aU) (w:World) (B:Nat→Prop):V→Value→Prop
 | .sl e sh (some _) xs,v=>iT G w B e sh xs v
 |x,v=>aV G x v
def fP (G:aU) (w:World) (B:Nat→Prop):V→Value→Prop
 | .tup vs,v=>∃a:List Value,v=.tuple a.toArray∧PW (nS G w B) vs a∧vs.countP tJ≤1
 |x,v=>nS G w B x v
def aj (E:Env) (f:Nat) (args:ah) (r:V):Prop:=
 ∀(G:aU) (w:World) (vs:List Value),xU G w→lV E G w→PW (aV G) args vs→
  Calls E.P f vs.toArray w fun e w'=>∃v G',e=.returned v∧New w w' G G'∧fP G' w' (w.heap.size≤ ·) r v
def XC (E:Env) (f:Nat) (args:ah) (p:Bool) (x:V) (bs:List (ah)):Prop:=
 ∀(B:Own) (g:Gh) (w:World) (vs:List Value),B.df=[]→Inv E B g.G w ⟨bR 0 args,dI 0 args⟩ g ⟨vs.toArray,[]⟩ w→
  Calls E.P f vs.toArray w fun e w'=>∃g' v,e=(match p with|false=> .returned v|true=> .panicked [{v:=v,recovered:=false}])∧Inv E B g.G w ⟨[x],fJ 0 args bs⟩ g' ⟨#[v],[]⟩ w'
def keepR (p:Bool) (x:V) (v:Value):Prop:=
 match p with
 |true=>dh x=some v
 |false=>keepV x=true∧(match x with| .tup []=>v=.tuple #[]|x=>aV (fun _=>none) x v)
def KC (E:Env) (f:Nat) (args:ah) (p:Bool) (x:V):Prop:=
 ∀(B:Own) (g:Gh) (w:World) (vs:List Value),B.df=[]→Inv E B g.G w ⟨bR 0 args,dI 0 args⟩ g ⟨vs.toArray,[]⟩ w→
  Calls E.P f vs.toArray w fun e w'=>∃v,e=(match p with|false=> .returned v|true=> .panicked [{v:=v,recovered:=false}])∧keepR p x v∧Below w.heap.size w w'
def GY (E:Env) (m:Bool) (s:St) (d:Option Nat) (eff:Eff) (a:St):Prop:=
 match eff with
 | .val v=>a=s.put d v
 | .newSl e sh xs=>a=s.put d (.sl e sh none xs)
 | .own e sh xs=>∃k,d=some k∧(s.put (some k) .any).bI k=true∧k<HL∧a=s.put (some k) (.sl e sh (some k) xs)
 | .app L e sh xs=>∃k,d=some k∧(s.kill L).bI (fO true L k)=true∧k<HL∧a=(s.kill L).put (some k) (.sl e sh (some (fO true L k)) xs)
 | .nX _ h=>∃k,d=some k∧s.mq k=true∧h.all (fun v=>aL (v.gP k))=true∧k<HL∧a=⟨s.fr.set k (.box k 0),(k,h)::s.bx⟩
 | .put k off h=>∃old,aJ s.bx k=some old∧(nG (over old off h)=true→nG old=true)∧a=St.put ⟨s.fr,xZ s.bx k (over old off h)⟩ d (.tup [])
 | .call f args mb ml=>(iP args=false∧((∃k r,d=some k∧s.bI k=true∧k<HL∧aj E f (args.map V.xS) r∧a=s.put (some k) (r.PY k))∨(∃r,d=none∧aj E f (args.map V.xS) r∧a=s)))∨
  (m=false∧ ∃x bs,XC E f args false x bs∧pq s d mb ml x bs=some a)∨(m=false∧ ∃x,KC E f args false x∧a=s.put d x)
 | .qi _=>False
 | .pick b x y=>a=s.put d (match b with|true=>x|false=>y)
 | .Gn L e k ys=>L<HL∧a=St.put (s.forget.upd L e k ys) d (.tup [])
 | .alts i vs=>∃(j:Nat) (v:V),i=(j:Int)∧vs[j]? =some v∧a=s.put d v
 | .ownz e sh xs c l g=>∃k,d=some k∧(s.put (some k) .any).bI k=true∧(s.put (some k) .any).bI (dz k)=true∧dz k<HL∧a=s.put (some k) (.slz k e sh xs (some (dz k)) 0 c l g [])
 | .appz L e sh xs i c l g=>∃k,d=some k∧(s.kill L).bI (fO true L k)=true∧(s.kill L).bI (dz k)=true∧dz k<HL∧a=(s.kill L).put (some k) (.slz (fO true L k) e sh xs (some (dz k)) i c l g [])
 | .Gp L e sh xs i c L3 l g ys=>a=(s.Cz L e sh xs i c L3 l g ys).put d (.tup [])
def M7 (E:Env) (s:St) (eff:Eff) (v:V) (a:St):Prop:=
 (∃u,dh v=some u)∧match eff with
 | .call f args mb ml=>(∃bs,XC E f args true v bs∧pq s none mb ml v bs=some a)∨(KC E f args true v∧a=s)
 | .qi b=>b=v∧a=s
 |_=>False
def rW:V→Bool
 | .out _ _ _=>true
 | .keep _ _=>true
 |_=>false
def lW (E:Env) {α:Type} (call:Caller α):Prop:=∀f args (K:V→Option α) r,call f args K=some r→ ∃v,K v=some r∧((rW v=false∧aj E f (args.map V.xS) v)∨(∃p x bs,v=.out p x bs∧XC E f args p x bs)∨ ∃p x,v=.keep p x∧KC E f args p x)
theorem K9 {α:Type} {i:Int} {K:V→Option α} {r:α}: ∀(vs:ah) (a:Nat),altK i K a vs=some r→ ∃(j:Nat) (v:V),i=((a+j:Nat):Int)∧vs[j]? =some v∧K v=some r
 |[],a,h=>by cases h
 |v::l,a,h=>by
  unfold altK at h
  cases b:ieq i (a:Int) with
  |true=>
   rw[b] at h;have e:i=(a:Int):=by unfold ieq at b;simpa using b
   exact⟨0,v,by simpa using e,rfl,h⟩
  |false=>rw[b] at h;obtain⟨j,c,g,d,f⟩:=K9 l (a+1) h;exact⟨j+1,c,by rw[g];congr 1;omega,by simpa using d,f⟩
theorem kz {d n:Nat} (h:Nat.blt d n=true):d<n:=by rwa [Gb] at h
theorem effK_rel {E:Env} {α:Type} {call:Caller α} (G:lW E call) {n:Bool} {s:St} {d:Option Nat} {eff:Eff} {K:St→Option α} {KP:V→St→Option α} {r:α} (h:effK n call s d eff K KP=some r):
  (∃l,GY E n s d eff l∧K l=some r)∨(n=false∧ ∃v l,M7 E s eff v l∧KP v l=some r):=by
 cases eff with
 |val v=>exact .inl ⟨_,rfl,h⟩
 |newSl e sh xs=>exact .inl ⟨_,rfl,h⟩
 |own e sh xs=>
  cases d with
  |none=>cases h
  |some k=>obtain⟨a,g⟩:=aP h;rw[bC] at a;exact .inl ⟨_,⟨k,rfl,a.1,kz a.2,rfl⟩,g⟩
 |app L e sh xs=>
  cases d with
  |none=>cases h
  |some k=>obtain⟨a,g⟩:=aP h;rw[bC] at a;exact .inl ⟨_,⟨k,rfl,a.1,kz a.2,rfl⟩,g⟩
 |nX e D=>
  cases d with
  |none=>cases h
  |some k=>obtain⟨a,g⟩:=aP h;rw[bC,bC] at a;exact .inl ⟨_,⟨k,rfl,a.1.1,a.1.2,kz a.2,rfl⟩,g⟩
 |put k off D=>
  unfold effK at h;simp only at h;split at h
  ·rename_i old z;obtain⟨h,C⟩:=T9 h;exact .inl ⟨_,⟨old,z,C,rfl⟩,h⟩
  cases h
 |call f args mb ml=>
  obtain⟨v,a,g⟩:=G f args _ r h;rcases g with⟨z,g⟩|⟨p,x,bs,rfl,g⟩|⟨p,x,rfl,g⟩
  ·have m:(bif iP args then none else(match d with
    |some d=>bif s.bI d&&Nat.blt d HL then K (s.put (some d) (v.PY d)) else none
    |none=>K s))=some r:=by
    cases v<;>first|exact a|cases z
   cases w:iP args with
   |true=>rw[w] at m;cases m
   |false=>
    rw[w,jW] at m
    cases d with
    |none=>exact .inl ⟨s,.inl ⟨w,.inr ⟨v,rfl,g,rfl⟩⟩,m⟩
    |some k=>obtain⟨o,F⟩:=aP m;rw[bC] at o;exact .inl ⟨_,.inl ⟨w,.inl ⟨k,v,rfl,o.1,kz o.2,g,rfl⟩⟩,F⟩
  ·cases n with
   |true=>cases a
   |false=>
    cases p with
    |true=>
     have a:(match pq s none mb ml x bs with
      |some l=>(match dh x with|some _=>KP x l|none=>none)
      |none=>none)=some r:=a
     split at a
     ·rename_i l A
      split at a
      ·rename_i u t
       exact .inr ⟨rfl,x,l,⟨⟨u,t⟩,.inl ⟨bs,g,A⟩⟩,a⟩
      cases a
     cases a
    |false=>
     have a:(match pq s d mb ml x bs with
      |some l=>K l
      |none=>none)=some r:=a
     split at a
     ·rename_i l A
      exact .inl ⟨l,.inr (.inl ⟨rfl,x,bs,g,A⟩),a⟩
     cases a
  cases n with
  |true=>cases a
  |false=>
   cases p with
   |true=>
    have a:(match dh x with|some _=>KP x s|none=>none)=some r:=a;split at a
    ·rename_i u t
     exact .inr ⟨rfl,x,s,⟨⟨u,t⟩,.inr ⟨g,rfl⟩⟩,a⟩
    cases a
   |false=>have a:(bif keepV x then K (s.put d x) else none)=some r:=a;obtain⟨m,o⟩:=aP a;exact .inl ⟨_,.inr (.inr ⟨rfl,x,g,rfl⟩),o⟩
 |qi v=>
  cases n with
  |true=>cases h
  |false=>
   have h:(match dh v with|some _=>KP v s|none=>none)=some r:=h;split at h
   ·rename_i u t
    exact .inr ⟨rfl,v,s,⟨⟨u,t⟩,rfl,rfl⟩,h⟩
   cases h
 |pick b x y=>cases b<;>exact .inl ⟨_,rfl,h⟩
 |Gn L e k ys=>obtain⟨a,g⟩:=aP h;exact .inl ⟨_,⟨kz a,rfl⟩,g⟩
 |alts i vs=>obtain⟨j,v,a,g,m⟩:=K9 vs 0 h;exact .inl ⟨_,⟨j,v,by simpa using a,g,rfl⟩,m⟩
 |ownz e sh xs c B q=>
  cases d with
  |none=>cases h
  |some k=>obtain⟨a,g⟩:=aP h;rw[bC,bC] at a;exact .inl ⟨_,⟨k,rfl,a.1,a.2.1,kz a.2.2,rfl⟩,g⟩
 |appz L e sh xs i c B q=>
  cases d with
  |none=>cases h
  |some k=>obtain⟨a,g⟩:=aP h;rw[bC,bC] at a;exact .inl ⟨_,⟨k,rfl,a.1,a.2.1,kz a.2.2,rfl⟩,g⟩
 |Gp L e sh xs i c L3 B q ys=>exact .inl ⟨_,rfl,h⟩
section
variable {E:Env} {B:Own} {G0:aU} {w0:World} {s:St} {g:Gh} {a:Act} {w:World}
theorem BX (a:Act) (d:Nat) (u:Value):(a.put (some d) u).tmps.toList=a.tmps.toList.set d u:=by simp[Act.put]
theorem Inv.put (h:Inv E B G0 w0 s g a w) (d:Option Nat) {v:V} {u:Value} (b:aT g v u):Inv E B G0 w0 (s.put d v) g (a.put d u) w:=by
 cases d with
 |none=>exact⟨h.fr,h.df,h.gok,h.own,h.bxs,h.lS,h.hB,h.ext,h.glob,h.g1,h.zb⟩
 |some d=>exact⟨by rw[BX];exact h.fr.set d b,h.df,h.gok,h.own,h.bxs,h.lS,h.hB,h.ext,h.glob,h.g1,h.zb⟩
theorem new_more {w':World} {G G':aU} (c:xU G w) (h:New w w' G G'):lN G G':=fun b l a=>⟨l,by rw[h.2.1 b (fw c a)];exact a,Tm _⟩
theorem vO (m:xU g.G w) (j:Ph B g w) {L:Nat} {v:Value} {e d b:Nat} (h:g.O L=some (v,e,d)) (a:v.ownBlock=some b):b<w.heap.size:=by
 rcases(j.1 L v e d h).2 with c|⟨k,n,cap,f,l,c,_,i,_⟩
 ·rw[c] at a;cases a
 rw[c] at a;simp[Value.ownBlock] at a;subst a;exact(Array.getElem?_eq_some_iff.1 i).1
theorem La (k:Ph B g w) {L:Nat} {v:Value} {e f b:Nat} (h:g.O L=some (v,e,f)) (a:v.ownBlock=some b): ∃c e fr,w.heap[b]? =some (.cells c e fr):=by
 rcases(k.1 L v e f h).2 with d|⟨m,n,cap,i,l,d,_,j,_⟩
 ·rw[d] at a;cases a
 rw[d] at a;simp[Value.ownBlock] at a;subst a;exact⟨_,_,_,j⟩
theorem Inv.new {w':World} {G':aU} (h:Inv E B G0 w0 s g a w) (f:New w w' g.G G'):Inv E B G0 w0 s {g with G:=G'} a w'∧Ext g {g with G:=G'}:=by
 have z:=new_more h.gok f;have u:Ext g {g with G:=G'}:=⟨z,fun _ _ h=>h,fun L v e y b hL i=>f.2.1 b (vO h.gok h.own hL i),fun _ _ h=>h,rfl,fun _ _ _=>rfl⟩
 refine⟨⟨h.fr.mono fun x _ v=>rY u,h.df,f.2.2,⟨fun L v e y hL=>?_,h.own.2⟩,⟨fun k F C=>?_,h.bxs.2⟩,h.lS.trans (lq.of_below f.1 h.hB.2),FE h.hB f.1.size,⟨fun b i=>(f.2.1 b (abt fun e=>i (h.hB.2 b e))).trans (h.ext.1 b i),h.ext.2.1.trans z,h.ext.2.2⟩,h.glob,h.g1,h.zb⟩,u⟩
 ·obtain⟨H,A⟩:=h.own.1 L v e y hL
  refine⟨H,A.imp id ?_⟩;rintro⟨b,n,cap,q,l,M,i,m,r,o,t,j,K⟩;have d:=(Array.getElem?_eq_some_iff.1 m).1;exact⟨b,n,cap,q,l,M,i,by rw[f.1.block b d];exact m,r,o,t,j.keep rfl (f.2.1 b d),K⟩
 obtain⟨b,c,e,i,p,m,I,J,j,D⟩:=h.bxs.1 k F C;have d:=(Array.getElem?_eq_some_iff.1 m).1;exact⟨b,c,e,i,p,by rw[f.1.block b d];exact m,I.mono fun x _ v=>rY u,J,by show G' b=_;rw[f.2.1 b d];exact j,D⟩
theorem linkO_O {g:Gh} {O':Nat→Option (Value×Nat×Nat)} {C':Nat→Option (List Value)} {d:Nat} (n: ∀L,L≠d→O' L=g.O L) {l:List Value} {j:Nat} {b:Option Nat} {i:Int} {c k:Nat} {a:List Kd} {ys:ah} (p:lkO d b=false) (h:rU g l j b i c k a ys):rU {g with O:=O',C:=C'} l j b i c k a ys:=by
 cases b with
 |none=>trivial
 |some L2=>
  have f:L2≠d:=fun e=>by subst e;simp[lkO] at p
  obtain⟨o,q,m⟩:=h;exact⟨o,(n L2 f).trans q,m⟩
theorem Ub {g:Gh} {O':Nat→Option (Value×Nat×Nat)} {C':Nat→Option (List Value)} {d:Nat} (m: ∀L,L≠d→O' L=g.O L) (p: ∀L,L≠d→C' L=g.C L) {x:V} {v:Value} (f:jy d x=false) (h:bP g x v):bP {g with O:=O',C:=C'} x v:=by
 cases x with
 |sl e sh t xs=>
  cases t with
  |none=>exact h
  |some L=>
   have a:L≠d:=fun e=>by subst e;simp[jy] at f
   exact⟨(m L a).trans h.1,h.2⟩
 |eptr L e sh xs i off=>
  have a:L≠d:=fun e=>by subst e;simp[jy] at f
  obtain⟨o,b,k,j⟩:=h;exact⟨o,b,(m L a).trans k,j⟩
 |slz L e sh xs r i c u s ys=>
  have f:(d==L||lkO d r)=false:=f;rw[EY] at f;have a:L≠d:=fun e=>by subst e;simp at f
  obtain⟨l,k,j,n,q⟩:=h;exact⟨l,(m L a).trans k,(p L a).trans j,n,linkO_O m f.2 q⟩
 |epz L e w i off=>
  have a:L≠d:=fun e=>by subst e;simp[jy] at f
  obtain⟨o,b,l,k,j,n⟩:=h;exact⟨o,b,l,(m L a).trans k,(p L a).trans j,n⟩
 |_=>exact h
theorem M8 {g:Gh} {O':Nat→Option (Value×Nat×Nat)} {C':Nat→Option (List Value)} {d:Nat} (k: ∀L,L≠d→O' L=g.O L) (e: ∀L,L≠d→C' L=g.C L) {x:V} {v:Value} (b:x.dP d=false) (h:aT g x v):aT {g with O:=O',C:=C'} x v:=by
 cases x with
 |tup vs=>obtain⟨a,rfl,h⟩:=h;simp only[V.dP,abw] at b;exact⟨a,rfl,h.mono fun y i v j=>Ub k e (by have:=b y i;simpa using this) j⟩
 |fn f c=>obtain⟨a,rfl,h⟩:=h;simp only[V.dP,abw] at b;exact⟨a,rfl,h.mono fun y i v j=>Ub k e (by have:=b y i;simpa using this) j⟩
 |_=>simp only[aT] at h⊢;exact Ub k e b h
theorem fM {b:Bool} (h:aL b=true):b=false:=by cases b;rfl;cases h
theorem ul {d:Nat} (h:s.bI d=true): ∀x∈s.fr,x.dP d=false:=by unfold St.bI at h;rw[bC,l8] at h;exact fun x a=>fM (h.1 x a)
theorem jS: ∀(l:List (Nat×ah)) (k:Nat) (a:ah),aJ l k=some a→(k,a)∈l
 |[],k,a,h=>by cases h
 |(j,c)::l,k,a,h=>by
  unfold aJ at h
  cases b:j==k with
  |true=>rw[b] at h;simp only[lm,aR] at h;rw[iM] at b;subst b;subst h;exact uY
  |false=>rw[b] at h;simp only[jW] at h;exact wN _ (jS l k a h)
theorem zJ {d:Nat} (h:s.bI d=true): ∀k a,aJ s.bx k=some a→ ∀x∈a,x.dP d=false:=by intro k a c x e;unfold St.bI at h;rw[bC,l8,l8] at h;have b:=h.2 _ (jS _ _ _ c);simp only[l8] at b;exact fM (b x e)
theorem RX {d:Nat} (h:s.bI d=true):(s.put (some d) .any).bI d=true:=by
 unfold St.bI at h⊢;rw[bC,l8] at h⊢;refine⟨fun x b=>?_,h.2⟩;rcases List.mem_or_eq_of_mem_set b with a|rfl
 ·exact h.1 x a
 rfl
theorem Inv.Uc (h:Inv E B G0 w0 s g a w) {d e:Nat} {sh:List Kd} {xs:ah} {u:Value} (hd:s.bI d=true) (q:iT g.G w (B.ok d) e sh xs u)
  (R: ∀L v e j b,g.O L=some (v,e,j)→L≠d→v.ownBlock=some b→u.ownBlock≠some b):
  ∃g',g'.G=g.G∧Inv E B G0 w0 s g' a w∧bP g' (.sl e sh (some d) xs) u∧ ∀L,L≠d→g'.O L=g.O L∧g'.C L=g.C L:=by
 let O':Nat→Option (Value×Nat×Nat):=fun L=>if L=d then some (u,e,sh.length) else g.O L
 let C':Nat→Option (List Value):=fun L=>if L=d then none else g.C L
 have i: ∀L,L≠d→O' L=g.O L:=fun L hL=>if_neg hL
 have z: ∀L,L≠d→C' L=g.C L:=fun L hL=>if_neg hL
 have hbG: ∀k t b,aJ s.bx k=some t→g.β k=some b→g.G b=none:=fun k t b K f=>by obtain⟨b',_,_,W,_,_,_,_,q6,_⟩:=h.bxs.1 k t K;rw[f] at W;simp only[aR] at W;rw[W];exact q6
 refine⟨{g with O:=O',C:=C'},rfl,⟨h.fr.mono fun x T v=>M8 i z (ul hd x T),h.df,h.gok,⟨?_,?_⟩,⟨fun k t K=>?_,h.bxs.2⟩,h.lS,h.hB,h.ext,h.glob,h.g1,?_⟩,⟨if_pos rfl,?_⟩,fun L hL=>⟨i L hL,z L hL⟩⟩
 ·intro L v A j hL
  by_cases Tt:L=d
  ·subst Tt
   have hL:(if L=L then some (u,e,sh.length) else g.O L)=some (v,A,j):=hL;rw[if_pos rfl] at hL;simp only[aR,bM] at hL;obtain⟨rfl,rfl,rfl⟩:=hL;refine⟨q.1,?_⟩;rcases q.2 with⟨q,_⟩|⟨b,cap,o,l,J,f,Q,m,r,D,F,S,hE⟩
   ·exact .inl q
   exact .inr ⟨b,_,cap,o,l,J,f,Q,m,r,D,ny.mk0 (if_pos rfl) F,S⟩
  have hL:O' L=some (v,A,j):=hL;rw[i L Tt] at hL;obtain⟨W,q2⟩:=h.own.1 L v A j hL;refine⟨W,q2.imp id ?_⟩;rintro⟨b,n,cap,o,l,J,f,Q,hnc,r,D,U,S⟩;exact⟨b,n,cap,o,l,J,f,Q,hnc,r,D,U.keep (z L Tt) rfl,S⟩
 ·intro L L' v Z Y X j y b M H f P
  have M:O' L=some (v,Y,j):=M;have H:O' L'=some (Z,X,y):=H;by_cases hL:L=d<;>by_cases p:L'=d
  ·rw[hL,p]
  ·subst hL
   have N:(if L=L then some (u,e,sh.length) else g.O L)=some (v,Y,j):=M;rw[if_pos rfl] at N;simp only[aR,bM] at N;rw[i L' p] at H;exact absurd (by rw[N.1];exact f) (R L' Z X y b H p P)
  ·subst p
   have I:(if L'=L' then some (u,e,sh.length) else g.O L')=some (Z,X,y):=H;rw[if_pos rfl] at I;simp only[aR,bM] at I;rw[i L hL] at M;exact absurd (by rw[I.1];exact P) (R L v Y j b M hL f)
  rw[i L hL] at M;rw[i L' p] at H;exact h.own.2 L L' v Z Y X j y b M H f P
 ·obtain⟨b,c,A,f,hBb,Q,hp,ho,F,hq⟩:=h.bxs.1 k t K
  exact⟨b,c,A,f,hBb,Q,hp.mono fun x T v=>M8 i z (zJ hd k t K x T),ho,F,hq⟩
 ·intro k t L v A j b K hL f hβ
  have hL:O' L=some (v,A,j):=hL;by_cases Tt:L=d
  ·subst Tt
   have hL:(if L=L then some (u,e,sh.length) else g.O L)=some (v,A,j):=hL;rw[if_pos rfl] at hL;simp only[aR,bM] at hL;obtain⟨rfl,rfl,rfl⟩:=hL;have hn:=hbG k t b K hβ;rcases q.2 with⟨q,_⟩|⟨b',cap,o,l,J,_,_,_,_,_,F,_⟩
   ·rw[q] at f;cases f
   rw[J] at f;simp only[Value.ownBlock,aR] at f;subst f;rw[hn] at F;cases F
  rw[i L Tt] at hL;exact h.zb k t L v A j b K hL f hβ
 rcases q.2 with⟨q,T⟩|⟨b,cap,o,l,J,f,Q,m,r,D,F,S,hE⟩
 ·exact .inl ⟨q,T⟩
 exact .inr ⟨b,cap,l,J,m,F,S,hE⟩
theorem Inv.label (h:Inv E B G0 w0 s g a w) {d e:Nat} {sh:List Kd} {xs:ah} {u:Value} (f:s.bI d=true) (k:iT g.G w (B.ok d) e sh xs u)
  (c: ∀L v e i b,g.O L=some (v,e,i)→L≠d→v.ownBlock=some b→u.ownBlock≠some b):
  ∃g',g'.G=g.G∧Inv E B G0 w0 s g' a w∧bP g' (.sl e sh (some d) xs) u:=by
 obtain⟨g',m,j,l,_⟩:=h.Uc f k c;exact⟨g',m,j,l⟩
theorem Qn (L e:Nat) (sh:List Kd) (k:Nat) (xs:ah):yc L (.sl e sh (some k) xs)=bif L==k then .sl e sh none xs else .sl e sh (some k) xs:=rfl
theorem IZ (L k e:Nat) (sh:List Kd) (xs:ah) (i:Int) (off:Nat):yc L (.eptr k e sh xs i off)=bif L==k then .any else .eptr k e sh xs i off:=rfl
theorem Lb (L k e:Nat) (sh:List Kd) (xs:ah) (b:Option Nat) (i:Int) (c d:Nat) (a:List Kd) (ys:ah):yc L (.slz k e sh xs b i c d a ys)=bif L==k then .any else .slz k e sh xs (Wi L b) i c d a ys:=rfl
theorem Lc (L k e a:Nat) (i:Int) (off:Nat):yc L (.epz k e a i off)=bif L==k then .any else .epz k e a i off:=rfl
theorem mU {g:Gh} {O':Nat→Option (Value×Nat×Nat)} {L:Nat} (m: ∀k,k≠L→O' k=g.O k) {x:V} {v:Value} (h:bP g x v):bP {g with O:=O'} (yc L x) v:=by
 cases x with
 |sl e sh y xs=>
  cases y with
  |none=>exact h
  |some k=>
   rw[Qn];by_cases a:L=k
   ·have:(L==k)=true:=by simpa using a
    rw[this];show aV g.G (V.sl e sh none xs) v;exact nK h.2
   have:(L==k)=false:=by simpa using a
   rw[this];exact⟨(m k (fun e=>a e.symm)).trans h.1,h.2⟩
 |eptr k e sh xs i off=>
  rw[IZ];by_cases a:L=k
  ·have:(L==k)=true:=by simpa using a
   rw[this];show aV g.G V.any v;unfold aV;trivial
  have:(L==k)=false:=by simpa using a
  rw[this];obtain⟨o,b,j,f⟩:=h;exact⟨o,b,(m k (fun e=>a e.symm)).trans j,f⟩
 |slz k e sh xs s i c t n ys=>
  rw[Lb];by_cases a:L=k
  ·have:(L==k)=true:=by simpa using a
   rw[this];show aV g.G V.any v;unfold aV;trivial
  have:(L==k)=false:=by simpa using a
  rw[this];obtain⟨l,j,f,w,p⟩:=h;refine⟨l,(m k (fun e=>a e.symm)).trans j,f,w,?_⟩
  cases s with
  |none=>trivial
  |some L2=>
   by_cases d:L=L2
   ·subst d
    show rU _ l sh.length (bif L==L then none else some L) i c t n ys;rw[Pb];trivial
   have r:Wi L (some L2)=some L2:=by show(bif L==L2 then none else some L2)=some L2;rw[beq_eq_false_iff_ne.2 d];rfl
   rw[r];obtain⟨u,q,z⟩:=p;exact⟨u,(m L2 (fun e=>d e.symm)).trans q,z⟩
 |epz k e A i off=>
  rw[Lc];by_cases a:L=k
  ·have:(L==k)=true:=by simpa using a
   rw[this];show aV g.G V.any v;unfold aV;trivial
  have:(L==k)=false:=by simpa using a
  rw[this];obtain⟨o,b,l,j,f⟩:=h;exact⟨o,b,l,(m k (fun e=>a e.symm)).trans j,f⟩
 |_=>exact h
theorem Qo {g:Gh} {O':Nat→Option (Value×Nat×Nat)} {L:Nat} (d: ∀k,k≠L→O' k=g.O k) {xs:ah} {vs:List Value} (h:PW (bP g) xs vs):PW (bP {g with O:=O'}) (xs.map (yc L)) vs:=by
 refine⟨by simp[h.1],fun i x v a c=>?_⟩;rw[sW] at a
 cases b:xs[i]? with
 |none=>rw[b] at a;cases a
 |some y=>rw[b] at a;simp only[xR,aR] at a;subst a;exact mU d (h.2 i y v b c)
theorem dW {R R':V→Value→Prop} {f:V→V} {xs:ah} {vs:List Value} (h:PW R xs vs) (c: ∀z∈xs,∀v,R z v→R' (f z) v):PW R' (xs.map f) vs:=by
 refine⟨by simp[h.1],fun i x v a d=>?_⟩;rw[sW] at a
 cases b:xs[i]? with
 |none=>rw[b] at a;cases a
 |some y=>rw[b] at a;simp only[xR,aR] at a;subst a;exact c y (F9 b) v (h.2 i y v b d)
theorem oI {L:Nat} {x:V} (h:x.single=true):(yc L x).single=true:=by
 cases x with
 |sl e sh b xs=>
  cases b with
  |none=>rfl
  |some k=>rw[Qn];cases L==k<;>rfl
 |eptr k e sh xs i off=>rw[IZ];cases L==k<;>rfl
 |slz k e sh xs f i c g a ys=>rw[Lb];cases L==k<;>rfl
 |epz k e d i off=>rw[Lc];cases L==k<;>rfl
 |tup _=>cases h
 |fn _ _=>cases h
 |_=>rfl
theorem Zk {g:Gh} {O':Nat→Option (Value×Nat×Nat)} {L:Nat} (d: ∀k,k≠L→O' k=g.O k) {x:V} {v:Value} (h:aT g x v):aT {g with O:=O'} (x.kill L) v:=by
 cases x with
 |tup vs=>obtain⟨a,rfl,h⟩:=h;exact⟨a,rfl,Qo d h⟩
 |fn f c=>obtain⟨a,rfl,h⟩:=h;exact⟨a,rfl,Qo d h⟩
 |sl e sh o xs=>have b:=mU (L:=L) d (aZ rfl h);exact bG (oI rfl) b
 |eptr k e sh xs i off=>have b:=mU (L:=L) d (aZ (x:=.eptr k e sh xs i off) rfl h);exact bG (oI (x:=.eptr k e sh xs i off) rfl) b
 |slz k e sh xs l i c m j ys=>have b:=mU (L:=L) d (aZ (x:=.slz k e sh xs l i c m j ys) rfl h);exact bG (oI (x:=.slz k e sh xs l i c m j ys) rfl) b
 |epz k e n i off=>have b:=mU (L:=L) d (aZ (x:=.epz k e n i off) rfl h);exact bG (oI (x:=.epz k e n i off) rfl) b
 |_=>simp only[aT] at h⊢;exact mU d h
theorem WO {g:Gh} {O':Nat→Option (Value×Nat×Nat)} {L:Nat} (d: ∀k,k≠L→O' k=g.O k) {xs:ah} {vs:List Value} (h:PW (aT g) xs vs):PW (aT {g with O:=O'}) (xs.map (V.kill L)) vs:=by
 refine⟨by simp[h.1],fun i x v a c=>?_⟩;rw[sW] at a
 cases b:xs[i]? with
 |none=>rw[b] at a;cases a
 |some y=>rw[b] at a;simp only[xR,aR] at a;subst a;exact Zk d (h.2 i y v b c)
theorem gK (f:ah→ah): ∀(l:List (Nat×ah)) (k:Nat),aJ (l.map fun(k,cs)=>(k,f cs)) k=(aJ l k).map f
 |[],k=>rfl
 |(j,a)::l,k=>by
  simp only[qA,aJ]
  cases j==k
  ·exact gK f l k
  rfl
theorem oM (s:St) (L k:Nat):aJ (s.kill L).bx k=(aJ s.bx k).map (List.map (V.kill L)):=gK _ _ _
theorem Inv.kill (h:Inv E B G0 w0 s g a w) (L:Nat):Inv E B G0 w0 (s.kill L) {g with O:=fun k=>if k=L then none else g.O k} a w:=by
 have A: ∀k,k≠L→(if k=L then none else g.O k)=g.O k:=fun k d=>if_neg d
 refine⟨WO A h.fr,h.df,h.gok,⟨fun k v e l d=>?_,fun k m v x e z l o b j f=>?_⟩,⟨fun k y d=>?_,fun k m y F j f=>?_⟩,h.lS,h.hB,h.ext,h.glob,h.g1,fun k y L' v e l b d hL q=>?_⟩
 ·have d:(if k=L then none else g.O k)=some (v,e,l):=d
  split at d
  ·cases d
  exact h.own.1 k v e l d
 ·have j:(if k=L then none else g.O k)=some (v,e,l):=j
  have f:(if m=L then none else g.O m)=some (x,z,o):=f;split at j
  ·cases j
  split at f
  ·cases f
  exact h.own.2 k m v x e z l o b j f
 ·rw[oM] at d
  cases i:aJ s.bx k with
  |none=>rw[i] at d;cases d
  |some n=>rw[i] at d;simp only[xR,aR] at d;subst d;obtain⟨b,c,e,q,r,G,C,D,H,u⟩:=h.bxs.1 k n i;exact⟨b,c,e,q,r,G,WO A C,D,H,kT (Y6 _) u⟩
 ·rw[oM] at j f
  cases i:aJ s.bx k with
  |none=>rw[i] at j;cases j
  |some n=>
   cases p:aJ s.bx m with
   |none=>rw[p] at f;cases f
   |some t=>exact h.bxs.2 k m n t i p
 rw[oM] at d;have hL:(if L'=L then none else g.O L')=some (v,e,l):=hL;split at hL
 ·cases hL
 cases i:aJ s.bx k with
 |none=>rw[i] at d;cases d
 |some n=>exact h.zb k n L' v e l b i hL q
end
section
variable {E:Env} {B:Own} {G0:aU} {w0:World} {s:St} {g:Gh} {a:Act} {w:World}
theorem Ud {g:Gh} {β':Nat→Option Nat} {d:Nat} (hβ: ∀k,k≠d→β' k=g.β k) {x:V} {v:Value} (i:tV d x=false) (h:bP g x v):bP {g with β:=β'} x v:=by
 cases x with
 |box k off=>
  obtain⟨b,c,j⟩:=h;have a:k≠d:=fun e=>by subst e;simp[tV] at i
  exact⟨b,(hβ k a).trans c,j⟩
 |sl e sh f xs=>cases f<;>exact h
 |eptr _ _ _ _ _ _=>exact h
 |_=>exact h
theorem Ue {g:Gh} {β':Nat→Option Nat} {d:Nat} (hβ: ∀k,k≠d→β' k=g.β k) {x:V} {v:Value} (b:x.gP d=false) (h:aT g x v):aT {g with β:=β'} x v:=by
 cases x with
 |tup vs=>obtain⟨a,rfl,h⟩:=h;simp only[V.gP,abw] at b;exact⟨a,rfl,h.mono fun y e v i=>Ud hβ (by have:=b y e;simpa using this) i⟩
 |fn f c=>obtain⟨a,rfl,h⟩:=h;simp only[V.gP,abw] at b;exact⟨a,rfl,h.mono fun y e v i=>Ud hβ (by have:=b y e;simpa using this) i⟩
 |_=>simp only[aT] at h⊢;exact Ud hβ b h
theorem H7 {d:Nat} (h:s.mq d=true): ∀x∈s.fr,x.gP d=false:=by unfold St.mq at h;rw[bC,l8] at h;exact fun x a=>fM (h.1 x a)
theorem H8 {d:Nat} (h:s.mq d=true): ∀k b,aJ s.bx k=some b→k≠d∧ ∀x∈b,x.gP d=false:=by intro k b c;unfold St.mq at h;rw[bC,l8,l8] at h;have a:=h.2 _ (jS _ _ _ c);simp only[bC,l8] at a;refine⟨fun e=>?_,fun x f=>fM (a.2 x f)⟩;have:=fM a.1;subst e;simp at this
theorem Zl {G:aU} (a:xU G w) (o:Obj):New w (w.alloc o) G G:=by refine⟨iD w o,fun _ _=>rfl,fun b l h=>?_⟩;obtain⟨c,e,fr,f,d⟩:=a b l h;exact⟨c,e,fr,by rw[Below.heap_alloc w o b (fw a h)];exact f,d⟩
theorem Inv.nX (h:Inv E B G0 w0 s g a w) {k e:Nat} {z:ah} {c:Array Value} (Y:k<HL) (R:s.mq k=true) (U:PW (aT g) z c.toList) (X: ∀u∈c.toList,u.oneCell'=true) (D:z.all (fun v=>aL (v.gP k))=true) (K:nG z=true→o8 E.P e z.length=true):
  ∃g',Inv E B G0 w0 ⟨s.fr.set k (.box k 0),(k,z)::s.bx⟩ g' (a.put (some k) (.pointer (some ⟨w.heap.size,0,none⟩))) (w.alloc (.cells c e)):=by
 obtain⟨n,y⟩:=h.new (Zl h.gok (.cells c e));let β':Nat→Option Nat:=fun j=>if j=k then some w.heap.size else g.β j
 have hβ: ∀j,j≠k→β' j=g.β j:=fun j f=>if_neg f
 have F:PW (aT {g with β:=β'}) s.fr a.tmps.toList:=n.fr.mono fun x y v=>Ue hβ (H7 R x y)
 rw[l8] at D;refine⟨{g with β:=β'},by rw[BX];exact F.set k ⟨w.heap.size,if_pos rfl,rfl⟩,n.df,n.gok,n.own,⟨fun j q f=>?_,fun j p q A f o m=>?_⟩,n.lS,n.hB,⟨n.ext.1,n.ext.2.1,fun j f=>(hβ j (by omega)).trans (n.ext.2.2 j f)⟩,n.glob,n.g1,fun j q L v T W b f hL m hβj=>?_⟩
 ·unfold aJ at f
  by_cases d:k=j
  ·subst d
   rw[Pb,lm] at f;simp only[aR] at f;subst f;refine⟨w.heap.size,c,e,if_pos rfl,h.hB.2 _ (lg _),heap_alloc_new w _,U.mono fun x y v=>Ue hβ (fM (D x y)),X,?_,K⟩;show g.G w.heap.size=none
   cases K:g.G w.heap.size with
   |none=>rfl
   |some l=>have:=fw h.gok K;omega
  have:(k==j)=false:=by simpa using d
  rw[this,jW] at f;obtain⟨b,H,M,m,J,C,I,N,Z,O⟩:=n.bxs.1 j q f;exact⟨b,H,M,by show β' j=_;rw[hβ j (fun e=>d e.symm)];exact m,J,C,I.mono fun x y v=>Ue hβ ((H8 R j q f).2 x y),N,Z,O⟩
 ·unfold aJ at f o
  have m:β' j=β' p:=m;by_cases d:k=j<;>by_cases i:k=p
  ·rw[←d,←i]
  ·subst d
   have r:(k==p)=false:=by simpa using i
   rw[r,jW] at o;obtain⟨b,H,M,t,_,C,_⟩:=h.bxs.1 p A o;have Q:β' k=some w.heap.size:=if_pos rfl;rw[Q,hβ p (fun e=>i e.symm),t] at m;simp only[aR] at m;have:=(Array.getElem?_eq_some_iff.1 C).1;omega
  ·subst i
   have r:(k==j)=false:=by simpa using d
   rw[r,jW] at f;obtain⟨b,H,M,t,_,C,_⟩:=h.bxs.1 j q f;have Q:β' k=some w.heap.size:=if_pos rfl;rw[Q,hβ j (fun e=>d e.symm),t] at m;simp only[aR] at m;have:=(Array.getElem?_eq_some_iff.1 C).1;omega
  have r:(k==j)=false:=by simpa using d
  have S:(k==p)=false:=by simpa using i
  rw[r,jW] at f;rw[S,jW] at o;rw[hβ j (fun e=>d e.symm),hβ p (fun e=>i e.symm)] at m;exact n.bxs.2 j p q A f o m
 have hβj:β' j=some b:=hβj;by_cases d:k=j
 ·subst d
  rw[show β' k=some w.heap.size from if_pos rfl] at hβj;simp only[aR] at hβj;have:=vO h.gok h.own hL m;omega
 unfold aJ at f;have r:(k==j)=false:=by simpa using d
 rw[r,jW] at f;rw[hβ j (fun e=>d e.symm)] at hβj;exact h.zb j q L v T W b f hL m hβj
theorem pW: ∀(l:List (Nat×ah)) (k j:Nat) (b old:ah),aJ l k=some old→aJ (xZ l k b) j=if j=k then some b else aJ l j
 |[],k,j,b,old,h=>by cases h
 |(i,f)::l,k,j,b,old,h=>by
  unfold aJ at h;unfold xZ
  cases c:i==k with
  |true=>
   rw[lm];unfold aJ;have e:i=k:=by simpa using c
   subst e;by_cases a:i=j
   ·subst a;simp
   have:(i==j)=false:=by simpa using a
   rw[this,jW,jW,if_neg (fun e=>a e.symm)]
  |false=>
   rw[c,jW] at h;rw[jW];have d:i≠k:=by simpa using c
   unfold aJ;rw[pW l k j b old h];by_cases a:i=j
   ·subst a
    rw[Pb,lm,lm,if_neg d]
   have:(i==j)=false:=by simpa using a
   rw[this,jW,jW]
theorem Inv.store (h:Inv E B G0 w0 s g a w) {k off b e:Nat} {old vs:ah} {c:Array Value} {us:List Value} (P:g.β k=some b) (m:aJ s.bx k=some old) (K:w.heap[b]? =some (.cells c e (0,0))) (hp:PW (aT g) old c.toList)
  (Q:PW (aT g) vs us) (ho: ∀u∈us,u.oneCell'=true) (hle:off+vs.length≤old.length) (hq:nG (over old off vs)=true→nG old=true):
  Inv E B G0 w0 ⟨s.fr,xZ s.bx k (over old off vs)⟩ g a (w.setRow b (c.toList.take off++us++c.toList.drop (off+us.length)).toArray):=by
 obtain⟨b',c',e',y,I,z,hp',M,O,hq0⟩:=h.bxs.1 k old m;rw[P] at y;simp only[aR] at y;subst y;rw[K] at z;simp only[aR,Obj.cells.injEq] at z;obtain⟨rfl,rfl,_⟩:=z;have hl':=m;have N:=setRow_heap w b c (c.toList.take off++us++c.toList.drop (off+us.length)).toArray e (0,0) K;have f: ∀j,j≠b→(w.setRow b (c.toList.take off++us++c.toList.drop (off+us.length)).toArray).heap[j]? =w.heap[j]? :=fun j d=>setRow_other w b j _ d
 have F:(w.setRow b (c.toList.take off++us++c.toList.drop (off+us.length)).toArray).heap.size=w.heap.size:=by simp[World.setRow]
 have R: ∀j l,g.G j=some l→j≠b:=fun j l d e=>by subst e;rw[O] at d;cases d
 refine⟨h.fr,h.df,fun j l d=>?_,⟨fun L v i H hL=>?_,h.own.2⟩,⟨fun j x d=>?_,fun j j' x D d p=>?_⟩,?_,by rw[F];exact h.hB,h.ext,h.glob,h.g1,fun j x L v i H C d hL o=>?_⟩
 ·obtain⟨c2,i,fr,hc,ht⟩:=h.gok j l d
  exact⟨c2,i,fr,by rw[f j (R j l d)];exact hc,ht⟩
 ·obtain⟨h1,h2⟩:=h.own.1 L v i H hL
  refine⟨h1,h2.imp id ?_⟩;rintro⟨j,n,cap,Z,l,Q,d,hhj,hnc,T,hcs,X,m⟩;have U:j≠b:=fun e=>h.zb k old L v i H j hl' hL (by rw[Q];rfl) (by rw[e];exact P)
  exact⟨j,n,cap,Z,l,Q,d,by rw[f j U];exact hhj,hnc,T,hcs,X,m⟩
 ·rw[pW s.bx k j _ old m] at d
  split at d
  ·rename_i t
   subst t;simp only[aR] at d;subst d;refine⟨b,_,e,P,I,N,by simpa using WL hp Q off,fun u q=>?_,O,fun K=>by rw[over_len hle];exact hq0 (hq K)⟩;simp only[aby] at q;rcases q with(q|q)|q
   ·exact M u (abK q)
   ·exact ho u q
   exact M u (acF q)
  rename_i t;obtain⟨C,c2,i,o,J,W,Y,ho2,hG2,hq2⟩:=h.bxs.1 j x d;have S:C≠b:=by intro e3;subst e3;exact t (h.bxs.2 j k x old d m (o.trans P.symm))
  exact⟨C,c2,i,o,J,by rw[f C S];exact W,Y,ho2,hG2,hq2⟩
 ·rw[pW s.bx k _ _ old m] at d p
  refine fun r=>?_
  split at d<;>split at p
  ·rename_i A i;rw[A,i]
  ·rename_i A i;subst A;exact h.bxs.2 _ _ old D m p r
  ·rename_i A i;subst i;exact h.bxs.2 _ _ x old d m r
  exact h.bxs.2 _ _ x D d p r
 ·refine h.lS.trans ⟨⟨rfl,rfl,rfl,by rw[F];exact lg _,fun j d=>by omega⟩,fun j d=>f j fun e=>d (e▸I),uh K fun j d _=>f j d⟩
 rw[pW s.bx k j _ old m] at d;split at d
 ·rename_i A;rw[A];exact h.zb k old L v i H C m hL o
 exact h.zb j x L v i H C d hL o
theorem M9 {f:ah→ah} {bx:List (Nat×ah)} {g:Gh} (h: ∀k a L v e c b,aJ bx k=some a→g.O L=some (v,e,c)→v.ownBlock=some b→g.β k≠some b): ∀k a L v e c b,aJ (bx.map fun(k,a)=>(k,f a)) k=some a→g.O L=some (v,e,c)→v.ownBlock=some b→g.β k≠some b:=by
 intro k a L v e c b d;rw[gK] at d
 cases i:aJ bx k with
 |none=>rw[i] at d;cases d
 |some j=>exact h k j L v e c b i
theorem j5 {G G':aU} {x:V} {v:Value} (a:D5 x=true) (h:aV G x v):aV G' x v:=by
 cases x<;>first|cases a|skip
 all_goals (unfold aV at h⊢;exact h)
theorem fit_flat {sh:List Kd} {x:V} (e:sh.all flatK=true) (b:fU sh x.cells=true): ∀c∈x.cells,D5 c=true:=by
 have f: ∀(sh:List Kd) (a:ah),sh.all flatK=true→fU sh a=true→ ∀c∈a,D5 c=true:=by
  intro sh;induction sh with
  |nil=>intro a _ b c d;cases a with
   |nil=>cases d
   |cons _ _=>simp[fU] at b
  |cons k sh h=>
   intro a e b c d
   cases a with
   |nil=>cases d
   |cons y a=>
    rw[Pg,bC] at e;simp only[fU] at b;obtain⟨i,g⟩:=aO b;rcases List.mem_cons.1 d with rfl|d
    ·cases k<;>first|(cases e.1;done)|skip
     all_goals (cases c<;>first|rfl|(simp[fits] at i))
    exact h a e.2 g c d
 exact f sh x.cells e b
theorem Zm {G G':aU} {sh:List Kd} {x:V} {u:Value} (e:sh.all flatK=true) (c:ig sh x=true) (h:aV G x u):aV G' x u:=by
 have b:=fit_flat e c
 cases x with
 |agg g=>unfold aV at h⊢;obtain⟨a,rfl,h⟩:=h;refine⟨a,rfl,?_⟩;rw[fH] at h⊢;exact h.mono fun y d v f=>j5 (b y d) f
 |_=>exact j5 (b _ uY) h
theorem Dm {G G':aU} {sh:List Kd} (b:sh.all flatK=true): ∀(xs:ah) (cells:List Value),cO G sh xs cells→cO G' sh xs cells
 |[],_,_=>iR
 |x::xs,cells,h=>by unfold cO at h⊢;obtain⟨a,⟨u,c,e⟩,d⟩:=h;exact⟨a,⟨u,Zm b a c,e⟩,Dm b xs _ d⟩
theorem Ld {G G':aU} {sh:List Kd} {xs:ah} {v:Value} (f:sh.all flatK=true) (h:uN G sh xs v) (e: ∀b,v.ownBlock=some b→G' b=G b):uN G' sh xs v:=by
 rcases h with h|⟨b,cap,l,rfl,a,g,c,d⟩
 ·exact .inl h
 exact .inr ⟨b,cap,l,rfl,a,by rw[e b rfl];exact g,c,Dm f _ _ d⟩
theorem WQ (L e:Nat) (k:List Kd) (ys:ah) (a:Nat) (sh:List Kd) (j:Nat) (xs:ah):PG L e k ys (.sl a sh (some j) xs)=bif L==j then .sl e k (some L) ys else .sl a sh (some j) xs:=rfl
theorem Le (L e:Nat) (k:List Kd) (ys:ah) (j a:Nat) (sh:List Kd) (xs:ah) (i:Int) (off:Nat):PG L e k ys (.eptr j a sh xs i off)=bif L==j then .eptr L e k ys i off else .eptr j a sh xs i off:=rfl
theorem Em {g:Gh} {x:V} {v:Value} (h:aT g x v):aT g x.forget v:=by
 unfold V.forget
 cases x.flat
 ·exact jr
 exact h
theorem RY: ∀x:V,x.forget=.nilp→x=.nilp:=by
 intro x h;unfold V.forget at h
 cases a:x.flat<;>rw[a] at h
 ·cases h
 exact h
theorem En (x:V):x.forget.flat=true:=by
 unfold V.forget
 cases a:x.flat
 ·rfl
 exact a
theorem Inv.forget (h:Inv E B G0 w0 s g a w):Inv E B G0 w0 s.forget g a w:=by
 have t: ∀k,aJ s.forget.bx k=(aJ s.bx k).map (List.map V.forget):=fun k=>gK _ _ _
 refine⟨dW h.fr fun z _ v o=>Em o,h.df,h.gok,h.own,⟨fun k G d=>?_,fun k u G A q l=>?_⟩,h.lS,h.hB,h.ext,h.glob,h.g1,M9 (f:=List.map V.forget) h.zb⟩
 ·rw[t] at d
  cases i:aJ s.bx k with
  |none=>rw[i] at d;cases d
  |some p=>rw[i] at d;simp only[xR,aR] at d;subst d;obtain⟨b,c,e,D,n,C,x,y,F,r⟩:=h.bxs.1 k p i;exact⟨b,c,e,D,n,C,dW x fun z _ v o=>Em o,y,F,kT RY r⟩
 rw[t] at q l
 cases i:aJ s.bx k with
 |none=>rw[i] at q;cases q
 |some p=>
  cases j:aJ s.bx u with
  |none=>rw[j] at l;cases l
  |some m=>exact h.bxs.2 k u p m i j
theorem OL (s:St):s.forget.V8=true:=by
 unfold St.V8 St.forget;rw[bC,l8,l8];refine⟨fun x a=>?_,fun p b=>?_⟩
 ·obtain⟨y,_,rfl⟩:=List.mem_map.1 a
  exact En y
 obtain⟨q,_,rfl⟩:=List.mem_map.1 b;show(q.2.map V.forget).all V.flat=true;rw[l8];intro x a;obtain⟨y,_,rfl⟩:=List.mem_map.1 a;exact En y
theorem Inv.Gn (h:Inv E B G0 w0 s g a w) {L e b i:Nat} {k:List Kd} {U u:Value} {c:Array Value} {l:List Value} {xs ys:ah} (hO:g.O L=some (U,e,k.length)) (J:U.ownBlock=some b) (hh:w.heap[b]? =some (.cells c e (0,0))) (Gf:g.G b=some l) (hi:i<l.length)
  (hown:uN g.G k xs U) (X:ys.length=xs.length) (hk:k.all flatK=true) (hr:cO g.G k ys (l.set i u)) (hone:u.oneCell'=true) (hn:s.V8=true) (hL:L<HL):
  ∃g',Inv E B G0 w0 (s.upd L e k ys) g' a (w.setRow b (c.toList.take i++[u]++c.toList.drop (i+1)).toArray):=by
 have Y:B.ok L b:=by
  rcases(h.own.1 L U e k.length hO).2 with t|⟨C,n,cap,cur,l',t,Z,_⟩
  ·rw[t] at J;cases J
  rw[t] at J;simp[Value.ownBlock] at J;subst J;exact Z
 obtain⟨c0,e0,fr0,hc0,ht0⟩:=h.gok b l Gf;rw[hh] at hc0;simp only[aR,Obj.cells.injEq] at hc0;obtain⟨rfl,rfl,rfl⟩:=hc0;have hil:i<c.toList.length:=by have:=congrArg List.length ht0;rw[JG] at this;omega
 have hset:c.toList.take i++[u]++c.toList.drop (i+1)=c.toList.set i u:=by rw[abU,if_pos hil];simp
 rw[hset];let G':aU:=fun j=>if j=b then some (l.set i u) else g.G j
 have I: ∀j,j≠b→G' j=g.G j:=fun j d=>if_neg d
 have hGs:G' b=some (l.set i u):=if_pos rfl;have hnew:=setRow_heap w b c (c.toList.set i u).toArray e (0,0) hh;have F: ∀j,j≠b→(w.setRow b (c.toList.set i u).toArray).heap[j]? =w.heap[j]? :=fun j d=>setRow_other w b j _ d
 have hsz:(w.setRow b (c.toList.set i u).toArray).heap.size=w.heap.size:=by simp[World.setRow]
 have hv0:uN G' k ys U:=by
  rcases hown with⟨t,hx0⟩|⟨C,cap,l',t,hcap,hGl,hll,hE⟩
  ·rw[t] at J;cases J
  rw[t] at J;simp only[Value.ownBlock,aR] at J;subst J;rw[Gf] at hGl;simp only[aR] at hGl;subst hGl;exact .inr ⟨C,cap,l.set i u,by rw[t,X],by rw[X];exact hcap,hGs,by rw[abG,X];exact hll,Dm hk _ _ hr⟩
 have hlenL: ∀(sh:List Kd) (zs:ah),g.O L=some (U,e,sh.length)→uN g.G sh zs U→zs.length=xs.length:=by
  intro sh zs _ hz;rcases hz with⟨t,hz⟩|⟨C,cap,l',t,_⟩
  ·rw[t] at J;cases J
  rcases hown with⟨R,_⟩|⟨b2,cap2,l2,R,_⟩
  ·rw[R] at J;cases J
  rw[t] at R;simp only[Value.slice.injEq] at R;exact R.2.1
 have K: ∀j v H sz C,j≠L→g.O j=some (v,H,sz)→v.ownBlock=some C→C≠b:=by intro j v H sz C d hOj P N;subst N;exact d (h.own.2 j L v U H e sz k.length C hOj hO P J)
 have hm1:lN g.G1 G':=fun j m d=>by
  obtain⟨m1,q1,q2⟩:=h.g1 j m d;have D:j≠b:=fun e=>by have h1:=h.glob.2 j m1 q1;have h2:=Y.2 hL;omega
  obtain⟨m2,q3,q4⟩:=h.ext.2.1 j m1 q1;exact⟨m2,(I j D).trans q3,q2.trans q4⟩
 have o: ∀(y:V) (v:Value),KD y=true→bP g y v→bP {g with G:=G'} (PG L e k ys y) v:=by
  intro y v A t
  cases y with
  |sl H sh ow zs=>
   cases ow with
   |none=>cases A
   |some j=>
    rw[WQ];obtain⟨M,p2⟩:=t;by_cases d:L=j
    ·have N:(L==j)=true:=by simpa using d
     rw[N,lm];subst d;rw[hO] at M;simp only[aR,bM] at M;obtain⟨rfl,rfl,_⟩:=M;exact⟨hO,hv0⟩
    have N:(L==j)=false:=by simpa using d
    rw[N,jW];exact⟨M,Ld A p2 fun C P=>I C (K j v H _ C (fun e=>d e.symm) M P)⟩
  |eptr j H sh zs q off=>
   rw[Le];obtain⟨v1,b1,M,p2,p3,p4,p5,p6⟩:=t;by_cases d:L=j
   ·have N:(L==j)=true:=by simpa using d
    rw[N,lm];subst d;have p1':=M;rw[hO] at M;simp only[aR,bM] at M;obtain⟨rfl,rfl,hsl⟩:=M;have hzl:=hlenL sh zs p1' p2;refine⟨U,b1,hO,hv0,p3,by rw[X];omega,p5,?_⟩;rw[p6,hsl]
   have N:(L==j)=false:=by simpa using d
   rw[N,jW];exact⟨v1,b1,M,Ld A p2 fun C P=>I C (K j v1 H _ C (fun e=>d e.symm) M P),p3,p4,p5,p6⟩
  |box j off=>exact t
  |old x=>exact⟨t.1,iB hm1 _ _ t.1,t.2.2⟩
  |any=>show aV G' .any v;unfold aV;trivial
  |bool _=>exact j5 (G:=g.G) rfl t
  |int _ _=>exact j5 (G:=g.G) rfl t
  |str _=>exact j5 (G:=g.G) rfl t
  |nilsl=>exact j5 (G:=g.G) rfl t
  |nilif=>exact j5 (G:=g.G) rfl t
  |nilp=>exact j5 (G:=g.G) rfl t
  |iface _ _=>cases A
  |bxa _ _=>cases A
  |out _ _ _=>cases A
  |ni _ _ _=>cases A
  |agg _=>cases A
  |tup _=>cases A
  |rptr _ _ _=>cases A
  |fn _ _=>cases A
  |slz _ _ _ _ _ _ _ _ _ _=>cases A
  |epz _ _ _ _ _=>cases A
  |keep _ _=>cases A
 have Q: ∀(y:V) (v:Value),y.flat=true→aT g y v→aT {g with G:=G'} (y.upd L e k ys) v:=by
  intro y v A t
  cases y with
  |tup vs=>obtain⟨a,rfl,p⟩:=t;have A:vs.all KD=true:=A;rw[l8] at A;exact⟨a,rfl,dW p fun z hz v t=>o z v (A z hz) t⟩
  |fn f vs=>obtain⟨a,rfl,p⟩:=t;have A:vs.all KD=true:=A;rw[l8] at A;exact⟨a,rfl,dW p fun z hz v t=>o z v (A z hz) t⟩
  |agg S=>obtain⟨a,rfl,p⟩:=iU.1 t;have A:S.all D5=true:=A;rw[l8] at A;exact iU.2 ⟨a,rfl,p.mono fun z hz v t=>j5 (A z hz) t⟩
  |sl H sh ow zs=>
   have h2:=o (.sl H sh ow zs) v A (aZ (x:=.sl H sh ow zs) rfl t);refine bG ?_ h2
   cases ow with
   |none=>cases A
   |some j=>show(PG L e k ys (V.sl H sh (some j) zs)).single=true;rw[WQ];cases L==j<;>rfl
  |eptr j H sh zs q off=>have h2:=o (.eptr j H sh zs q off) v A (aZ (x:=.eptr j H sh zs q off) rfl t);refine bG ?_ h2;show(PG L e k ys (V.eptr j H sh zs q off)).single=true;rw[Le];cases L==j<;>rfl
  |any=>exact bG rfl (o (.any) v rfl (aZ (x:=.any) rfl t))
  |bool q=>exact bG rfl (o (.bool q) v rfl (aZ (x:=.bool q) rfl t))
  |int q r=>exact bG rfl (o (.int q r) v rfl (aZ (x:=.int q r) rfl t))
  |str q=>exact bG rfl (o (.str q) v rfl (aZ (x:=.str q) rfl t))
  |nilsl=>exact bG rfl (o (.nilsl) v rfl (aZ (x:=.nilsl) rfl t))
  |nilif=>exact bG rfl (o (.nilif) v rfl (aZ (x:=.nilif) rfl t))
  |nilp=>exact bG rfl (o (.nilp) v rfl (aZ (x:=.nilp) rfl t))
  |iface _ _=>cases A
  |bxa _ _=>cases A
  |out _ _ _=>cases A
  |ni _ _ _=>cases A
  |box q r=>exact bG rfl (o (.box q r) v rfl (aZ (x:=.box q r) rfl t))
  |old q=>exact bG rfl (o (.old q) v rfl (aZ (x:=.old q) rfl t))
  |rptr _ _ _=>cases A
  |slz _ _ _ _ _ _ _ _ _ _=>cases A
  |epz _ _ _ _ _=>cases A
  |keep _ _=>cases A
 unfold St.V8 at hn;rw[bC,l8,l8] at hn;obtain⟨n1,n2⟩:=hn;refine⟨{g with G:=G'},dW h.fr fun y A v t=>Q y v (n1 y A) t,h.df,fun j m d=>?_,⟨fun j v e2 sz d=>?_,h.own.2⟩,⟨fun j ds d=>?_,fun j j' ds ds' d T=>?_⟩,?_,by rw[hsz];exact h.hB,⟨fun j d=>(I j fun e=>d (e▸Y.1)).trans (h.ext.1 j d),fun j m d=>by
  have D:j≠b:=fun e=>by have h1:=h.glob.2 j m d;have h2:=Y.2 hL;omega
  obtain⟨m',h1,h2⟩:=h.ext.2.1 j m d;exact⟨m',by show G' j=_;rw[I j D];exact h1,h2⟩,h.ext.2.2⟩,h.glob,h.g1,M9 (f:=List.map (V.upd L e k ys)) h.zb⟩
 ·by_cases D:j=b
  ·subst D
   have d:G' j=some m:=d;rw[hGs] at d;simp only[aR] at d;subst d;refine⟨_,_,_,hnew,?_⟩;rw[abG,acu];rw[acI,ht0]
  have d:G' j=some m:=d;rw[I j D] at d;obtain⟨c2,e2,fr,hc,ht⟩:=h.gok j m d;exact⟨c2,e2,fr,by rw[F j D];exact hc,ht⟩
 ·obtain⟨q1,q2⟩:=h.own.1 j v e2 sz d
  refine⟨q1,q2.imp id ?_⟩;rintro⟨C,n,cap,cur,m,t,Z,W,hnc,hcm,hcs,hGj,hl⟩;by_cases D:C=b
  ·subst D
   rw[hh] at W;simp only[aR,Obj.cells.injEq] at W;obtain⟨rfl,rfl,_⟩:=W;obtain⟨e9,hCj⟩:=hGj.known Gf;subst e9;exact⟨C,n,cap,_,_,t,Z,hnew,hnc,hcm,by simpa using hcs,ny.mk0 hCj hGs,by simpa using hl⟩
  exact⟨C,n,cap,cur,m,t,Z,by rw[F C D];exact W,hnc,hcm,hcs,hGj.keep rfl (I C D),hl⟩
 ·have d:aJ (s.bx.map fun(q,S)=>(q,S.map (V.upd L e k ys))) j=some ds:=d
  rw[gK] at d
  cases hq:aJ s.bx j with
  |none=>rw[hq] at d;cases d
  |some S=>
   rw[hq] at d;simp only[xR,aR] at d;subst d;obtain⟨C,c',H,M,p2,p3,p4,p5,p6,p7⟩:=h.bxs.1 j S hq;have hne:C≠b:=fun N=>by subst N;rw[Gf] at p6;cases p6
   have hfl:=n2 _ (jS _ _ _ hq);simp only[l8] at hfl;exact⟨C,c',H,M,p2,by rw[F C hne];exact p3,dW p4 fun y A v t=>Q y v (hfl y A) t,p5,by show G' C=none;rw[I C hne];exact p6,kT (upd_nilp _ _ _ _) p7⟩
 ·have d:aJ (s.bx.map fun(q,S)=>(q,S.map (V.upd L e k ys))) j=some ds:=d
  have T:aJ (s.bx.map fun(q,S)=>(q,S.map (V.upd L e k ys))) j'=some ds':=T;rw[gK] at d T
  cases hq:aJ s.bx j with
  |none=>rw[hq] at d;cases d
  |some S=>
   cases hq':aJ s.bx j' with
   |none=>rw[hq'] at T;cases T
   |some cs'=>exact h.bxs.2 j j' S cs' hq hq'
 refine h.lS.trans ⟨⟨rfl,rfl,rfl,by rw[hsz];exact lg _,fun j d=>by omega⟩,fun j d=>F j fun e=>d (e▸Y.1),uh hh fun j d _=>F j d⟩
theorem Lg (L i e:Nat) (sh:List Kd) (k:Nat) (xs:ah):tO L i (.sl e sh (some k) xs)=bif L==k then .sl e sh (some i) xs else .sl e sh (some k) xs:=rfl
theorem Eo (L i k e:Nat) (sh:List Kd) (xs:ah) (j:Int) (off:Nat):tO L i (.eptr k e sh xs j off)=bif L==k then .eptr i e sh xs j off else .eptr k e sh xs j off:=rfl
theorem UU (L i k e:Nat) (sh:List Kd) (xs:ah) (b:Option Nat) (j:Int) (c d:Nat) (a:List Kd) (ys:ah):tO L i (.slz k e sh xs b j c d a ys)=.slz (bif L==k then i else k) e sh xs (renO L i b) j c d a ys:=rfl
theorem UW (L i k e a:Nat) (j:Int) (off:Nat):tO L i (.epz k e a j off)=.epz (bif L==k then i else k) e a j off:=rfl
theorem jT {g:Gh} {O':Nat→Option (Value×Nat×Nat)} {C':Nat→Option (List Value)} {L i:Nat} (y:O' i=g.O L) (r: ∀k,k≠L→k≠i→O' k=g.O k) (t:C' i=g.C L) (D: ∀k,k≠L→k≠i→C' k=g.C k) {x:V} {v:Value} (d:jy i x=false) (h:bP g x v):bP {g with O:=O',C:=C'} (tO L i x) v:=by
 cases x with
 |sl e sh I xs=>
  cases I with
  |none=>exact h
  |some k=>
   rw[Lg];by_cases a:L=k
   ·have:(L==k)=true:=by simpa using a
    rw[this];subst a;exact⟨y.trans h.1,h.2⟩
   have:(L==k)=false:=by simpa using a
   rw[this];have p:k≠i:=fun e=>by subst e;simp[jy] at d
   exact⟨(r k (fun e=>a e.symm) p).trans h.1,h.2⟩
 |eptr k e sh xs j off=>
  rw[Eo];obtain⟨z,b,n,m⟩:=h;by_cases a:L=k
  ·have:(L==k)=true:=by simpa using a
   rw[this];subst a;exact⟨z,b,y.trans n,m⟩
  have:(L==k)=false:=by simpa using a
  rw[this];have p:k≠i:=fun e=>by subst e;simp[jy] at d
  exact⟨z,b,(r k (fun e=>a e.symm) p).trans n,m⟩
 |slz k e sh xs A j c B q ys=>
  rw[UU];have d:(i==k||lkO i A)=false:=d;rw[EY,uE] at d;obtain⟨s,f⟩:=d;obtain⟨l,n,m,u,H⟩:=h;have w:rU {g with O:=O',C:=C'} l sh.length (renO L i A) j c B q ys:=by
   cases A with
   |none=>trivial
   |some L2=>
    have f:(i==L2)=false:=f;rw[uE] at f;obtain⟨F,E,G⟩:=H;by_cases o:L=L2
    ·subst o
     show rU _ l sh.length (bif L==L then some i else some L) j c B q ys;rw[Pb];exact⟨F,y.trans E,G⟩
    show rU _ l sh.length (bif L==L2 then some i else some L2) j c B q ys;rw[beq_eq_false_iff_ne.2 o];exact⟨F,(r L2 (fun e=>o e.symm) (fun e=>f e.symm)).trans E,G⟩
  by_cases a:L=k
  ·subst a
   rw[Pb];exact⟨l,y.trans n,t.trans m,u,w⟩
  rw[beq_eq_false_iff_ne.2 a];exact⟨l,(r k (fun e=>a e.symm) (fun e=>s e.symm)).trans n,(D k (fun e=>a e.symm) (fun e=>s e.symm)).trans m,u,w⟩
 |epz k e J j off=>
  rw[UW];have d:(i==k)=false:=d;rw[uE] at d;obtain⟨z,b,l,n,m,u⟩:=h;by_cases a:L=k
  ·subst a
   rw[Pb];exact⟨z,b,l,y.trans n,t.trans m,u⟩
  rw[beq_eq_false_iff_ne.2 a];exact⟨z,b,l,(r k (fun e=>a e.symm) (fun e=>d e.symm)).trans n,(D k (fun e=>a e.symm) (fun e=>d e.symm)).trans m,u⟩
 |_=>exact h
theorem yx {L i:Nat} {x:V} (h:x.single=true):(tO L i x).single=true:=by
 cases x with
 |sl e sh a xs=>
  cases a with
  |none=>rfl
  |some k=>rw[Lg];cases L==k<;>rfl
 |eptr k e sh xs j off=>rw[Eo];cases L==k<;>rfl
 |tup _=>cases h
 |fn _ _=>cases h
 |_=>rfl
theorem I1 {g:Gh} {O':Nat→Option (Value×Nat×Nat)} {C':Nat→Option (List Value)} {L i:Nat} (o:O' i=g.O L) (m: ∀k,k≠L→k≠i→O' k=g.O k) (b:C' i=g.C L) (l: ∀k,k≠L→k≠i→C' k=g.C k) {x:V} {v:Value} (d:x.dP i=false) (h:aT g x v):aT {g with O:=O',C:=C'} (x.canon L i) v:=by
 cases x with
 |tup vs=>obtain⟨a,rfl,h⟩:=h;simp only[V.dP,abw] at d;exact⟨a,rfl,dW h fun y s v t=>jT o m b l (by have:=d y s;simpa using this) t⟩
 |fn f c=>obtain⟨a,rfl,h⟩:=h;simp only[V.dP,abw] at d;exact⟨a,rfl,dW h fun y s v t=>jT o m b l (by have:=d y s;simpa using this) t⟩
 |sl e sh u xs=>exact bG (yx rfl) (jT o m b l d (aZ rfl h))
 |eptr k e sh xs j off=>exact bG (yx (x:=.eptr k e sh xs j off) rfl) (jT (x:=.eptr k e sh xs j off) o m b l d (aZ (x:=.eptr k e sh xs j off) rfl h))
 |slz k e sh xs p j c q n ys=>exact bG (x:=.slz (bif L==k then i else k) e sh xs (renO L i p) j c q n ys) rfl (jT (x:=.slz k e sh xs p j c q n ys) o m b l d (aZ (x:=.slz k e sh xs p j c q n ys) rfl h))
 |epz k e r j off=>exact bG (x:=.epz (bif L==k then i else k) e r j off) rfl (jT (x:=.epz k e r j off) o m b l d (aZ (x:=.epz k e r j off) rfl h))
 |_=>simp only[aT,V.dP] at h d⊢;exact jT o m b l d h
theorem Inv.canon (h:Inv E B G0 w0 s g a w) {L i:Nat} (S:L≠i) (hcl:i<HL→L<HL) (hi:s.bI i=true): ∃g',Inv E B G0 w0 (s.canon L i) g' a w:=by
 let O':Nat→Option (Value×Nat×Nat):=fun k=>if k=i then g.O L else if k=L then none else g.O k
 have P:O' i=g.O L:=if_pos rfl;have h2: ∀k,k≠L→k≠i→O' k=g.O k:=fun k d z=>by show(if k=i then g.O L else if k=L then none else g.O k)=_;rw[if_neg z,if_neg d]
 let C':Nat→Option (List Value):=fun k=>if k=i then g.C L else if k=L then none else g.C k
 have A:C' i=g.C L:=if_pos rfl;have D: ∀k,k≠L→k≠i→C' k=g.C k:=fun k d z=>by show(if k=i then g.C L else if k=L then none else g.C k)=_;rw[if_neg z,if_neg d]
 have m: ∀k x,O' k=some x→ ∃j,g.O j=some x∧(j=if k=i then L else k):=by
  intro k x d;have d:(if k=i then g.O L else if k=L then none else g.O k)=some x:=d;split at d
  ·rename_i e;exact⟨L,d,by rw[if_pos e]⟩
  rename_i e;split at d
  ·cases d
  exact⟨k,d,by rw[if_neg e]⟩
 refine⟨{g with O:=O',C:=C'},dW h.fr fun x Z v=>I1 P h2 A D (ul hi x Z),h.df,h.gok,⟨fun k v e F d=>?_,fun k q v v' e e' F Y b d f t hb'=>?_⟩,⟨fun k o d=>?_,fun k q o W d f=>?_⟩,h.lS,h.hB,h.ext,h.glob,h.g1,fun k o q v e F b d f t=>?_⟩
 ·obtain⟨j,M,I⟩:=m k _ d
  have P:=h.own.1 j v e F M;refine⟨P.1,P.2.imp id ?_⟩;rintro⟨b,n,cap,J,l,hv,t,hh,X,T,hcs,u,hl⟩;have hCk:C' k=g.C j:=by
   rw[I];by_cases N:k=i
   ·rw[if_pos N,N];exact A
   rw[if_neg N];have r:k≠L:=fun e9=>by
    subst e9;have d:(if k=i then g.O k else if k=k then none else g.O k)=some (v,e,F):=d;rw[if_neg N,if_pos rfl] at d
    cases d
   exact D k r N
  refine⟨b,n,cap,J,l,hv,⟨t.1,fun d=>t.2 ?_⟩,hh,X,T,hcs,?_,hl⟩
  ·rw[I]
   split
   ·rename_i e;exact hcl (e▸d)
   exact d
  unfold ny at u⊢;show(match C' k with|none=>g.G b=some l|some l'=>g.G b=none∧l'=l∧J.toList.take l.length=l);rw[hCk];exact u
 ·have r: ∀k x,O' k=some x→k≠L:=by
   intro k x d e;subst e;have d:(if k=i then g.O k else if k=k then none else g.O k)=some x:=d;rw[if_neg S,if_pos rfl] at d
   cases d
  obtain⟨j,M,I⟩:=m k _ d;obtain⟨j',hj',y⟩:=m q _ f;have hjj:=h.own.2 j j' v v' e e' F Y b M hj' t hb';have hk1:=r k _ d;have hk2:=r q _ f;by_cases R:k=i<;>by_cases Q:q=i
  ·rw[R,Q]
  ·rw[if_pos R] at I;rw[if_neg Q] at y;omega
  ·rw[if_neg R] at I;rw[if_pos Q] at y;omega
  rw[if_neg R] at I;rw[if_neg Q] at y;omega
 ·have d:aJ (s.bx.map fun(k,o)=>(k,o.map (V.canon L i))) k=some o:=d
  rw[gK] at d
  cases p:aJ s.bx k with
  |none=>rw[p] at d;cases d
  |some H=>rw[p] at d;simp only[xR,aR] at d;subst d;obtain⟨b,c,e,t,hBb,hh,hp,ho,hG,hq2⟩:=h.bxs.1 k H p;exact⟨b,c,e,t,hBb,hh,dW hp fun x Z v=>I1 P h2 A D (zJ hi k H p x Z),ho,hG,kT (UH _ _) hq2⟩
 ·have d:aJ (s.bx.map fun(k,o)=>(k,o.map (V.canon L i))) k=some o:=d
  have f:aJ (s.bx.map fun(k,o)=>(k,o.map (V.canon L i))) q=some W:=f;rw[gK] at d f
  cases p:aJ s.bx k with
  |none=>rw[p] at d;cases d
  |some H=>
   cases K:aJ s.bx q with
   |none=>rw[K] at f;cases f
   |some U=>exact h.bxs.2 k q H U p K
 obtain⟨j,M,_⟩:=m q _ f;have d:aJ (s.bx.map fun(k,o)=>(k,o.map (V.canon L i))) k=some o:=d;rw[gK] at d
 cases p:aJ s.bx k with
 |none=>rw[p] at d;cases d
 |some H=>exact h.zb k H j v e F b p M t
theorem Inv.less (h:Inv E B G0 w0 s g a w) {fr:ah} {bx:List (Nat×ah)} (m:PW (aT g) fr a.tmps.toList) (i: ∀k c,aJ bx k=some c→aJ s.bx k=some c):Inv E B G0 w0 ⟨fr,bx⟩ g a w:=
 ⟨m,h.df,h.gok,h.own,⟨fun k c f=>h.bxs.1 k c (i k c f),fun k l c d f j=>h.bxs.2 k l c d (i k c f) (i l d j)⟩,h.lS,h.hB,h.ext,h.glob,h.g1,fun k c L v e n b f=>h.zb k c L v e n b (i k c f)⟩
theorem Lh {g:Gh} (a:List Nat): ∀(xs:ah) (vs:List Value) (i:Nat),PW (aT g) xs vs→PW (aT g) (CQ a xs i) vs
 |[],vs,i,h=>by rw[h.di];exact .nil
 |x::xs,vs,i,h=>by
  obtain⟨v,t,rfl,c,b⟩:=h.cons_inv;unfold CQ;refine .cons ?_ (Lh a xs t (i+1) b)
  cases a.contains i
  ·exact c
  exact jr
theorem Ep (q:Nat→Bool): ∀(l:List (Nat×ah)) (k:Nat) (c:ah),aJ (l.filter fun(k,_)=>q k) k=some c→aJ l k=some c
 |[],k,c,h=>by cases h
 |(j,g)::l,k,c,h=>by
  have b:=Ep q l k c;simp only[ab5] at h;unfold aJ
  cases d:j==k with
  |true=>
   have e:j=k:=by simpa using d
   subst e;rw[lm]
   cases a:q j with
   |true=>rw[a,if_pos rfl] at h;unfold aJ at h;rw[d,lm] at h;exact h
   |false=>
    rw[a,if_neg (by decide)] at h;exfalso;have: ∀(l:List (Nat×ah)),aJ (l.filter fun(k,_)=>q k) j=none:=by
     intro l;induction l with
     |nil=>rfl
     |cons p l b=>
      obtain⟨i,m⟩:=p;simp only[ab5];by_cases f:q i=true
      ·rw[if_pos f]
       unfold aJ;have:(i==j)=false:=by rw[uE];intro e;subst e;rw[f] at a;cases a
       rw[this,jW];exact b
      rw[if_neg f];exact b
    rw[this l] at h
    cases h
  |false=>
   rw[jW]
   cases a:q j with
   |true=>rw[a,if_pos rfl] at h;unfold aJ at h;rw[d,jW] at h;exact b h
   |false=>rw[a,if_neg (by decide)] at h;exact b h
theorem GZ {L i:Nat} (b:i<HL) (h:fO true L i<HL):L<HL:=by
 unfold fO at h;rw[JH] at h
 cases a:Nat.ble HL L with
 |true=>rw[a,lm] at h;omega
 |false=>
  refine abt fun e=>?_
  rw[acf e] at a
  cases a
theorem J9: ∀(fr:ah) (i:Nat) (b:List Nat) (s:St) (g:Gh),Inv E B G0 w0 s g a w→ ∃g',Inv E B G0 w0 (j3 fr i b s) g' a w:=by
 intro fr;induction fr with
 |nil=>intro i b s g h;exact⟨g,h⟩
 |cons x fr c=>
  intro i b s g h
  cases x with
  |sl e sh l xs=>
   cases l with
   |none=>unfold j3;exact c _ _ _ _ h
   |some L=>
    unfold j3
    cases j:(b.contains L||L==fO true L i) with
    |true=>rw[lm];exact c _ _ _ _ h
    |false=>
     rw[jW]
     cases f:(s.bI (fO true L i)&&Nat.blt i HL) with
     |false=>rw[jW];exact c _ _ _ _ h
     |true=>
      rw[lm];rw[bC] at f;have d:L≠fO true L i:=by intro e;rw[EY,uE] at j;exact j.2 e
      obtain⟨g',k⟩:=h.canon d (GZ (kz f.2)) f.1;exact c _ _ _ _ k
  |_=>unfold j3;exact c _ _ _ _ h
theorem zK (n L:Nat) (h:Inv E B G0 w0 s g a w): ∃g',Inv E B G0 w0 (GQ n L s) g' a w:=by
 unfold GQ
 cases d:(L==fO true L n||s.fr.any (fun v=>v.dP L)) with
 |true=>exact⟨g,h⟩
 |false=>
  rw[jW]
  cases c:(s.bI (fO true L n)&&Nat.blt n HL) with
  |false=>exact⟨g,h⟩
  |true=>
   rw[lm];rw[bC] at c;have b:L≠fO true L n:=by intro e;rw[EY,uE] at d;exact d.1 e
   exact h.canon b (GZ (kz c.2)) c.1
theorem UX (b:Nat): ∀(k:ah) (i:Nat) (s:St) (g:Gh),Inv E B G0 w0 s g a w→ ∃g',Inv E B G0 w0 (nY b k i s) g' a w:=by
 intro k;induction k with
 |nil=>intro i s g h;exact⟨g,h⟩
 |cons x k d=>
  intro i s g h
  cases x with
  |sl e sh t xs=>
   cases t with
   |none=>unfold nY;exact d _ _ _ h
   |some L=>
    unfold nY
    cases o:(L==fO true L (b+i)||s.fr.any (fun v=>v.dP L)) with
    |true=>rw[lm];exact d _ _ _ h
    |false=>
     rw[jW]
     cases n:(s.bI (fO true L (b+i))&&Nat.blt (b+i) HL) with
     |false=>rw[jW];exact d _ _ _ h
     |true=>
      rw[lm];rw[bC] at n;have l:L≠fO true L (b+i):=by intro e;rw[EY,uE] at o;exact o.1 e
      obtain⟨g',f⟩:=h.canon l (GZ (kz n.2)) n.1;exact d _ _ _ f
  |slz L e sh xs p j c u r ys=>
   cases p with
   |none=>unfold nY;obtain⟨g',f⟩:=zK (b+i) L h;exact d _ _ _ f
   |some L2=>unfold nY;obtain⟨g',f⟩:=zK (b+i) L h;obtain⟨q,m⟩:=zK (b+i+5000) L2 f;exact d _ _ _ m
  |_=>unfold nY;exact d _ _ _ h
theorem RZ: ∀(bx:List (Nat×ah)) (s:St) (g:Gh),Inv E B G0 w0 s g a w→ ∃g',Inv E B G0 w0 (FD bx s) g' a w:=by
 intro bx;induction bx with
 |nil=>intro s g h;exact⟨g,h⟩
 |cons p bx c=>intro s g h;unfold FD;obtain⟨g',b⟩:=UX _ _ 0 s g h;exact c _ _ b
theorem Inv.head (h:Inv E B G0 w0 s g a w) (b:List Nat): ∃g',Inv E B G0 w0 (GR b s) g' a w:=by unfold GR;rw[KV];obtain⟨g1,d⟩:=J9 (CQ b s.fr 0) 0 [] _ _ (h.less (Lh b _ _ 0 h.fr) fun k e c=>Ep (fun k=>!b.contains k||(CQ b s.fr 0).any (V.gP k)) _ _ _ c);exact RZ _ _ _ d
end
theorem kG: ∀{m:List (Nat×Nat)} {k v:Nat},lk m k=some v→(k,v)∈m
 |[],k,v,h=>by cases h
 |(a,b)::m,k,v,h=>by
  unfold lk at h
  cases c:a==k with
  |true=>
   rw[c,lm] at h;simp only[aR] at h;obtain rfl:a=k:=by simpa using c
   subst h;exact uY
  |false=>rw[c,jW] at h;exact wN _ (kG h)
theorem um: ∀(l:List Nat),rf l=true↔l.Nodup
 |[]=>by simp[rf]
 |a::l=>by
  unfold rf;rw[abZ,←um l]
  cases b:l.contains a with
  |true=>simp at b;simp[b]
  |false=>simp at b;simp[b]
theorem xA: ∀{m:List (Nat×Nat)} {k v:Nat},(m.map (·.1)).Nodup→(k,v)∈m→lk m k=some v
 |[],k,v,_,h=>by cases h
 |(a,b)::m,k,v,d,h=>by
  rw[qA,abZ] at d;unfold lk;rcases List.mem_cons.1 h with h|h
  ·simp only[bM] at h
   obtain⟨rfl,rfl⟩:=h;rw[Pb,lm]
  have c:a≠k:=fun e=>d.1 (List.mem_map.2 ⟨_,h,e.symm⟩)
  have:(a==k)=false:=by simpa using c
  rw[this,jW];exact xA d.2 h
theorem Zo (m:List (Nat×Nat)):(fC m).map (·.1)=m.map (·.2):=by simp[fC,ac0]
theorem pJ {m:List (Nat×Nat)} {a b:Nat}:(a,b)∈fC m↔(b,a)∈m:=by
 unfold fC;rw[acS];constructor
 ·rintro⟨⟨x,y⟩,d,c⟩;simp only[bM] at c;obtain⟨rfl,rfl⟩:=c;exact d
 intro h;exact⟨_,h,rfl⟩
theorem jZ {m:List (Nat×Nat)} {k v:Nat} (a:(m.map (·.2)).Nodup) (h:(k,v)∈m):lk (fC m) v=some k:=xA (by rw[Zo];exact a) (pJ.2 h)
theorem Bp {m:List (Nat×Nat)} {k v b:Nat} (c:(m.map (·.1)).Nodup) (h:(k,v)∈m) (d:(k,b)∈m):v=b:=by have a:=xA c h;rw[xA c d] at a;simp only[aR] at a;exact a.symm
theorem mM {g g':Gh} {mb ml:List (Nat×Nat)} (d:g'.G=g.G) (s: ∀L n,lk ml L=some n→g'.O n=g.O L) (y: ∀L n,lk ml L=some n→g'.C n=g.C L) (hβ: ∀k n,lk mb k=some n→g'.β n=g.β k) {x:V} {v:Value} (h:bP g x v):bP g' (xQ mb ml x) v:=by
 cases x with
 |sl e sh E xs=>
  cases E with
  |none=>show aV g'.G _ _;rw[d];exact h
  |some L=>
   show bP g' (.sl e sh (lk ml L) xs) v;obtain⟨o,j⟩:=h
   cases m:lk ml L with
   |none=>show aV g'.G _ _;rw[d];exact nK j
   |some n=>exact⟨(s L n m).trans o,by rw[d];exact j⟩
 |eptr _ _ _ _ _ _=>show aV g'.G .any v;unfold aV;trivial
 |epz _ _ _ _ _=>show aV g'.G .any v;unfold aV;trivial
 |slz L e sh xs u i c w p ys=>
  show bP g' (match lk ml L with|some L'=> .slz L' e sh xs (u.bind (lk ml)) i c w p ys|none=> .any) v;obtain⟨l,o,j,t,z⟩:=h
  cases m:lk ml L with
  |none=>show aV g'.G .any v;unfold aV;trivial
  |some n=>
   refine⟨l,(s L n m).trans o,(y L n m).trans j,⟨t.1,t.2.1,by rw[d];exact t.2.2⟩,?_⟩
   cases u with
   |none=>trivial
   |some L2=>
    show rU g' l sh.length (lk ml L2) i c w p ys;obtain⟨D,A,H,B⟩:=z
    cases r:lk ml L2 with
    |none=>trivial
    |some F=>exact⟨D,(s L2 F r).trans A,by rw[d];exact H,B⟩
 |box k off=>
  show bP g' (match lk mb k with|some k'=> .box k' off|none=> .any) v;obtain⟨b,o,j⟩:=h
  cases m:lk mb k with
  |none=>show aV g'.G .any v;unfold aV;trivial
  |some n=>exact⟨b,(hβ k n m).trans o,j⟩
 |fn f q=>
  cases q with
  |nil=>show aV g'.G _ _;rw[d];exact h
  |cons a c=>show aV g'.G .any v;unfold aV;trivial
 |old x=>
  show bP g' (bif x.fG then x else .any) v
  cases x.fG
  ·show aV g'.G .any v;unfold aV;trivial
  exact RF h.2.2 (by rw[d];exact h.2.1)
 |_=>show aV g'.G _ _;rw[d];exact h
theorem wG {mb ml:List (Nat×Nat)} {x:V} (l:x.single=true) (g: ∀f c,x≠.fn f c) (h: ∀y,x≠.old y:=by intro y e;cases e):(xQ mb ml x).single=true:=by
 cases x with
 |sl e sh j xs=>cases j<;>rfl
 |box k off=>show(match lk mb k with|some k'=>V.box k' off|none=>V.any).single=true;cases lk mb k<;>rfl
 |slz L e sh xs b i c d a ys=>show(match lk ml L with|some L'=>V.slz L' e sh xs (b.bind (lk ml)) i c d a ys|none=>V.any).single=true;cases lk ml L<;>rfl
 |tup _=>cases l
 |fn f c=>exact absurd rfl (g f c)
 |old y=>exact absurd rfl (h y)
 |_=>rfl
theorem H9 {g g':Gh} {mb ml:List (Nat×Nat)} (b:g'.G=g.G) (j: ∀L n,lk ml L=some n→g'.O n=g.O L) (d: ∀L n,lk ml L=some n→g'.C n=g.C L) (hβ: ∀k n,lk mb k=some n→g'.β n=g.β k) {x:V} {v:Value} (h:aT g x v):aT g' (x.ren mb ml) v:=by
 cases x with
 |tup vs=>obtain⟨a,rfl,h⟩:=h;exact⟨a,rfl,dW h fun y _ v r=>mM b j d hβ r⟩
 |fn f m=>
  cases m with
  |nil=>obtain⟨a,rfl,h⟩:=h;exact⟨[],by rw[h.di],.nil⟩
  |cons a c=>exact jr
 |sl e sh q xs=>exact bG (wG (x:=.sl e sh q xs) rfl (by intro f c e;cases e)) (mM b j d hβ (aZ (x:=.sl e sh q xs) rfl h))
 |box k off=>exact bG (wG (ml:=ml) (x:=.box k off) rfl (by intro f c e;cases e)) (mM b j d hβ (aZ (x:=.box k off) rfl h))
 |eptr _ _ _ _ _ _=>exact jr
 |epz _ _ _ _ _=>exact jr
 |slz L e sh xs o i c p l ys=>exact bG (wG (mb:=mb) (x:=.slz L e sh xs o i c p l ys) rfl (by intro f c e;cases e)) (mM b j d hβ (aZ (x:=.slz L e sh xs o i c p l ys) rfl h))
 |old x=>
  show aT g' (bif x.fG then x else .any) v
  cases x.fG
  ·exact jr
  exact bZ h.2.2 (by rw[b];exact h.2.1)
 |_=>simp only[aT] at h;exact mM (x:=_) b j d hβ h
theorem iX {a:Nat→Nat→Nat}: ∀(i:Nat) (l:ah) (p:Nat×Nat),p∈qB a i l→ ∃j,p.2=a p.1 j
 |i,[],p,h=>by cases h
 |i,x::l,p,h=>by
  cases x with
  |sl e sh d xs=>
   cases d with
   |none=>exact iX (i+1) l p h
   |some L=>
    rcases List.mem_cons.1 h with h|h
    ·subst h;exact⟨i,rfl⟩
    exact iX (i+1) l p h
  |slz L e sh xs f j c g b ys=>
   cases f with
   |none=>
    rcases List.mem_cons.1 h with h|h
    ·subst h;exact⟨i,rfl⟩
    exact iX (i+1) l p h
   |some L2=>
    rcases List.mem_cons.1 h with h|h
    ·subst h;exact⟨i,rfl⟩
    rcases List.mem_cons.1 h with h|h
    ·subst h;exact⟨i+500,rfl⟩
    exact iX (i+1) l p h
  |_=>exact iX (i+1) l p h
theorem handN_mb {bx:List (Nat×ah)} {j:Nat} {x:V} {p:Nat×Nat} (h:p∈(rQ bx j x).1):p.2=HL+j∧ ∃a,aJ bx p.1=some a:=by
 cases x with
 |box k off=>
  unfold rQ at h;simp only at h;split at h
  ·rename_i a c
   simp only[S7] at h;subst h;exact⟨rfl,a,c⟩
  cases h
 |sl e sh b xs=>cases b<;>cases h
 |_=>cases h
theorem xB {bx:List (Nat×ah)}: ∀(vs:ah) (j:Nat) {p:Nat×Nat},p∈(eF bx j vs).1→(∃a,j≤a∧p.2=HL+a)∧ ∃d,aJ bx p.1=some d
 |[],j,p,h=>by cases h
 |x::vs,j,p,h=>by
  unfold eF at h;rcases List.mem_append.1 h with h|h
  ·obtain⟨c,b⟩:=handN_mb h;exact⟨⟨j,lg _,c⟩,b⟩
  obtain⟨⟨a,c,b⟩,e⟩:=xB vs (j+1) h;exact⟨⟨a,by omega,b⟩,e⟩
theorem handN_ml {bx:List (Nat×ah)} {j:Nat} {x:V} {p:Nat×Nat} (h:p∈(rQ bx j x).2):HL≤p.2:=by
 cases x with
 |box k off=>
  unfold rQ at h;simp only at h;split at h
  ·obtain⟨i,b⟩:=iX _ _ _ h
   omega
  cases h
 |sl e sh a xs=>
  cases a with
  |none=>cases h
  |some L=>simp only[rQ,S7] at h;subst h;simp only;omega
 |_=>cases h
theorem Li {bx:List (Nat×ah)}: ∀(vs:ah) (j:Nat) {p:Nat×Nat},p∈(eF bx j vs).2→HL≤p.2
 |[],j,p,h=>by cases h
 |x::vs,j,p,h=>by
  unfold eF at h;rcases List.mem_append.1 h with h|h
  ·exact handN_ml h
  exact Li vs (j+1) h
theorem zL {x y:V} (h:x.deep=some y) (j:Nat):frArg j y=y∧y.AO=false:=by
 cases x with
 |fn f c=>cases c<;>simp[V.deep] at h;subst h;exact⟨rfl,rfl⟩
 |_=>simp[V.deep] at h<;>subst h<;>exact⟨rfl,rfl⟩
theorem yA {bx:List (Nat×ah)}: ∀(a b:ah) (j:Nat),(eF bx j (a++b)).1=(eF bx j a).1++(eF bx (j+a.length) b).1
 |[],b,j=>by simp[eF]
 |x::a,b,j=>by
  have e: ∀v l j,(eF bx j (v::l)).1=(rQ bx j v).1++(eF bx (j+1) l).1:=fun _ _ _=>rfl
  rw[Py,e,e,yA a b (j+1),DX,fI,show j+1+a.length=j+(a.length+1) by omega]
theorem rq {bx:List (Nat×ah)} {MB ML:List (Nat×Nat)}: ∀(b a args:ah),gG bx MB ML (b++a)=some args→ ∃A H,args=A++H∧gG bx MB ML b=some A∧gG bx MB ML a=some H
 |[],a,args,h=>⟨[],args,rfl,rfl,h⟩
 |x::b,a,args,h=>by
  rw[Py] at h;unfold gG at h;split at h
  ·rename_i y ys e c
   simp only[aR] at h;subst h;obtain⟨A,H,rfl,f,d⟩:=rq b a ys c;refine⟨y::A,H,rfl,?_,d⟩;unfold gG;rw[e,f]
  cases h
theorem wH: ∀(a:ah),∀x∈jK a,∃k,x=.box k HID
 |[],x,h=>by cases h
 |v::a,x,h=>by
  unfold jK at h;rcases List.mem_append.1 h with h|h
  ·split at h
   ·obtain⟨c,_,b⟩:=List.mem_filterMap.1 h
    split at b
    ·rename_i k d
     exact⟨k,(Option.some.inj b).symm⟩
    cases b
   cases h
  exact wH a x h
theorem NF {bx:List (Nat×ah)} {MB ML:List (Nat×Nat)}: ∀(c H:ah),(∀x∈c,∃k,x=.box k HID)→gG bx MB ML c=some H→ ∀y∈H,qC y=true
 |[],H,_,h,y,b=>by
  simp only[gG,aR] at h;subst h
  cases b
 |x::c,H,e,h,y,b=>by
  obtain⟨k,rfl⟩:=e x uY;unfold gG at h;split at h
  ·rename_i z zs a d
   simp only[aR] at h;subst h;rcases List.mem_cons.1 b with rfl|b
   ·unfold vC at a
    simp only at a;split at a
    ·simp only[aR] at a
     subst a;rfl
    cases a
   exact NF c zs (fun x h=>e x (wN _ h)) d y b
  cases h
theorem I4: ∀(A H:ah) (j:Nat),(∀y∈H,qC y=true)→bR j (A++H)=bR j A
 |[],H,j,h=>by
  rw[Fx];induction H generalizing j with
  |nil=>rfl
  |cons y H b=>unfold bR;rw[h y uY,lm,b (j+1) fun z c=>h z (wN _ c)];rfl
 |a::A,H,j,h=>by rw[Py];unfold bR;rw[I4 A H (j+1) h]
theorem hid_bxa {H:ah} (h: ∀y∈H,qC y=true) (a:iP H=false):H=[]:=by
 cases H with
 |nil=>rfl
 |cons y H=>
  have:=h y uY;unfold iP at a;rw[abM,EY] at a
  cases y with
  |bxa _ _=>cases a.1
  |_=>cases this
theorem Lj {g gi:Gh} {bx:List (Nat×ah)} {MB ML:List (Nat×Nat)} (B:gi.G=g.G) (E: ∀L n,lk ML L=some n→gi.O n=g.O L) (H: ∀L n,lk ML L=some n→gi.C n=g.C L) (hβ: ∀k n,(k,n)∈MB→gi.β n=g.β k):
  ∀(o args:ah) (vs:List Value) (j:Nat),o.any MV=false→gG bx MB ML o=some args→(∀p∈(eF bx j o).1,p∈MB)→(∀k n,lk MB k=some n→(k,n)∈MB)→PW (MJ g) o vs→PW (aT gi) (bR j args) vs
 |[],args,vs,j,_,h,_,_,A=>by simp only[gG,aR] at h;subst h;rw[A.di];exact .nil
 |x::o,args,vs,j,m,h,N,s,A=>by
  rw[abM,EY] at m;obtain⟨v,t,rfl,q,P⟩:=A.cons_inv;unfold gG at h;split at h
  ·rename_i y ys d F
   simp only[aR] at h;subst h;have I:qC y=false:=by
    cases x with
    |box k off=>
     unfold vC at d;simp only at d;split at d
     ·simp only[aR] at d
      subst d;exact m.1
     cases d
    |sl e sh K xs=>
     cases K with
     |none=>simp only[vC,V.deep,aR] at d;subst d;rfl
     |some L=>simp only[vC,aR] at d;subst d;rfl
    |fn f c=>
     cases c with
     |nil=>simp only[vC,V.deep,aR] at d;subst d;rfl
     |cons c l=>obtain⟨_,d⟩:=aP (show(bif Nat.blt f yU&&zl (c::l) then some (V.fn f ((c::l).map (xQ MB ML))) else none)=some y from d);simp only[aR] at d;subst d;rfl
    |_=>simp[vC,V.deep] at d<;>subst d<;>rfl
   unfold bR;rw[I,jW];refine .cons ?_ (Lj B E H hβ o ys t (j+1) m.2 F (fun p A=>N p (by unfold eF;exact List.mem_append_right _ A)) s P);have hβ': ∀k n,lk MB k=some n→gi.β n=g.β k:=fun k n S=>hβ k n (s k n S)
   have w: ∀z,MJ g z v→(∀f c,z≠.fn f c)→(∀vs,z≠.tup vs)→bP g z v:=fun z r X Q=>r.elim (fun r=>aZ (by cases z<;>first|rfl|exact absurd rfl (Q _)|exact absurd rfl (X _ _)) r) id
   have i:x.deep=some y→aT gi (frArg j y) v:=by intro D;rw[(zL D j).1];refine bZ (jP D) ?_;rw[B];exact q.elim (fun h=>oL h D) (fun h=>Dc h D)
   cases x with
   |box k off=>
    unfold vC at d;simp only at d;split at d
    ·rename_i l J
     simp only[aR] at d;subst d;show aT gi (.box (HL+j) off) v;obtain⟨b,R,T⟩:=w _ q (by intro f c e;cases e) (by intro vs e;cases e);refine dV.2 ⟨b,?_,T⟩;rw[hβ k (HL+j) (N _ (by unfold eF rQ;simp only[J];exact acG _ (List.mem_singleton.2 rfl)))];exact R
    cases d
   |sl e sh K xs=>
    cases K with
    |none=>exact i d
    |some L=>have d:some (xQ MB ML (.sl e sh (some L) xs))=some y:=d;simp only[aR] at d;subst d;show aT gi (.sl e sh (lk ML L) xs) v;exact bG rfl (mM (x:=.sl e sh (some L) xs) B E H hβ' (w _ q (by intro f c e;cases e) (by intro vs e;cases e)))
   |fn f c=>
    cases c with
    |nil=>exact i d
    |cons c l=>
     obtain⟨W,d⟩:=aP (show(bif Nat.blt f yU&&zl (c::l) then some (V.fn f ((c::l).map (xQ MB ML))) else none)=some y from d);simp only[aR] at d;subst d;show aT gi (.fn f ((c::l).map (xQ MB ML))) v;have q:aT g (.fn f (c::l)) v:=q.elim id fun h=>by have h:aV g.G (.fn f (c::l)) v:=h;unfold aV at h;exact absurd h.2 (by simp)
     obtain⟨a,U,M⟩:=q;exact⟨a,U,dW M fun z _ u r=>mM B E H hβ' r⟩
   |_=>exact i d
  cases h
theorem sI {bx:List (Nat×ah)} {MB ML:List (Nat×Nat)}: ∀(n args:ah) (j:Nat),gG bx MB ML n=some args→ ∀m b,aJ (dI j args) m=some b→ ∃k g,(k,m)∈(eF bx j n).1∧aJ bx k=some g∧b=g.map (V.ren MB ML)
 |[],args,j,h,m,b,l=>by
  simp only[gG,aR] at h;subst h
  cases l
 |x::n,args,j,h,m,b,l=>by
  unfold gG at h;split at h
  ·rename_i y ys d q
   simp only[aR] at h;subst h;have i:aJ (dI (j+1) ys) m=some b→ ∃k g,(k,m)∈(eF bx j (x::n)).1∧aJ bx k=some g∧b=g.map (V.ren MB ML):=by intro l;obtain⟨k,g,t,s⟩:=sI n ys (j+1) q m b l;exact⟨k,g,by unfold eF;exact List.mem_append_right _ t,s⟩
   have a:x.deep=some y→ ∃k g,(k,m)∈(eF bx j (x::n)).1∧aJ bx k=some g∧b=g.map (V.ren MB ML):=by
    intro r;have:=(zL r j).2;refine i ?_
    cases y with
    |bxa _ _=>cases this
    |_=>exact l
   cases x with
   |box k off=>
    unfold vC at d;simp only at d;split at d
    ·rename_i g o
     simp only[aR] at d;subst d;unfold dI aJ at l
     cases p:HL+j==m with
     |true=>
      rw[p,lm] at l;simp only[aR] at l;obtain rfl:HL+j=m:=by simpa using p
      exact⟨k,g,by unfold eF rQ;simp only[o];exact acG _ (List.mem_singleton.2 rfl),o,l.symm⟩
     |false=>rw[p,jW] at l;exact i l
    cases d
   |sl e sh u xs=>
    cases u with
    |none=>exact a d
    |some L=>have d:some (xQ MB ML (.sl e sh (some L) xs))=some y:=d;simp only[aR] at d;subst d;exact i l
   |fn f c=>
    cases c with
    |nil=>exact a d
    |cons c g=>obtain⟨_,d⟩:=aP (show(bif Nat.blt f yU&&zl (c::g) then some (V.fn f ((c::g).map (xQ MB ML))) else none)=some y from d);simp only[aR] at d;subst d;exact i l
   |_=>exact a d
  cases h
theorem zM {bx:List (Nat×ah)} {MB ML:List (Nat×Nat)}: ∀(m args:ah) (j:Nat) (bs:List (ah)),gG bx MB ML m=some args→ ∀(i:Nat) k l g,(eF bx j m).1[i]? =some (k,l)→bs[i]? =some g→aJ (fJ j args bs) l=some g
 |[],args,j,bs,h,i,k,l,g,d,_=>by simp[eF] at d
 |x::m,args,j,bs,h,i,k,l,g,d,n=>by
  unfold gG at h;split at h
  ·rename_i y ys b o
   simp only[aR] at h;subst h;unfold eF at d;have plain:(rQ bx j x).1=[]→fJ j (y::ys) bs=fJ (j+1) ys bs→aJ (fJ j (y::ys) bs) l=some g:=by intro q u;rw[q] at d;rw[u];exact zM m ys (j+1) bs o i k l g d n
   have a:x.deep=some y→(rQ bx j x).1=[]→aJ (fJ j (y::ys) bs) l=some g:=by
    intro r q;have:=(zL r j).2;refine plain q ?_
    cases y with
    |bxa _ _=>cases this
    |_=>rfl
   cases x with
   |box A off=>
    unfold vC at b;simp only at b;split at b
    ·rename_i t p
     simp only[aR] at b;subst b;unfold rQ at d;simp only[p] at d
     cases bs with
     |nil=>simp at n
     |cons c0 bs=>
      cases i with
      |zero=>simp only[Py,Fx,O8,aR,bM] at d n;obtain⟨rfl,rfl⟩:=d;subst n;unfold fJ aJ;rw[Pb,lm]
      |succ i=>
       simp only[Py,Fx,abB] at d n;have w:=F9 d;obtain⟨⟨z,B,s⟩,_⟩:=xB m (j+1) w;unfold fJ aJ;have:(HL+j==l)=false:=by rw[uE];simp only at s;omega
       rw[this,jW];exact zM m ys (j+1) bs o i k l g d n
    cases b
   |sl e sh v xs=>
    cases v with
    |none=>exact a b rfl
    |some L=>have b:some (xQ MB ML (.sl e sh (some L) xs))=some y:=b;simp only[aR] at b;subst b;exact plain rfl rfl
   |fn f c=>
    cases c with
    |nil=>exact a b rfl
    |cons c g=>obtain⟨_,b⟩:=aP (show(bif Nat.blt f yU&&zl (c::g) then some (V.fn f ((c::g).map (xQ MB ML))) else none)=some y from b);simp only[aR] at b;subst b;exact plain rfl rfl
   |_=>exact a b rfl
  cases h
theorem Dn {E:Env} {B:Own} {G0:aU} {d:World} {a:Act} {w:World}: ∀(l:List Nat) (s:St) (g:Gh),Inv E B G0 d s g a w→
  ∃g',g'.G=g.G∧g'.β=g.β∧(∀k,k∈l→g'.O k=none)∧(∀k,k∉l→g'.O k=g.O k)∧g'.G1=g.G1∧g'.C=g.C∧Inv E B G0 d (qD s l) g' a w
 |[],s,g,h=>⟨g,rfl,rfl,(fun k b=>absurd b (by simp)),(fun _ _=>rfl),rfl,rfl,h⟩
 |L::l,s,g,h=>by
  obtain⟨g',m,f,i,e,j,n,o⟩:=Dn l (s.kill L) _ (h.kill L);refine⟨g',m,f,fun k b=>?_,fun k b=>?_,j,n,o⟩
  ·by_cases c:k∈l
   ·exact i k c
   rw[e k c];rcases List.mem_cons.1 b with rfl|b
   ·exact if_pos rfl
   exact absurd b c
  rw[Yy,not_or] at b;rw[e k b.2];exact if_neg b.1
theorem pX: ∀(l:List Nat) (s:St) (k:Nat),(∃a,aJ (qD s l).bx k=some a)↔ ∃a,aJ s.bx k=some a
 |[],s,k=>Iff.rfl
 |L::l,s,k=>by
  unfold qD;rw[pX l,oM]
  cases aJ s.bx k<;>simp
theorem I5 (k:Nat) (b:ah): ∀(l:List (Nat×ah)) (j:Nat),(∃a,aJ (xZ l k b) j=some a)↔ ∃a,aJ l j=some a
 |[],j=>Iff.rfl
 |(i,a)::l,j=>by
  unfold xZ
  cases c:i==k with
  |true=>
   rw[lm];unfold aJ;obtain rfl:i=k:=by simpa using c
   cases i==j<;>simp
  |false=>
   rw[jW];unfold aJ
   cases i==j with
   |true=>simp
   |false=>exact I5 k b l j
theorem I6 {mb ml:List (Nat×Nat)}: ∀(l:List (Nat×Nat)) (bs:List (ah)) (bx:List (Nat×ah)),bs.length=l.length→(l.map (·.1)).Nodup→(∀p∈l,∃old,aJ bx p.1=some old)→ ∀k,
  (∃(i:Nat) (r:Nat) (m:ah),l[i]? =some (k,r)∧bs[i]? =some m∧aJ (KF mb ml l bs bx) k=some (m.map (V.ren mb ml)))∨((∀p∈l,p.1≠k)∧aJ (KF mb ml l bs bx) k=aJ bx k)
 |[],bs,bx,_,_,_,k=> .inr ⟨(fun p g=>absurd g (by simp)),by cases bs<;>rfl⟩
 |(a,b)::l,[],bx,n,_,_,k=>by simp at n
 |(a,b)::l,c::bs,bx,n,s,t,k=>by
  rw[qA,abZ] at s;obtain⟨old,d⟩:=t (a,b) uY;have d:aJ bx a=some old:=d;have f:=fun j=>pW bx a j (c.map (V.ren mb ml)) old d
  unfold KF;rcases I6 l bs (xZ bx a (c.map (V.ren mb ml))) (by simpa using n) s.2 (fun p g=>(I5 _ _ bx p.1).2 (t p (wN _ g))) k with⟨i,r,m,q,h,u⟩|⟨q,h⟩
  ·exact .inl ⟨i+1,r,m,by simpa using q,by simpa using h,u⟩
  by_cases o:k=a
  ·subst o
   refine .inl ⟨0,b,c,rfl,rfl,?_⟩;rw[h,f k,if_pos rfl]
  refine .inr ⟨fun p g=>?_,?_⟩
  ·rcases List.mem_cons.1 g with rfl|g
   ·exact fun e=>o e.symm
   exact q p g
  rw[h,f k,if_neg o]
theorem qP: ∀(l:List (Nat×Nat)) (a:List Nat),((o9 a l).map (·.1)).Nodup∧ ∀p∈o9 a l,p∈l∧p.1∉a
 |[],a=>⟨List.nodup_nil,(fun p b=>absurd b (by simp[o9]))⟩
 |(L,n)::l,a=>by
  unfold o9
  cases f:a.contains L with
  |true=>rw[lm];obtain⟨d,c⟩:=qP l a;exact⟨d,fun p b=>⟨wN _ (c p b).1,(c p b).2⟩⟩
  |false=>
   rw[jW];obtain⟨d,c⟩:=qP l (L::a);simp at f;refine⟨?_,fun p b=>?_⟩
   ·rw[qA,abZ]
    refine⟨fun h=>?_,d⟩;obtain⟨p,b,i⟩:=List.mem_map.1 h;exact(c p b).2 (by rw[i];exact uY)
   rcases List.mem_cons.1 b with rfl|b
   ·exact⟨uY,f⟩
   obtain⟨g,j⟩:=c p b;exact⟨wN _ g,fun e=>j (wN _ e)⟩
theorem Ll {any:Bool} {d:Nat} {x:V}: ∀(mb:List (Nat×Nat)) (bs:List (ah)) (p:Nat×Nat),p∈Gw any d x mb bs→ ∃i,p.2=fO any p.1 i
 |[],bs,p,h=>by
  have h:p∈qB (fun L i=>fO any L (match i with|0=>d|_=>d+1000*i)) 0 (CJ x):=by cases bs<;>exact h
  obtain⟨j,a⟩:=iX _ _ _ h;exact⟨_,a⟩
 |(k,b)::mb,[],p,h=>by have h:p∈qB (fun L i=>fO any L (match i with|0=>d|_=>d+1000*i)) 0 (CJ x):=h;obtain⟨j,a⟩:=iX _ _ _ h;exact⟨_,a⟩
 |(k,b)::mb,c::bs,p,h=>by
  unfold Gw at h;rcases List.mem_append.1 h with h|h
  ·obtain⟨j,a⟩:=iX _ _ _ h
   exact⟨_,a⟩
  exact Ll mb bs p h
section
variable {E:Env} {B:Own} {G0:aU} {w0:World} {s:St} {g:Gh} {a:Act} {w:World}
def yj (g:Gh) (w:World) (mb ml:List (Nat×Nat)):Own where
 m:=fun b=>(∃k a,(k,a)∈mb∧g.β k=some b)∨(∃L n v e c,(L,n)∈ml∧g.O L=some (v,e,c)∧v.ownBlock=some b)∨w.heap.size≤b
 n:=w.heap.size
 β:=fun a=>match lk (fC mb) a with|some k=>g.β k|none=>none
 df:=[]
def qG (g:Gh) (mb ml:List (Nat×Nat)):Gh where
 G:=g.G
 O:=fun n=>match lk (fC ml) n with|some L=>g.O L|none=>none
 β:=fun a=>match lk (fC mb) a with|some k=>g.β k|none=>none
 G1:=g.G
 C:=fun n=>match lk (fC ml) n with|some L=>g.C L|none=>none
theorem Er: ∀{l:List (Nat×Nat)},yg l=false→ ∀{L n:Nat},(L,n)∈l→L<HL
 |[],_,L,n,h=>by cases h
 |(a,b)::l,h,L,n,c=>by
  unfold yg at h;rw[EY] at h;rcases List.mem_cons.1 c with c|c
  ·simp only[bM] at c
   rw[c.1];refine abt fun e=>?_
   rw[acf e] at h
   cases h.1
  exact Er h.2 c
theorem Es {mb ml:List (Nat×Nat)} (h:o6 mb ml=true):(mb.map (·.1)).Nodup∧(mb.map (·.2)).Nodup∧(ml.map (·.1)).Nodup∧(ml.map (·.2)).Nodup:=by unfold o6 at h;simp only[bC,um] at h;exact⟨h.1.1.1,h.1.1.2,h.1.2,h.2⟩
theorem wI {bx:List (Nat×ah)} {a args:ah} {mb ml:List (Nat×Nat)} (h:o7 bx 0 a=some (args,mb,ml)):mb=(eF bx 0 (a++jK a)).1∧ml=(eF bx 0 (a++jK a)).2∧gG bx mb ml (a++jK a)=some args∧a.any MV=false:=by
 unfold o7 at h
 cases b:a.any MV with
 |true=>rw[b] at h;cases h
 |false=>
  rw[b,jW] at h;unfold WG at h;split at h
  ·rename_i x c
   simp only[aR,bM] at h;obtain⟨rfl,rfl,rfl⟩:=h;exact⟨rfl,rfl,c,rfl⟩
  cases h
theorem hand_m (h:Inv E B G0 w0 s g a w) {mb ml:List (Nat×Nat)} (u: ∀p∈mb,∃i,aJ s.bx p.1=some i): ∀b,(yj g w mb ml).m b→B.m b:=by
 rintro b (⟨k,A,x,c⟩|⟨L,n,v,e,q,hL,z,c⟩|c)
 ·obtain⟨i,y⟩:=u _ x
  obtain⟨t,_,_,j,r,_⟩:=h.bxs.1 k i y;rw[c] at j;simp only[aR] at j;rw[j];exact r
 ·rcases(h.own.1 L v e q z).2 with f|⟨t,n,cap,o,l,f,d,_⟩
  ·rw[f] at c;cases c
  rw[f] at c;simp only[Value.ownBlock,aR] at c;rw[←c];exact d.1
 exact h.hB.2 b c
theorem pY (h:Inv E B G0 w0 s g a w) {f args:ah} {vs:List Value} {mb ml:List (Nat×Nat)} (F:PW (MJ g) f vs) (ho:o7 s.bx 0 f=some (args,mb,ml)) (hn:o6 mb ml=true):
  Inv E (yj g w mb ml) g.G w ⟨bR 0 args,dI 0 args⟩ (qG g mb ml) ⟨vs.toArray,[]⟩ w:=by
 obtain⟨n1,n2,n3,n4⟩:=Es hn;obtain⟨Q,e2,K,S⟩:=wI ho;have hm: ∀p∈mb,(∃j,p.2=HL+j)∧ ∃J,aJ s.bx p.1=some J:=fun p F=>by rw[Q] at F;obtain⟨⟨j,_,hj⟩,hc⟩:=xB (f++jK f) 0 F;exact⟨⟨j,hj⟩,hc⟩
 have t: ∀p∈ml,HL≤p.2:=fun p F=>by rw[e2] at F;exact Li (f++jK f) 0 F
 have hO: ∀L n,lk ml L=some n→(qG g mb ml).O n=g.O L:=fun L n t=>by show(match lk (fC ml) n with|some L=>g.O L|none=>none)=_;rw[jZ n4 (kG t)]
 have hC: ∀L n,lk ml L=some n→(qG g mb ml).C n=g.C L:=fun L n t=>by show(match lk (fC ml) n with|some L=>g.C L|none=>none)=_;rw[jZ n4 (kG t)]
 have hC2: ∀L n,(L,n)∈ml→(qG g mb ml).C n=g.C L:=fun L n t=>by show(match lk (fC ml) n with|some L=>g.C L|none=>none)=_;rw[jZ n4 t]
 have hβ: ∀k n,(k,n)∈mb→(qG g mb ml).β n=g.β k:=fun k n t=>by show(match lk (fC mb) n with|some L=>g.β L|none=>none)=_;rw[jZ n2 t]
 have d: ∀n x,(qG g mb ml).O n=some x→ ∃L,(L,n)∈ml∧g.O L=some x:=fun n x q=>by
  have q:(match lk (fC ml) n with|some L=>g.O L|none=>none)=some x:=q;split at q
  ·rename_i L hL;exact⟨L,pJ.1 (kG hL),q⟩
  cases q
 refine⟨?_,rfl,h.gok,⟨fun n v e N M=>?_,fun n n' v v' e e' N sz' b o z i hb'=>?_⟩,⟨fun D u r=>?_,fun k D J u hk r i=>?_⟩,.refl _ _,⟨lg _,fun b i=> .inr (.inr i)⟩,⟨fun _ _=>rfl,.refl _,fun _ _=>rfl⟩,⟨h.ku,fun b l i=>fw h.gok i⟩,.refl _,fun D u n v e N b r M i hβb=>?_⟩
 ·show PW (aT (qG g mb ml)) (bR 0 args) vs.toArray.toList
  rw[acu];obtain⟨A,H,rfl,hA,hH⟩:=rq f (jK f) args K;rw[I4 A H 0 (NF (jK f) H (wH f) hH)];exact Lj (g:=g) (gi:=qG g mb ml) rfl hO hC hβ f A vs 0 S hA (fun p F=>by rw[Q,yA];exact acG _ F) (fun k n=>kG) F
 ·obtain⟨L,hL,q⟩:=d n _ M
  obtain⟨o,z⟩:=h.own.1 L v e N q;refine⟨o,z.imp id ?_⟩;rintro⟨b,m,cap,X,l,R,i,hh,Z,U,hcs,I,Y⟩;refine⟨b,m,cap,X,l,R,⟨.inr (.inl ⟨L,n,v,e,N,hL,q,by rw[R];rfl⟩),fun hlt=>?_⟩,hh,Z,U,hcs,by unfold ny at I⊢;rw[hC2 L n hL];exact I,Y⟩;have:=t _ hL;simp only at this;omega
 ·obtain⟨L,hL,q⟩:=d n _ o
  obtain⟨L',hL',T⟩:=d n' _ z;have:=h.own.2 L L' v v' e e' N sz' b q T i hb';subst this;exact Bp n3 hL hL'
 ·obtain⟨k,J,o,z,rfl⟩:=sI (f++jK f) args 0 K D u r
  rw[←Q] at o;obtain⟨b,c,e,i,hBb,hh,W,P,hG,hq9⟩:=h.bxs.1 k J z;exact⟨b,c,e,(hβ k D o).trans i,.inl ⟨k,D,o,i⟩,hh,dW W fun y _ v K=>H9 (g:=g) (g':=qG g mb ml) rfl hO hC (fun k n t=>hβ k n (kG t)) K,P,hG,kT (Hw _ _) hq9⟩
 ·obtain⟨k1,cs1,o,z,_⟩:=sI (f++jK f) args 0 K k J hk
  obtain⟨k2,cs2,h3,h4,_⟩:=sI (f++jK f) args 0 K D u r;rw[←Q] at o h3;rw[hβ k1 k o,hβ k2 D h3] at i;have:=h.bxs.2 k1 k2 cs1 cs2 z h4 i;subst this;exact Bp n1 o h3
 obtain⟨L,hL,q⟩:=d n _ M;obtain⟨k,J,o,z,_⟩:=sI (f++jK f) args 0 K D u r;rw[←Q] at o;rw[hβ k D o] at hβb;exact h.zb k J L v e N b z q i hβb
theorem Dp (h:Inv E B G0 w0 s g a w) {as args:ah} {mb ml:List (Nat×Nat)} (ho:o7 s.bx 0 as=some (args,mb,ml)) (hn:o6 mb ml=true) {d:Option Nat} {x:V} {bs:List (ah)} {s':St} (hs:pq s d mb ml x bs=some s')
  {g1:Gh} {v:Value} {w':World} (P:Inv E (yj g w mb ml) g.G w ⟨[x],fJ 0 args bs⟩ g1 ⟨#[v],[]⟩ w'):
  ∃g2,Inv E B G0 w0 s' g2 (a.put d v) w':=by
 obtain⟨n1,n2,n3,n4⟩:=Es hn;obtain⟨e1,e2,hv,hnoh⟩:=wI ho;have hm: ∀p∈mb,(∃j,p.2=HL+j)∧ ∃N,aJ s.bx p.1=some N:=fun p hp=>by rw[e1] at hp;obtain⟨⟨j,_,hj⟩,hc⟩:=xB (as++jK as) 0 hp;exact⟨⟨j,hj⟩,hc⟩
 unfold pq at hs;have hfst:=qP (Gw (yg ml) (dOr d) x mb bs) [];have hcls: ∀p∈o9 [] (Gw (yg ml) (dOr d) x mb bs),∃i,p.2=fO (yg ml) p.1 i:=fun p hp=>Ll mb bs p (hfst.2 p hp).1
 have n6:=hfst.1;clear hfst;generalize o9 [] (Gw (yg ml) (dOr d) x mb bs)=JK at hs hcls n6;unfold WH at hs;obtain⟨hc,hs⟩:=aP hs;rw[bC,um,iM] at hc;obtain⟨n5,hlen⟩:=hc;simp only[aR] at hs;obtain⟨ga,ga1,ga2,ga3,ga4,ga5,ga6,ha⟩:=Dn (ml.map (·.1)) s g h;obtain⟨gb,gb1,gb2,gb3,gb4,gb5,gb6,hb⟩:=Dn (JK.map (·.2)) _ ga ha;have z: ∀L x,gb.O L=some x→g.O L=some x∧(∀n,(L,n)∉ml)∧ ∀n,(n,L)∉JK:=by
  intro L x hL;by_cases r:L∈JK.map (·.2)
  ·rw[gb3 L r] at hL;cases hL
  rw[gb4 L r] at hL;by_cases M:L∈ml.map (·.1)
  ·rw[ga3 L M] at hL;cases hL
  rw[ga4 L M] at hL;exact⟨hL,fun n hn=>M (List.mem_map.2 ⟨_,hn,rfl⟩),fun n hn=>r (List.mem_map.2 ⟨_,hn,rfl⟩)⟩
 have hbxm: ∀k N b,aJ s.bx k=some N→(∀p∈mb,p.1≠k)→g.β k=some b→ ¬(yj g w mb ml).m b:=by
  intro k N b t hne f;obtain⟨b1,c1,_,F,_,q3,_,_,q6,_⟩:=h.bxs.1 k N t;rw[f] at F;simp only[aR] at F;subst F;rintro(⟨k2,q,r,M⟩|⟨L,n,v,e,J,hL,hO,hb''⟩|h3)
  ·obtain⟨_,cs2,hc2⟩:=hm _ r
   exact hne _ r (h.bxs.2 k2 k cs2 N hc2 t (M.trans f.symm))
  ·exact h.zb k N L v e J b t hO hb'' f
  have:=(Array.getElem?_eq_some_iff.1 q3).1;omega
 have S: ∀L v e J b,g.O L=some (v,e,J)→(∀n,(L,n)∉ml)→v.ownBlock=some b→ ¬(yj g w mb ml).m b:=by
  intro L v e J b hO hne f;rcases(h.own.1 L v e J hO).2 with hv|⟨b2,_,_,_,l,hv,_,hh,_,_,_,hG,_⟩
  ·rw[hv] at f;cases f
  have o:=f;rw[hv] at o;simp only[Value.ownBlock,aR] at o;subst o;rintro(⟨k2,q,r,M⟩|⟨L2,n,v2,e2,sz2,Q,hO2,o⟩|h3)
  ·obtain⟨_,cs2,hc2⟩:=hm _ r
   exact h.zb k2 cs2 L v e J b2 hc2 hO f M
  ·have:=h.own.2 L L2 v v2 e e2 J sz2 b2 hO hO2 f o
   subst this;exact hne _ Q
  have:=(Array.getElem?_eq_some_iff.1 hh).1;omega
 have hmM:=hand_m h (ml:=ml) fun p hp=>(hm p hp).2
 let O2:Nat→Option (Value×Nat×Nat):=fun L=>match lk (fC JK) L with|some n=>g1.O n|none=>gb.O L
 let C2:Nat→Option (List Value):=fun L=>match lk (fC JK) L with|some n=>g1.C n|none=>gb.C L
 let g2:Gh:=⟨g1.G,O2,g.β,g.G1,C2⟩
 have Y: ∀L x,gb.O L=some x→C2 L=gb.C L:=by
  intro L x hL;have r:=(z L x hL).2.2;show(match lk (fC JK) L with|some n=>g1.C n|none=>gb.C L)=_
  cases hq:lk (fC JK) L with
  |some n=>exact absurd (pJ.1 (kG hq)) (r n)
  |none=>rfl
 have X: ∀n L,(n,L)∈JK→C2 L=g1.C n:=by intro n L hL;show(match lk (fC JK) L with|some n=>g1.C n|none=>gb.C L)=_;rw[jZ n5 hL]
 have hO2old: ∀L x,gb.O L=some x→O2 L=some x:=by
  intro L x hL;have r:=(z L x hL).2.2;show(match lk (fC JK) L with|some n=>g1.O n|none=>gb.O L)=_
  cases hq:lk (fC JK) L with
  |some n=>exact absurd (pJ.1 (kG hq)) (r n)
  |none=>exact hL
 have hO2new: ∀n L,lk JK n=some L→O2 L=g1.O n:=by intro n L hL;show(match lk (fC JK) L with|some n=>g1.O n|none=>gb.O L)=_;rw[jZ n5 (kG hL)]
 have I: ∀L x,O2 L=some x→(∃n,(n,L)∈JK∧g1.O n=some x)∨gb.O L=some x:=by
  intro L x hL;have hL:(match lk (fC JK) L with|some n=>g1.O n|none=>gb.O L)=some x:=hL;split at hL
  ·rename_i n hq;exact .inl ⟨n,pJ.1 (kG hq),hL⟩
  exact .inr hL
 have hext:Ext gb g2:=by
  refine⟨?_,hO2old,fun L v e J b hL f=>?_,fun k b t=>?_,by rw[gb5,ga5],fun L x hL=>Y L x hL⟩
  ·rw[gb1,ga1];exact P.ext.2.1
  ·obtain⟨F,q2,_⟩:=z L _ hL
   show g1.G b=gb.G b;rw[gb1,ga1];exact P.ext.1 b (S L v e J b F q2 f)
  rw[gb2,ga2] at t;exact t
 have hβ1: ∀k q,lk (fC mb) q=some k→g2.β k=g1.β q:=by
  intro k q t;have Z:=pJ.1 (kG t);obtain⟨⟨j,hj⟩,_⟩:=hm _ Z;simp only at hj;rw[P.ext.2.2 q (by omega)];show g.β k=(match lk (fC mb) q with|some k=>g.β k|none=>none)
  rw[t]
 have hren: ∀(y:V) (u:Value),aT g1 y u→aT g2 (y.ren (fC mb) JK) u:=fun y u hy=>H9 (g:=g1) (g':=g2) rfl (fun n L hL=>hO2new n L hL) (fun n L hL=>X n L (kG hL)) (fun q k t=>hβ1 k q t) hy
 have H: ∀k N,aJ (qD (qD s (ml.map (·.1))) (JK.map (·.2))).bx k=some N→ ∃cs0,aJ s.bx k=some cs0:=fun k N t=>(pX _ _ _).1 ((pX _ _ _).1 ⟨N,t⟩)
 have W:=I6 (mb:=fC mb) (ml:=JK) mb bs (qD (qD s (ml.map (·.1))) (JK.map (·.2))).bx hlen n1 (fun p hp=>(pX _ _ _).2 ((pX _ _ _).2 (hm p hp).2));have R: ∀(i:Nat) k q N,mb[i]? =some (k,q)→bs[i]? =some N→aJ (fJ 0 args bs) q=some N:=fun i k q N r M=>zM (as++jK as) args 0 bs hv i k q N (by rw[←e1];exact r) M
 have hboxG: ∀k q b,(k,q)∈mb→g.β k=some b→g1.G b=none:=by
  intro k q b t f;obtain⟨i,hi⟩:=aa5 t;have hib:i<bs.length:=by rw[hlen];exact(List.getElem?_eq_some_iff.1 hi).1
  obtain⟨b2,_,_,F,_,_,_,_,q6,_⟩:=P.bxs.1 q _ (R i k q _ hi (iZ hib));rw[←hβ1 k q (jZ n2 t)] at F;have F:g.β k=some b2:=F;rw[f] at F;simp only[aR] at F;rw[F];exact q6
 have hbig:Inv E B G0 w0 ⟨(qD (qD s (ml.map (·.1))) (JK.map (·.2))).fr,KF (fC mb) JK mb bs (qD (qD s (ml.map (·.1))) (JK.map (·.2))).bx⟩ g2 a w':=by
  refine⟨hb.fr.mono fun y _ u=>rY hext,h.df,P.gok,⟨fun L v e J hL=>?_,fun L L' v v' e e' J sz' b hL hL' U o=>?_⟩,⟨fun k N t=>?_,fun k q N cs' t hk' hbe=>?_⟩,h.lS.trans (P.lS.mono hmM),FE h.hB P.lS.lS.size,⟨fun b hbm=>(P.ext.1 b fun e=>hbm (hmM b e)).trans (h.ext.1 b hbm),h.ext.2.1.trans P.ext.2.1,h.ext.2.2⟩,h.glob,h.g1,fun k N L v e J b t hL f hβb=>?_⟩
  ·rcases I L _ hL with⟨n,hn',hL⟩|hL
   ·obtain⟨F,q2⟩:=P.own.1 n v e J hL
    refine⟨F,q2.imp id ?_⟩;rintro⟨b,m,cap,cur,l,D,K,hh,hnc,hcm,hcs,hG,hl⟩;refine⟨b,m,cap,cur,l,D,⟨hmM b K.1,fun hlt=>?_⟩,hh,hnc,hcm,hcs,by unfold ny at hG⊢;rw[show g2.C L=g1.C n from X n L hn'];exact hG,hl⟩;obtain⟨i,hi⟩:=hcls _ hn';simp only at hi;by_cases hnl:n<HL
    ·exact Cr h.hB.1 (K.2 hnl)
    have hany:yg ml=false:=by
     cases hq:yg ml with
     |false=>rfl
     |true=>rw[hq] at hi;unfold fO at hi;rw[acf (Nat.le_of_not_lt hnl),Bool.and_self,lm] at hi;omega
    rcases K.1 with⟨k2,q,r,M⟩|⟨L2,n2',v2,e2,sz2,Q,hO2,o⟩|h3
    ·exfalso
     obtain⟨i2,hi2⟩:=aa5 r;have hib:i2<bs.length:=by rw[hlen];exact(List.getElem?_eq_some_iff.1 hi2).1
     refine P.zb q _ n v e J b (R i2 k2 q _ hi2 (iZ hib)) hL (by rw[D];rfl) ?_;rw[←hβ1 k2 q (jZ n2 r)];exact M
    ·have h5:=Er hany Q
     rcases(h.own.1 L2 v2 e2 sz2 hO2).2 with hv2|⟨b3,_,_,_,_,hv2,hok2,_⟩
     ·rw[hv2] at o;cases o
     rw[hv2] at o;simp only[Value.ownBlock,aR] at o;rw[←o];exact hok2.2 h5
    exact Cr h.hB.1 h3
   obtain⟨r1,r2,_⟩:=z L _ hL;obtain⟨F,q2⟩:=h.own.1 L v e J r1;refine⟨F,q2.imp id ?_⟩;rintro⟨b,m,cap,cur,l,D,K,hh,hnc,hcm,hcs,hG,hl⟩;have A:=S L v e J b r1 r2 (by rw[D];rfl);exact⟨b,m,cap,cur,l,D,K,by rw[P.lS.row b A];exact hh,hnc,hcm,hcs,hG.keep (show C2 L=g.C L by rw[Y L _ hL,gb6,ga6]) (P.ext.1 b A),hl⟩
  ·rcases I L _ hL with⟨n,hn1,hL1⟩|hL1<;>rcases I L' _ hL' with⟨n',hn2,Q⟩|Q
   ·have:=P.own.2 n n' v v' e e' J sz' b hL1 Q U o
    subst this;exact Bp n6 hn1 hn2
   ·exfalso
    obtain⟨r1,r2,_⟩:=z L' _ Q;have A:=S L' v' e' sz' b r1 r2 o;rcases(P.own.1 n v e J hL1).2 with D|⟨b3,_,_,_,_,D,K,_⟩
    ·rw[D] at U;cases U
    rw[D] at U;simp only[Value.ownBlock,aR] at U;rw[←U] at A;exact A K.1
   ·exfalso
    obtain⟨r1,r2,_⟩:=z L _ hL1;have A:=S L v e J b r1 r2 U;rcases(P.own.1 n' v' e' sz' Q).2 with D|⟨b3,_,_,_,_,D,K,_⟩
    ·rw[D] at o;cases o
    rw[D] at o;simp only[Value.ownBlock,aR] at o;rw[←o] at A;exact A K.1
   exact h.own.2 L L' v v' e e' J sz' b (z L _ hL1).1 (z L' _ Q).1 U o
  ·rcases W k with⟨i,q,c0,r,M,h3⟩|⟨r,M⟩
   ·rw[h3] at t
    simp only[aR] at t;subst t;have Z:=F9 r;obtain⟨_,cs0,hcs0⟩:=hm _ Z;obtain⟨b,_,_,p1,p2,_⟩:=h.bxs.1 k cs0 hcs0;obtain⟨b2,c,e,F,_,q3,q4,q5,q6,q7⟩:=P.bxs.1 q c0 (R i k q c0 r M);rw[←hβ1 k q (jZ n2 Z)] at F;have F:g.β k=some b2:=F;rw[p1] at F;simp only[aR] at F;subst F;exact⟨b,c,e,p1,p2,q3,dW q4 fun y _ u=>hren y u,q5,q6,kT (Hw _ _) q7⟩
   rw[M] at t;obtain⟨cs0,hcs0⟩:=H k N t;obtain⟨b,c,e,F,q2,q3,q4,q5,q6,q7⟩:=hb.bxs.1 k N t;rw[gb2,ga2] at F;rw[gb1,ga1] at q6;have A:=hbxm k cs0 b hcs0 r F;exact⟨b,c,e,F,q2,by rw[P.lS.row b A];exact q3,q4.mono fun y _ u=>rY hext,q5,by show g1.G b=none;rw[P.ext.1 b A];exact q6,q7⟩
  ·have T: ∃c0,aJ s.bx k=some c0:=by
    rcases W k with⟨i,k1,c0,r,_⟩|⟨_,M⟩
    ·exact(hm _ (F9 r)).2
    rw[M] at t;exact H k N t
   have hk0': ∃c0,aJ s.bx q=some c0:=by
    rcases W q with⟨i,k1,c0,r,_⟩|⟨_,M⟩
    ·exact(hm _ (F9 r)).2
    rw[M] at hk';exact H q cs' hk'
   obtain⟨c0,T⟩:=T;obtain⟨c0',hk0'⟩:=hk0';exact h.bxs.2 k q c0 c0' T hk0' hbe
  have hβb:g.β k=some b:=hβb;have T: ∃c0,aJ s.bx k=some c0:=by
   rcases W k with⟨i,k1,c0,r,_⟩|⟨_,M⟩
   ·exact(hm _ (F9 r)).2
   rw[M] at t;exact H k N t
  obtain⟨c0,T⟩:=T;rcases I L _ hL with⟨n,hn',hL⟩|hL
  ·rcases W k with⟨i,q,c1,r,M,_⟩|⟨r,_⟩
   ·refine P.zb q c1 n v e J b (R i k q c1 r M) hL f ?_
    rw[←hβ1 k q (jZ n2 (F9 r))];exact hβb
   have A:=hbxm k c0 b T r hβb;rcases(P.own.1 n v e J hL).2 with hv|⟨b2,_,_,_,_,hv,K,_⟩
   ·rw[hv] at f;cases f
   rw[hv] at f;simp only[Value.ownBlock,aR] at f;subst f;exact A K.1
  exact h.zb k c0 L v e J b T (z L _ hL).1 f hβb
 rw[←hs];exact⟨g2,hbig.put d (hren x v P.fr.head)⟩
end
section
variable {E:Env} {B:Own} {G0:aU} {w0:World} {s s':St} {g:Gh} {a:Act} {w:World} {bx:List (Nat×ah)} {o:Oper} {eff:Eff}
theorem Inv.still (h:Inv E B G0 w0 s g a w) {w':World} (f:Below w.heap.size w w'):Inv E B G0 w0 s g a w':=by
 have k:New w w' g.G g.G:=⟨f,fun _ _=>rfl,fun b l d=>by obtain⟨c,e,fr,j,i⟩:=h.gok b l d;exact⟨c,e,fr,by rw[f.block b (fw h.gok d)];exact j,i⟩⟩
 exact(h.new k).1
theorem Inv.zlabel (h:Inv E B G0 w0 s g a w) {d e:Nat} {sh:List Kd} {xs:ah} {u:Value} {l:List Value} (hd:s.bI d=true) (hz:zn g.G w (B.ok d) e sh.length xs.length u l)
  (J: ∀L v e i b,g.O L=some (v,e,i)→L≠d→v.ownBlock=some b→u.ownBlock≠some b) (hnb: ∀k t b,aJ s.bx k=some t→u.ownBlock=some b→g.β k≠some b):
  ∃g',g'.G=g.G∧Inv E B G0 w0 s g' a w∧g'.O d=some (u,e,sh.length)∧g'.C d=some l∧(∀L,L≠d→g'.O L=g.O L):=by
 let O':Nat→Option (Value×Nat×Nat):=fun L=>if L=d then some (u,e,sh.length) else g.O L
 let C':Nat→Option (List Value):=fun L=>if L=d then some l else g.C L
 have f: ∀L,L≠d→O' L=g.O L:=fun L hL=>if_neg hL
 have A: ∀L,L≠d→C' L=g.C L:=fun L hL=>if_neg hL
 obtain⟨h0,T,hf⟩:=hz;refine⟨{g with O:=O',C:=C'},rfl,⟨h.fr.mono fun x W v=>M8 f A (ul hd x W),h.df,h.gok,⟨?_,?_⟩,⟨fun k t N=>?_,h.bxs.2⟩,h.lS,h.hB,h.ext,h.glob,h.g1,?_⟩,if_pos rfl,if_pos rfl,f⟩
 ·intro L v p i hL
  by_cases Tt:L=d
  ·subst Tt
   have hL:(if L=L then some (u,e,sh.length) else g.O L)=some (v,p,i):=hL;rw[if_pos rfl] at hL;simp only[aR,bM] at hL;obtain⟨rfl,rfl,rfl⟩:=hL;refine⟨h0,?_⟩;rcases hf with⟨hu,_⟩|⟨b,cap,y,Y,j,P,K,r,H,ht,X⟩
   ·exact .inl hu
   exact .inr ⟨b,_,cap,y,l,Y,j,P,K,r,H,ny.mk1 (if_pos rfl) X ht,T⟩
  have hL:O' L=some (v,p,i):=hL;rw[f L Tt] at hL;obtain⟨q1,q2⟩:=h.own.1 L v p i hL;refine⟨q1,q2.imp id ?_⟩;rintro⟨b,n,cap,y,l,Y,j,P,U,r,H,M,hl⟩;exact⟨b,n,cap,y,l,Y,j,P,U,r,H,M.keep (A L Tt) rfl,hl⟩
 ·intro L L' v S R Q i o b D q j I
  have D:O' L=some (v,R,i):=D;have q:O' L'=some (S,Q,o):=q;by_cases hL:L=d<;>by_cases m:L'=d
  ·rw[hL,m]
  ·subst hL
   have F:(if L=L then some (u,e,sh.length) else g.O L)=some (v,R,i):=D;rw[if_pos rfl] at F;simp only[aR,bM] at F;rw[f L' m] at q;exact absurd (by rw[F.1];exact j) (J L' S Q o b q m I)
  ·subst m
   have z:(if L'=L' then some (u,e,sh.length) else g.O L')=some (S,Q,o):=q;rw[if_pos rfl] at z;simp only[aR,bM] at z;rw[f L hL] at D;exact absurd (by rw[z.1];exact I) (J L v R i b D hL j)
  rw[f L hL] at D;rw[f L' m] at q;exact h.own.2 L L' v S R Q i o b D q j I
 ·obtain⟨b,c,p,j,Z,P,hp,ho,X,hq⟩:=h.bxs.1 k t N
  exact⟨b,c,p,j,Z,P,hp.mono fun x W v=>M8 f A (zJ hd k t N x W),ho,X,hq⟩
 intro k t L v p i b N hL j hβ;have hL:O' L=some (v,p,i):=hL;by_cases Tt:L=d
 ·subst Tt
  have hL:(if L=L then some (u,e,sh.length) else g.O L)=some (v,p,i):=hL;rw[if_pos rfl] at hL;simp only[aR,bM] at hL;obtain⟨rfl,rfl,rfl⟩:=hL;exact hnb k t b N j hβ
 rw[f L Tt] at hL;exact h.zb k t L v p i b N hL j hβ
theorem Inv.grow (h:Inv E B G0 w0 s g a w) {w':World} {j:Option Nat} (d:w.grownBy w' j) (U: ∀b,j=some b→g.G b=none) (Q: ∀L v e u b,g.O L=some (v,e,u)→v.ownBlock=some b→some b≠j) (hβ: ∀k t b,aJ s.bx k=some t→g.β k=some b→some b≠j) (V: ∀b,j=some b→B.m b) (F: ∀b,j=some b→ ∃c e fr,w.heap[b]? =some (.cells c e fr)):
  Inv E B G0 w0 s g a w':=by
 refine⟨h.fr,h.df,fun b l o=>?_,⟨fun L v e u hL=>?_,h.own.2⟩,⟨fun k t I=>?_,h.bxs.2⟩,?_,FE h.hB d.size,h.ext,h.glob,h.g1,h.zb⟩
 ·obtain⟨c,e,fr,P,K⟩:=h.gok b l o
  refine⟨c,e,fr,?_,K⟩;rw[d.block b (fw h.gok o) (fun N=>by rw[U b N.symm] at o;cases o)];exact P
 ·obtain⟨S,M⟩:=h.own.1 L v e u hL
  refine⟨S,M.imp id ?_⟩;rintro⟨b,n,cap,z,l,J,f,p,A,x,C,q,o⟩;have i:=(Array.getElem?_eq_some_iff.1 p).1;exact⟨b,n,cap,z,l,J,f,by rw[d.block b i (Q L v e u b hL (by rw[J];rfl))];exact p,A,x,C,q,o⟩
 ·obtain⟨b,c,e,f,y,p,R,T,H,r⟩:=h.bxs.1 k t I
  have i:=(Array.getElem?_eq_some_iff.1 p).1;exact⟨b,c,e,f,y,by rw[d.block b i (hβ k t b I f)];exact p,R,T,H,r⟩
 exact h.lS.trans ⟨⟨d.os,d.tape,d.output,d.size,fun b f=>by omega⟩,fun b f=>d.block b (abt fun e=>f (h.hB.2 b e)) fun D=>f (V b D.symm),fun b W c f=>(d.block b (Array.getElem?_eq_some_iff.1 f).1 fun D=>by obtain⟨_,_,_,r⟩:=F b D.symm;rw[f] at r;cases r).trans f⟩
theorem Zp {L e:Nat} {sh:List Kd} {xs:ah} {i:Int} {c L3 F:Nat} {o:List Kd} {ys:ah} {S u:Value} {l:List Value} (P:g.O L=some (S,e,sh.length)) (T:g.C L=some l) (Y:i.toNat*sh.length+c<l.length) (X:zG g sh xs S (l.set (i.toNat*sh.length+c) u))
  (Z:g.O L3=some (u,F,o.length)) (J:uN g.G o ys u) {y:V} {v:Value} (h:aT g y v):aT {g with C:=fun k=>if k=L then some (l.set (i.toNat*sh.length+c) u) else g.C k} (y.Cz L e sh xs i c L3 F o ys) v:=by
 have one: ∀{y:V} {v:Value},bP g y v→bP {g with C:=fun k=>if k=L then some (l.set (i.toNat*sh.length+c) u) else g.C k} (Wj L e sh xs i c L3 F o ys y) v:=by
  intro y v h
  cases y with
  |slz k q n m E s D p d r=>
   show bP _ (bif L==k then V.slz L e sh xs (some L3) i c F o ys else .slz k q n m E s D p d r) v;obtain⟨M,w,B,H,I⟩:=h;by_cases A:L=k
   ·subst A
    rw[Pb];rw[P] at w;simp only[aR,bM] at w;obtain⟨rfl,_,_⟩:=w;refine⟨_,P,if_pos rfl,X,u,Z,J,fun y hy R=>?_⟩;rw[ab9 Y] at R;exact(Option.some.inj R).symm
   rw[beq_eq_false_iff_ne.2 A];exact⟨M,w,(if_neg (fun W=>A W.symm)).trans B,H,I⟩
  |epz k q t s j=>
   obtain⟨N,b,M,w,B,H,I,Q⟩:=h;by_cases A:k=L
   ·subst A
    rw[T] at B;simp only[aR] at B;subst B;exact⟨N,b,_,w,if_pos rfl,H,by rw[abG];exact I,Q⟩
   exact⟨N,b,M,w,(if_neg A).trans B,H,I,Q⟩
  |sl q n o' m=>cases o'<;>exact h
  |_=>exact h
 cases y with
 |tup vs=>obtain⟨a,rfl,h⟩:=h;exact⟨a,rfl,dW h fun z _ v K=>one K⟩
 |fn f vs=>obtain⟨a,rfl,h⟩:=h;exact⟨a,rfl,dW h fun z _ v K=>one K⟩
 |slz k q n m E s D p d r=>
  have U:=one (y:=.slz k q n m E s D p d r) (aZ (x:=.slz k q n m E s D p d r) rfl h);refine bG ?_ U;show(bif L==k then V.slz L e sh xs (some L3) i c F o ys else .slz k q n m E s D p d r).single=true
  cases L==k<;>rfl
 |epz k q t s j=>exact bG (x:=.epz k q t s j) rfl (one (y:=.epz k q t s j) (aZ (x:=.epz k q t s j) rfl h))
 |_=>simp only[aT] at h⊢;exact one h
theorem Inv.Gp (h:Inv E B G0 w0 s g a w) {L e b:Nat} {sh:List Kd} {xs:ah} {i:Int} {c L3 S:Nat} {r:List Kd} {ys:ah} {v0 u:Value} {d:Array Value} {l:List Value} (U:g.O L=some (v0,e,sh.length)) (hC:g.C L=some l) (R:v0.ownBlock=some b) (hh:w.heap[b]? =some (.cells d e (0,0)))
  (hp:i.toNat*sh.length+c<l.length) (hz:zG g sh xs v0 (l.set (i.toNat*sh.length+c) u)) (h3:g.O L3=some (u,S,r.length)) (ho3:uN g.G r ys u):
  ∃g',Inv E B G0 w0 (s.Cz L e sh xs i c L3 S r ys) g' a (w.setRow b (d.toList.take (i.toNat*sh.length+c)++[u]++d.toList.drop (i.toNat*sh.length+c+1)).toArray):=by
 obtain⟨H,n,cap,hv0,hn,Q,ht,hcs,hln,Gf,hok⟩:=z_row h.own U hC R;rw[hh] at Q;simp only[aR,Obj.cells.injEq] at Q;obtain⟨rfl,_⟩:=Q;have N: ∀(y:V) (v:Value),aT g y v→aT {g with C:=fun k=>if k=L then some (l.set (i.toNat*sh.length+c) u) else g.C k} (y.Cz L e sh xs i c L3 S r ys) v:=fun y v hy=>Zp U hC hp hz h3 ho3 hy
 generalize i.toNat*sh.length+c=p at hp hz N⊢;have hil:p<d.toList.length:=by have:=congrArg List.length ht;rw[JG] at this;omega
 have hset:d.toList.take p++[u]++d.toList.drop (p+1)=d.toList.set p u:=by rw[abU,if_pos hil];simp
 rw[hset];have hnew:=setRow_heap w b d (d.toList.set p u).toArray e (0,0) hh;have q: ∀j,j≠b→(w.setRow b (d.toList.set p u).toArray).heap[j]? =w.heap[j]? :=fun j o=>setRow_other w b j _ o
 have W:(w.setRow b (d.toList.set p u).toArray).heap.size=w.heap.size:=by simp[World.setRow]
 have Y: ∀k,aJ (s.Cz L e sh xs i c L3 S r ys).bx k=(aJ s.bx k).map (List.map (V.Cz L e sh xs i c L3 S r ys)):=fun k=>gK _ _ _
 refine⟨_,dW h.fr fun y _ v hy=>N y v hy,h.df,fun j m o=>?_,⟨fun j v e' sz o=>?_,h.own.2⟩,⟨fun k cs t=>?_,fun k k' cs cs' t K=>?_⟩,?_,by rw[W];exact h.hB,h.ext,h.glob,h.g1,M9 (f:=List.map (V.Cz L e sh xs i c L3 S r ys)) h.zb⟩
 ·have hjb:j≠b:=fun x=>by subst x;have o:g.G j=some m:=o;rw[Gf] at o;cases o
  obtain⟨c2,e3,fr,hc,ht2⟩:=h.gok j m o;exact⟨c2,e3,fr,by rw[q j hjb];exact hc,ht2⟩
 ·obtain⟨q1,q2⟩:=h.own.1 j v e' sz o
  refine⟨q1,q2.imp id ?_⟩;rintro⟨z,n',I,H,m,hv,hB',A,X,T,D,F,hl⟩;by_cases M:j=L
  ·subst M
   have o:g.O j=some (v,e',sz):=o;rw[U] at o;simp only[aR,bM] at o;obtain⟨rfl,rfl,rfl⟩:=o;rw[hv] at R;simp only[Value.ownBlock,aR] at R;subst R;rw[hh] at A;simp only[aR,Obj.cells.injEq] at A;obtain⟨rfl,_⟩:=A;obtain⟨_,x,ht9⟩:=F.nested hC;subst x;refine⟨z,n',I,_,_,hv,hB',hnew,X,T,by simpa using D,ny.mk1 (if_pos rfl) Gf ?_,by rw[abG];exact hl⟩;rw[abG,acu,acI,ht]
  have J:z≠b:=fun x=>M (h.own.2 j L v v0 e' e sz _ z o U (by rw[hv];rfl) (by rw[x];exact R))
  exact⟨z,n',I,H,m,hv,hB',by rw[q z J];exact A,X,T,D,F.keep (if_neg M) rfl,hl⟩
 ·rw[Y] at t
  cases P:aJ s.bx k with
  |none=>rw[P] at t;cases t
  |some ds=>
   rw[P] at t;simp only[xR,aR] at t;subst t;obtain⟨z,c',e',p1,p2,p3,p4,p5,p6,p7⟩:=h.bxs.1 k ds P;have J:z≠b:=fun x=>h.zb k ds L v0 e _ b P U R (by rw[←x];exact p1)
   exact⟨z,c',e',p1,p2,by rw[q z J];exact p3,dW p4 fun y _ v hy=>N y v hy,p5,p6,kT (Y7 _ _ _ _ _ _ _ _ _ _) p7⟩
 ·rw[Y] at t K
  cases P:aJ s.bx k with
  |none=>rw[P] at t;cases t
  |some ds=>
   cases Z:aJ s.bx k' with
   |none=>rw[Z] at K;cases K
   |some ds'=>exact h.bxs.2 k k' ds ds' P Z
 exact h.lS.trans ⟨⟨rfl,rfl,rfl,by rw[W];exact lg _,fun j o=>by omega⟩,fun j o=>q j fun x=>o (x▸hok.1),uh hh fun j o _=>q j o⟩
theorem Inv.VW (h:Inv E B G0 w0 s g a w) (L:Nat): ∃g',Inv E B G0 w0 (s.VW L) g' a w:=by
 have hlk: ∀k,aJ (s.VW L).bx k=(aJ s.bx k).map (List.map (V.VW L)):=fun k=>gK _ _ _
 have T: ∀g':Gh,(∀(y:V) (v:Value),aT g y v→aT g' (y.VW L) v)→g'.β=g.β→g'.O=g.O→xU g'.G w→Ph B g' w→(∀k cs b,aJ s.bx k=some cs→g.β k=some b→g'.G b=none)→((∀b,¬B.m b→g'.G b=g.G b)∧lN g.G g'.G)→lN g'.G1 G0→Inv E B G0 w0 (s.VW L) g' a w:=by
  intro g' htr hβ hO hg ho hbx hx hg1;refine⟨dW h.fr fun y _ v D=>htr y v D,h.df,hg,ho,⟨fun k cs d=>?_,fun k k' cs cs' d hk'=>?_⟩,h.lS,h.hB,⟨fun b hb=>(hx.1 b hb).trans (h.ext.1 b hb),h.ext.2.1.trans hx.2,by rw[hβ];exact h.ext.2.2⟩,h.glob,hg1,by rw[hβ,hO];exact M9 (f:=List.map (V.VW L)) h.zb⟩
  ·rw[hlk] at d
   cases hq:aJ s.bx k with
   |none=>rw[hq] at d;cases d
   |some ds=>rw[hq] at d;simp only[xR,aR] at d;subst d;obtain⟨R,c',p,X,p2,p3,p4,p5,p6,p7⟩:=h.bxs.1 k ds hq;exact⟨R,c',p,by rw[hβ];exact X,p2,p3,dW p4 fun y _ v D=>htr y v D,p5,hbx k ds R hq X,kT (unz_nilp _) p7⟩
  rw[hlk] at d hk'
  cases hq:aJ s.bx k with
  |none=>rw[hq] at d;cases d
  |some ds=>
   cases hq':aJ s.bx k' with
   |none=>rw[hq'] at hk';cases hk'
   |some ds'=>rw[hβ];exact h.bxs.2 k k' ds ds' hq hq'
 have lift: ∀g':Gh,(∀(y:V) (v:Value),bP g y v→bP g' (unzV L y) v)→ ∀(y:V) (v:Value),aT g y v→aT g' (y.VW L) v:=by
  intro g' one y v D
  cases y with
  |tup vs=>obtain⟨a,rfl,h⟩:=D;exact⟨a,rfl,dW h fun z _ v hv=>one z v hv⟩
  |fn f vs=>obtain⟨a,rfl,h⟩:=D;exact⟨a,rfl,dW h fun z _ v hv=>one z v hv⟩
  |slz k p t r W M c' N I Q=>
   have h2:=one (.slz k p t r W M c' N I Q) v (aZ (x:=.slz k p t r W M c' N I Q) rfl D);refine bG ?_ h2;show(bif L==k then V.sl p t (some L) r else .slz k p t r W M c' N I Q).single=true
   cases L==k<;>rfl
  |epz k p o M u=>
   have h2:=one (.epz k p o M u) v (aZ (x:=.epz k p o M u) rfl D);refine bG ?_ h2;show(bif L==k then V.any else .epz k p o M u).single=true
   cases L==k<;>rfl
  |_=>simp only[aT] at D⊢;exact one _ v D
 by_cases hex: ∃v e sz l,g.O L=some (v,e,sz)∧g.C L=some l
 ·obtain⟨v0,e,sz,l,hO,hC⟩:=hex
  have S:=(h.own.1 L v0 e sz hO).2;rcases S with hv|⟨b,n,cap,cur,l',hv,hok,hh,hnc,hcm,hcs,S,hl⟩
  ·
   refine⟨{g with C:=fun k=>if k=L then none else g.C k},T _ (lift _ fun y v D=>?_) rfl rfl h.gok ⟨fun j v p o A=>?_,h.own.2⟩ (fun k cs b d hb=>?_) ⟨fun _ _=>rfl,.refl _⟩ h.g1⟩
   ·cases y with
    |slz k p t r W M c' N I Q=>
     show bP _ (bif L==k then V.sl p t (some L) r else .slz k p t r W M c' N I Q) v;obtain⟨l',H,J,K,q4⟩:=D;by_cases d:L=k
     ·subst d
      rw[Pb];refine⟨H,?_⟩;rcases K.1 with q5|⟨b,cap,q5⟩
      ·exact .inl q5
      rw[hO] at H;simp only[aR,bM] at H;rw[←H.1,hv] at q5;cases q5
     rw[beq_eq_false_iff_ne.2 d];exact⟨l',H,(if_neg (fun P=>d P.symm)).trans J,K,q4⟩
    |epz k p o M u=>
     show bP _ (bif L==k then V.any else .epz k p o M u) v;by_cases d:L=k
     ·subst d
      rw[Pb];show aV g.G .any v;unfold aV;trivial
     rw[beq_eq_false_iff_ne.2 d];obtain⟨v1,b,l',H,J,K⟩:=D;exact⟨v1,b,l',H,(if_neg (fun P=>d P.symm)).trans J,K⟩
    |sl p t o' r=>cases o'<;>exact D
    |_=>exact D
   ·obtain⟨H,J⟩:=h.own.1 j v p o A
    by_cases Z:j=L
    ·subst Z
     have A:g.O j=some (v,p,o):=A;rw[hO] at A;simp only[aR,bM] at A;exact⟨H,.inl (by rw[←A.1];exact hv)⟩
    refine⟨H,J.imp id ?_⟩;rintro⟨R,n',cap',cur',m,U,hB',Y,hnc,hcm,hcs',S,hl⟩;exact⟨R,n',cap',cur',m,U,hB',Y,hnc,hcm,hcs',S.keep (if_neg Z) rfl,hl⟩
   obtain⟨R,_,_,X,_,_,_,_,p6,_⟩:=h.bxs.1 k cs d;rw[hb] at X;simp only[aR] at X;rw[X];exact p6
  obtain⟨Gf,P,ht⟩:=S.nested hC;subst P;have q: ∀j,j≠b→upd g.G b l j=g.G j:=fun j A=>gW _ _ _ _ A
  have F:lN g.G (upd g.G b l):=fun j m A=>by
   have hjb:j≠b:=fun P=>by subst P;rw[Gf] at A;cases A
   exact⟨m,by rw[q j hjb];exact A,Tm _⟩
  have hown: ∀{sh:List Kd} {xs:ah} {k p o:Nat} {v:Value},g.O k=some (v,p,o)→uN g.G sh xs v→uN (upd g.G b l) sh xs v:=by
   intro sh xs k p o v d ho;refine Bl ho F fun R hb'=>?_
   refine q R fun P=>?_
   subst P;rcases ho with⟨hq,_⟩|⟨b2,_,l2,hq,_,hG2,_⟩
   ·rw[hq] at hb';cases hb'
   rw[hq] at hb';simp only[Value.ownBlock,aR] at hb';subst hb';rw[Gf] at hG2;cases hG2
  have hlink: ∀{C':Nat→Option (List Value)} {l2:List Value} {sz2:Nat} {W:Option Nat} {i:Int} {c e2:Nat} {sh2:List Kd} {ys:ah},rU g l2 sz2 W i c e2 sh2 ys→rU {g with G:=upd g.G b l,C:=C'} l2 sz2 W i c e2 sh2 ys:=by
   intro C' l2 sz2 W i c e2 sh2 ys hq
   cases W with
   |none=>trivial
   |some L2=>obtain⟨v2,H,J,K⟩:=hq;exact⟨v2,H,hown H J,K⟩
  refine⟨{g with G:=upd g.G b l,C:=fun k=>if k=L then none else g.C k},T _ (lift _ fun y v D=>?_) rfl rfl (fun j m A=>?_) ⟨fun j v p o A=>?_,h.own.2⟩ (fun k cs R d hb=>?_) ⟨fun j A=>q j fun P=>A (P▸hok.1),F⟩ h.g1⟩
  ·cases y with
   |slz k p t r W M c' N I Q=>
    show bP _ (bif L==k then V.sl p t (some L) r else .slz k p t r W M c' N I Q) v;obtain⟨l',H,J,K,q4⟩:=D;by_cases d:L=k
    ·subst d
     rw[Pb];have q1':=H;rw[hO] at q1';simp only[aR,bM] at q1';obtain⟨rfl,rfl,rfl⟩:=q1';rw[hC] at J;simp only[aR] at J;subst J;refine⟨H,.inr ?_⟩;rcases K.1 with⟨q5,_⟩|⟨b2,cap2,q5⟩
     ·rw[hv] at q5;cases q5
     have q6:=q5;rw[hv] at q6;simp only[Value.slice.injEq,aR,Addr.mk.injEq] at q6;obtain⟨⟨rfl,_,_⟩,hn2,rfl⟩:=q6;exact⟨b,cap,l,q5,by omega,upd_same _ _ _,K.2.1,iV F _ _ _ _ K.2.2 (Tm _)⟩
    rw[beq_eq_false_iff_ne.2 d];exact⟨l',H,(if_neg (fun P=>d P.symm)).trans J,⟨K.1,K.2.1,iV F _ _ _ _ K.2.2 (Tm _)⟩,hlink q4⟩
   |epz k p o M u=>
    show bP _ (bif L==k then V.any else .epz k p o M u) v;by_cases d:L=k
    ·subst d
     rw[Pb];show aV (upd g.G b l) .any v;unfold aV;trivial
    rw[beq_eq_false_iff_ne.2 d];obtain⟨v1,b1,l',H,J,K⟩:=D;exact⟨v1,b1,l',H,(if_neg (fun P=>d P.symm)).trans J,K⟩
   |sl p t o' r=>
    cases o' with
    |none=>exact iB F _ _ D
    |some k=>exact⟨D.1,hown D.1 D.2⟩
   |eptr k p t r M u=>obtain⟨v1,b1,H,J,K⟩:=D;exact⟨v1,b1,H,hown H J,K⟩
   |box k off=>exact D
   |old x=>exact⟨D.1,iB F _ _ D.2.1,D.2.2⟩
   |_=>exact iB F _ _ D
  ·by_cases hjb:j=b
   ·subst hjb
    have A:upd g.G j l j=some m:=A;rw[upd_same] at A;simp only[aR] at A;subst A;exact⟨cur,e,(0,0),hh,ht⟩
   have A:upd g.G b l j=some m:=A;rw[q j hjb] at A;exact h.gok j m A
  ·obtain⟨H,J⟩:=h.own.1 j v p o A
   refine⟨H,J.imp id ?_⟩;rintro⟨R,n',cap',cur',m,U,hB',Y,hnc',hcm',hcs',hrow',hl'⟩;by_cases Z:j=L
   ·subst Z
    have A:g.O j=some (v,p,o):=A;rw[hO] at A;simp only[aR,bM] at A;obtain⟨rfl,rfl,rfl⟩:=A;rw[hv] at U;simp only[Value.slice.injEq,aR,Addr.mk.injEq] at U;obtain⟨⟨rfl,_,_⟩,rfl,rfl⟩:=U;rw[hh] at Y;simp only[aR,Obj.cells.injEq] at Y;obtain⟨rfl,_⟩:=Y;exact⟨b,n,cap,cur,l,hv,hB',hh,hnc,hcm,hcs,ny.mk0 (if_pos rfl) (upd_same _ _ _),hl⟩
   have hne:R≠b:=fun P=>Z (h.own.2 j L v v0 p e o _ R A hO (by rw[U];rfl) (by rw[hv,P];rfl))
   exact⟨R,n',cap',cur',m,U,hB',Y,hnc',hcm',hcs',hrow'.keep (if_neg Z) (q R hne),hl'⟩
  obtain⟨b2,_,_,X,_,_,_,_,p6,_⟩:=h.bxs.1 k cs d;rw[hb] at X;simp only[aR] at X;subst X;have hne:R≠b:=fun P=>h.zb k cs L v0 e sz b d hO (by rw[hv];rfl) (by rw[←P];exact hb)
  show upd g.G b l R=none;rw[q R hne];exact p6
 ·
  refine⟨g,T g (lift g fun y v D=>?_) rfl rfl h.gok h.own (fun k cs b d hb=>?_) ⟨fun _ _=>rfl,.refl _⟩ h.g1⟩
  ·cases y with
   |slz k p t r W M c' N I Q=>
    show bP _ (bif L==k then V.sl p t (some L) r else .slz k p t r W M c' N I Q) v;obtain⟨l',H,J,K,q4⟩:=D;by_cases d:L=k
    ·subst d;exact absurd ⟨_,_,_,_,H,J⟩ hex
    rw[beq_eq_false_iff_ne.2 d];exact⟨l',H,J,K,q4⟩
   |epz k p o M u=>
    show bP _ (bif L==k then V.any else .epz k p o M u) v;obtain⟨v1,b,l',H,J,K⟩:=D;by_cases d:L=k
    ·subst d;exact absurd ⟨_,_,_,_,H,J⟩ hex
    rw[beq_eq_false_iff_ne.2 d];exact⟨v1,b,l',H,J,K⟩
   |_=>exact D
  obtain⟨R,_,_,X,_,_,_,_,p6,_⟩:=h.bxs.1 k cs d;rw[hb] at X;simp only[aR] at X;rw[X];exact p6
theorem Qp: ∀(l:List Nat) (s:St) (g:Gh),Inv E B G0 w0 s g a w→ ∃g',Inv E B G0 w0 (unzL s l) g' a w
 |[],s,g,h=>⟨g,h⟩
 |L::l,s,g,h=>by obtain⟨g',b⟩:=h.VW L;exact Qp l _ g' b
theorem Bq (h:Inv E B G0 w0 s g a w) (P:Program) (ops:List Oper): ∃g',Inv E B G0 w0 (preZ P ops s) g' a w:=by
 unfold preZ
 cases(s.bx.any (fun(_,cs)=>cs.any isZ)&&ops.any (wantsU P)) with
 |true=>exact Qp _ _ _ h
 |false=>exact⟨g,h⟩
end
section
variable {E:Env} {B:Own} {G0:aU} {w0:World} {s s':St} {g:Gh} {a:Act} {w:World} {bx:List (Nat×ah)} {o:Oper} {eff:Eff}
theorem BOk.sub {P:Program} {bx c:List (Nat×ah)} (h:BOk P B g c w) (f: ∀k a,aJ bx k=some a→aJ c k=some a):BOk P B g bx w:=
 ⟨fun k a d=>h.1 k a (f k a d),fun k i a b d e=>h.2 k i a b (f k a d) (f i b e)⟩
theorem I7 {G:aU} {w:World} {B:Nat→Prop} {x:V} {v:Value} {g:Gh} (b:g.G=G) (a:tJ x=false) (h:nS G w B x v):bP g x v:=by
 subst b
 cases x with
 |sl e sh c xs=>
  cases c with
  |none=>exact h
  |some L=>cases a
 |box k off=>simp only[nS] at h;unfold aV at h;exact h.elim
 |eptr _ _ _ _ _ _=>simp only[nS] at h;unfold aV at h;exact h.elim
 |old _=>simp only[nS] at h;unfold aV at h;exact h.elim
 |slz _ _ _ _ _ _ _ _ _ _=>simp only[nS] at h;unfold aV at h;exact h.elim
 |epz _ _ _ _ _=>simp only[nS] at h;unfold aV at h;exact h.elim
 |_=>exact h
theorem Et: ∀(d:Nat) (l:ah),l.countP tJ=0→ ∀b,gQ d b l=l
 |d,[],_,b=>by cases b<;>rfl
 |d,x::l,h,b=>by
  rw[abD] at h;have c:tJ x=false:=by
   cases f:tJ x with
   |false=>rfl
   |true=>rw[f] at h;simp at h
  rw[c] at h;have a:=Et d l (by simpa using h) b
  cases x with
  |sl e sh g xs=>
   cases g with
   |none=>cases b<;>simp only[gQ,a]
   |some L=>cases c
  |_=>cases b<;>simp only[gQ,a]
theorem Zq (h:Inv E B G0 w0 s g a w) {d:Nat} {r:V} {v:Value} {b0:Nat} (T:s.bI d=true) (K:B.n≤b0∧ ∀b,b0≤b→B.m b) (Q: ∀L v e H b,g.O L=some (v,e,H)→v.ownBlock=some b→b<b0) (i:fP g.G w (b0≤ ·) r v):
  ∃g',Inv E B G0 w0 s g' a w∧aT g' (r.PY d) v:=by
 have j: ∀{e sh xs u},iT g.G w (b0≤ ·) e sh xs u→iT g.G w (B.ok d) e sh xs u:=by rintro e sh xs u ⟨p,o⟩;refine⟨p,o.imp id ?_⟩;rintro⟨b,cap,F,l,P,N,I⟩;exact⟨b,cap,F,l,P,⟨K.2 b N,fun _=>Cr K.1 N⟩,I⟩
 have oF: ∀{e sh xs u},iT g.G w (b0≤ ·) e sh xs u→ ∀L v e H b,g.O L=some (v,e,H)→L≠d→v.ownBlock=some b→u.ownBlock≠some b:=by
  rintro e sh xs u ⟨p,o⟩ L v Y H b hL _ N S;have h3:=Q L v Y H b hL N;rcases o with⟨rfl,_⟩|⟨b',cap,F,l,rfl,hb',_⟩
  ·cases S
  simp[Value.ownBlock] at S;omega
 cases r with
 |tup vs=>
  obtain⟨us,rfl,J,z⟩:=i;have R: ∀(xs:ah) (us:List Value),PW (nS g.G w (b0≤ ·)) xs us→xs.countP tJ≤1→ ∃g',g'.G=g.G∧Inv E B G0 w0 s g' a w∧PW (bP g') (gQ d true xs) us:=by
   intro xs;induction xs with
   |nil=>intro us J _;exact⟨g,rfl,h,by rw[J.di];exact .nil⟩
   |cons x xs X=>
    intro us J z;obtain⟨u,t,rfl,p,o⟩:=J.cons_inv;rw[abD] at z
    cases C:tJ x with
    |true=>
     rw[C] at z;have U:xs.countP tJ=0:=by rw[if_pos rfl] at z;omega
     cases x with
     |sl e sh M ys=>
      cases M with
      |none=>cases C
      |some L=>have p:iT g.G w (b0≤ ·) e sh ys u:=p;obtain⟨g',D,q,A⟩:=h.label (e:=e) (sh:=sh) (xs:=ys) (u:=u) T (j p) (oF p);refine⟨g',D,q,?_⟩;show PW (bP g') (V.sl e sh (some d) ys::gQ d false xs) (u::t);rw[Et d xs U];refine .cons A (o.mono fun y Z v P=>I7 D ?_ P);have:=List.countP_eq_zero.1 U y Z;simpa using this
     |_=>cases C
    |false=>
     rw[C] at z;obtain⟨g',D,q,A⟩:=X t o (by simpa using z);refine⟨g',D,q,?_⟩;have W:gQ d true (x::xs)=x::gQ d true xs:=by
      cases x with
      |sl e sh M ys=>cases M with
       |none=>rfl
       |some L=>cases C
      |_=>rfl
     rw[W];exact .cons (I7 D C p) A
  obtain⟨g',_,q,A⟩:=R vs us J z;exact⟨g',q,us,rfl,A⟩
 |sl e sh M xs=>
  cases M with
  |none=>exact⟨g,h,i⟩
  |some L=>have i:iT g.G w (b0≤ ·) e sh xs v:=i;obtain⟨g',D,q,A⟩:=h.label (e:=e) (sh:=sh) (xs:=xs) (u:=v) T (j i) (oF i);exact⟨g',q,A⟩
 |box k off=>simp only[fP,nS] at i;unfold aV at i;exact i.elim
 |eptr _ _ _ _ _ _=>simp only[fP,nS] at i;unfold aV at i;exact i.elim
 |old _=>simp only[fP,nS] at i;unfold aV at i;exact i.elim
 |slz _ _ _ _ _ _ _ _ _ _=>simp only[fP,nS] at i;unfold aV at i;exact i.elim
 |epz _ _ _ _ _=>simp only[fP,nS] at i;unfold aV at i;exact i.elim
 |fn f c=>simp only[fP,nS] at i;have o:=i;unfold aV at o;obtain⟨_,rfl⟩:=o;exact⟨g,h,bZ rfl i⟩
 |_=>exact⟨g,h,i⟩
theorem unl_deep {x y:V} (h:x.deep=some y):y.xS=y:=by
 cases x with
 |fn f c=>cases c<;>simp[V.deep] at h;subst h;rfl
 |_=>simp[V.deep] at h<;>subst h<;>rfl
theorem I8 {g:Gh} {bx:List (Nat×ah)} {MB ML:List (Nat×Nat)}: ∀(m args:ah) (vs:List Value),jK m=[]→gG bx MB ML m=some args→iP args=false→PW (MJ g) m vs→PW (aV g.G) (args.map V.xS) vs
 |[],args,vs,_,h,_,q=>by simp only[gG,aR] at h;subst h;rw[q.di];exact .nil
 |x::m,args,vs,i,h,n,q=>by
  unfold jK at i;obtain⟨d,i⟩:=List.append_eq_nil_iff.1 i;obtain⟨v,t,rfl,s,u⟩:=q.cons_inv;unfold gG at h;split at h
  ·rename_i y ys b p
   simp only[aR] at h;subst h;unfold iP at n;rw[abM,EY] at n;rw[qA];refine .cons ?_ (I8 m ys t i p n.2 u);have a:x.deep=some y→aV g.G y.xS v:=by intro o;rw[unl_deep o];exact s.elim (fun h=>oL h o) (fun h=>Dc h o)
   cases x with
   |box k off=>
    unfold vC at b;simp only at b;split at b
    ·simp only[aR] at b
     subst b
     cases n.1
    cases b
   |sl e sh z xs=>
    cases z with
    |none=>exact a b
    |some L=>have b:some (xQ MB ML (.sl e sh (some L) xs))=some y:=b;simp only[aR] at b;subst b;have w:bP g (.sl e sh (some L) xs) v:=s.elim (fun h=>aZ rfl h) id;exact nK w.2
   |fn f c=>
    cases c with
    |nil=>exact a b
    |cons c r=>
     obtain⟨l,_⟩:=aP (show(bif Nat.blt f yU&&zl (c::r) then some (V.fn f ((c::r).map (xQ MB ML))) else none)=some y from b);rw[bC] at l;have j:=l.2;unfold zl at j;rw[Pg,bC] at j;have j:=j.1;simp only at d;split at j
     ·rw[List.filterMap_cons] at d
      cases d
     cases j
   |_=>exact a b
  cases h
theorem BZ {G:aU} {x:V} {u v:Value} (h:nI x=some u) (a:aV G x v):v=u:=by
 cases x with
 |bool b=>simp only[nI,aR] at h;unfold aV at a;rw[a,h]
 |int k n=>simp only[nI,aR] at h;unfold aV at a;rw[a,h]
 |_=>cases h
theorem B5 {G:aU}: ∀(xs:ah) (us vs:List Value),nJ xs=some us→PW (aV G) xs vs→vs=us
 |[],us,vs,h,c=>by simp only[nJ,aR] at h;rw[c.di,h]
 |x::xs,us,vs,h,c=>by
  obtain⟨v,t,rfl,g,d⟩:=c.cons_inv;unfold nJ at h;split at h
  ·rename_i a b f e
   simp only[aR] at h;rw[←h,BZ f g,B5 xs b t e d]
  cases h
theorem Eu {G:aU} {x:V} {u v:Value} (h:dh x=some u) (b:aV G x v):v=u:=by
 unfold dh at h;split at h
 ·rename_i t g
  split at h
  ·rename_i l e
   simp only[aR] at h;unfold aV at b;obtain⟨z,rfl,c⟩:=b;unfold aV at c;obtain⟨a,rfl,d⟩:=c;rw[fH] at d;rw[B5 g l a e d,h]
  cases h
 ·rename_i t y _
  split at h
  ·rename_i z c
   simp only[aR] at h;unfold aV at b;obtain⟨q,rfl,f⟩:=b;rw[BZ c f,h]
  cases h
 cases h
theorem OM {g:Gh} {x:V} {u v:Value} (h:dh x=some u) (a:aT g x v):v=u:=by
 cases x with
 |iface t y=>exact Eu (G:=g.G) h a
 |_=>cases h
theorem eff_pan (h:Inv E B G0 w0 s g a w) (r:Does E.P a.eval o B w g s.bx eff) {v:V} (j:M7 E s eff v s') {next:Act→World→Prop} {Q:Exit→Act→World→Prop}
  (l: ∀g' w' u,Inv E B G0 w0 s' g' a w'→dh v=some u→Q (.panic [{v:=u,recovered:=false}]) a w'):o.wp E.P a w next Q:=by
 unfold Oper.wp;obtain⟨⟨u,b⟩,j⟩:=j
 cases eff with
 |call f args mb ml=>
  obtain⟨vs,A,n,t,d,i⟩:=r;rw[n];rcases j with⟨bs,p,c⟩|⟨p,rfl⟩
  rotate_left
  ·refine Calls.mono (p (yj g w mb ml) (qG g mb ml) w vs rfl (pY h t d i)) ?_
   rintro e w' ⟨q,rfl,k,x⟩;exact l _ _ _ (h.still x) k
  refine Calls.mono (p (yj g w mb ml) (qG g mb ml) w vs rfl (pY h t d i)) ?_;rintro e w' ⟨g1,q,rfl,k⟩;obtain⟨C,y⟩:=Dp h d i c k;have m:=OM b k.fr.head;subst m;exact l _ _ _ y b
 |qi z=>obtain⟨q,n,m⟩:=r;obtain⟨rfl,rfl⟩:=j;rw[n];have:=Eu b m;subst this;exact l _ _ _ h b
 |_=>exact j.elim
theorem FF (h:Inv E B G0 w0 s g a w) (hd:Does E.P a.eval o B w g bx eff) (hs: ∀k cs,aJ bx k=some cs→aJ s.bx k=some cs) {dr:Bool} (hsb:dr=false→bx=s.bx) (hr:GY E dr s o.dst eff s') {next:Act→World→Prop} {Q:Exit→Act→World→Prop}
  (N: ∀g' a' w',Inv E B G0 w0 s' g' a' w'→(∃u,a'=a.put o.dst u)→next a' w'):o.wp E.P a w next Q:=by
 unfold Oper.wp
 cases eff with
 |val v=>obtain⟨u,K,ht⟩:=hd;have M:s'=s.put o.dst v:=hr;subst M;rw[K];exact N g _ _ (h.put o.dst ht) ⟨u,rfl⟩
 |newSl e sh xs=>obtain⟨u,w',G',K,hn,ht⟩:=hd;obtain⟨F,_⟩:=h.new hn;rw[K];have M:s'=s.put o.dst (.sl e sh none xs):=hr;subst M;exact N _ _ _ (F.put o.dst (v:=.sl e sh none xs) ht) ⟨u,rfl⟩
 |own e sh xs=>
  obtain⟨u,w',G',K,hn,hf⟩:=hd;obtain⟨k,I,S,Y,rfl⟩:=hr;obtain⟨F,_⟩:=h.new hn;rw[K];have hf':iT G' w' (B.ok k) e sh xs u:=by refine⟨hf.1,hf.2.imp id ?_⟩;rintro⟨b,cap,D,l,z,m,R⟩;exact⟨b,cap,D,l,z,⟨h.hB.2 b m,fun _=>Cr h.hB.1 m⟩,R⟩
  have h1':=F.put (some k) (v:=.any) (u:=u) jr;obtain⟨g',hg,hi,ht⟩:=h1'.label (e:=e) (sh:=sh) (xs:=xs) (u:=u) S hf' (by
   intro L v X W b hL _ m p;have h3:=vO h.gok h.own hL m;rcases hf.2 with⟨rfl,_⟩|⟨b',cap,D,l,rfl,hb',_⟩
   ·cases p
   simp[Value.ownBlock] at p;omega)
  have:=hi.put (some k) (v:=.sl e sh (some k) xs) (u:=u) ht;rw[show(s.put (some k) .any).put (some k) (.sl e sh (some k) xs)=s.put (some k) (.sl e sh (some k) xs) by simp[St.put],show(a.put (some k) u).put (some k) u=a.put (some k) u by simp[Act.put]] at this;rw[Oper.upon_value];rw[I] at N⊢;exact N _ _ _ this ⟨u,rfl⟩
 |app L e sh xs=>
  obtain⟨v0,u,w',G',Z,K,U,hG1,hmore,hGk,hf,p⟩:=hd;obtain⟨k,I,S,Y,rfl⟩:=hr;have F:=h.kill L;rw[K];have hrow: ∀b,v0.ownBlock=some b→B.ok L b:=by
   intro b m;rcases(h.own.1 L v0 e sh.length Z).2 with z|⟨b',n,cap,D,l,z,hB',_⟩
   ·rw[z] at m;cases m
   rw[z] at m;simp[Value.ownBlock] at m;subst m;exact hB'
  have C: ∀L' v X W b,(if L'=L then none else g.O L')=some (v,X,W)→v.ownBlock=some b→b<w.heap.size∧some b≠v0.ownBlock:=by
   intro L' v X W b q m;split at q
   ·cases q
   rename_i hne;refine⟨vO h.gok h.own q m,fun M=>hne ?_⟩;exact h.own.2 L' L v v0 _ _ _ _ b q Z m M.symm
  have hext:Ext {g with O:=fun k=>if k=L then none else g.O k} {g with O:=(fun k=>if k=L then none else g.O k),G:=G'}:=
   ⟨hmore,fun _ _ h=>h,fun L' v X W b q m=>by obtain⟨h2,h3⟩:=C L' v X W b q m;exact hG1 b h2 h3,fun _ _ h=>h,rfl,fun _ _ _=>rfl⟩
  have h2:Inv E B G0 w0 (s.kill L) {g with O:=(fun k=>if k=L then none else g.O k),G:=G'} a w':=by
   refine⟨F.fr.mono fun x _ v=>rY hext,F.df,hGk,⟨fun L' v X W q=>?_,F.own.2⟩,⟨fun j cs hj=>?_,F.bxs.2⟩,?_,FE h.hB U.size,⟨fun b m=>?_,h.ext.2.1.trans hmore,h.ext.2.2⟩,F.glob,F.g1,F.zb⟩
   ·obtain⟨p1,p2⟩:=F.own.1 L' v X W q
    refine⟨p1,p2.imp id ?_⟩;rintro⟨b,n,cap,D,l,z,m,hh,hnc,hcm,hcs,Gf,hl⟩;obtain⟨q1,q2⟩:=C L' v X W b q (by rw[z];rfl);exact⟨b,n,cap,D,l,z,m,by rw[U.block b q1 q2];exact hh,hnc,hcm,hcs,Gf.keep rfl (hG1 b q1 q2),hl⟩
   ·obtain⟨b,c,e2,m,hBb,hh,hp,ho,Gf,hq⟩:=F.bxs.1 j cs hj
    have hlt:=(Array.getElem?_eq_some_iff.1 hh).1;have hne:some b≠v0.ownBlock:=by
     intro M;have hj:aJ (s.kill L).bx j=some cs:=hj;rw[oM] at hj
     cases hq9:aJ s.bx j with
     |none=>rw[hq9] at hj;cases hj
     |some ds=>exact h.zb j ds L v0 e sh.length b hq9 Z M.symm m
    exact⟨b,c,e2,m,hBb,by rw[U.block b hlt hne];exact hh,hp.mono fun x _ v=>rY hext,ho,by show G' b=_;rw[hG1 b hlt hne];exact Gf,hq⟩
   ·refine h.lS.trans ⟨⟨U.os,U.tape,U.output,U.size,fun b m=>by omega⟩,fun b m=>U.block b (abt fun e=>m (h.hB.2 b e)) fun M=>m (hrow b M.symm).1,fun b es c m=>(U.block b (Array.getElem?_eq_some_iff.1 m).1 fun M=>by obtain⟨_,_,_,hq⟩:=La h.own Z M.symm;rw[m] at hq;cases hq).trans m⟩
   have hlt:b<w.heap.size:=abt fun e=>m (h.hB.2 b e)
   have hne:some b≠v0.ownBlock:=fun M=>m (hrow b M.symm).1
   exact(hG1 b hlt hne).trans (h.ext.1 b m)
  have hf2:iT G' w' (B.ok (fO true L k)) e sh xs u:=by refine⟨hf.1,hf.2.imp id ?_⟩;rintro⟨b,cap,D,l,z,m,R⟩;exact⟨b,cap,D,l,z,⟨m.1,fun hlt=>m.2 (GZ Y hlt)⟩,R⟩
  obtain⟨g',hg,hi,ht⟩:=h2.label (e:=e) (sh:=sh) (xs:=xs) (u:=u) S hf2 (by
   intro L' v X W b q _ m J;obtain⟨q1,q2⟩:=C L' v X W b q m;rcases p with p|p
   ·rw[J] at p;exact q2 p
   have:=p b J;omega)
  have:=hi.put (some k) (v:=.sl e sh (some (fO true L k)) xs) (u:=u) ht;rw[Oper.upon_value];rw[I] at N⊢;exact N _ _ _ this ⟨u,rfl⟩
 |nX e cs=>obtain⟨c,K,hp,ho,hq⟩:=hd;obtain⟨k,I,S,hk3,Y,rfl⟩:=hr;rw[K];obtain⟨g',hi⟩:=h.nX (e:=e) Y S hp ho hk3 hq;rw[Oper.upon_value];rw[I] at N⊢;exact N _ _ _ hi ⟨_,rfl⟩
 |put k off cs=>obtain⟨b,c,e,us,old,m,hl,hh,hp,K,z,ho,hle⟩:=hd;obtain⟨old',hl',hq,rfl⟩:=hr;rw[hs k old hl] at hl';simp only[aR] at hl';subst hl';rw[K];have F:=h.store (off:=off) (vs:=cs) (us:=us) m (hs k old hl) hh hp z ho hle hq;exact N _ _ _ (F.put o.dst (v:=.tup []) (u:=undef) ⟨[],rfl,.nil⟩) ⟨_,rfl⟩
 |call f args mb ml=>
  obtain⟨vs,as,K,hp,hof,hnh⟩:=hd;rw[K];rcases hr with⟨hbx,hr⟩|⟨hdr,x,bs,hc,hback⟩|⟨hdr,x,hc,rfl⟩
  ·have hpl:PW (aV g.G) (args.map V.xS) vs:=by
    obtain⟨M,e2,z,_⟩:=wI hof;obtain⟨A,H,rfl,hA,hH⟩:=rq as (jK as) args z;have hbx2:iP A=false∧iP H=false:=by unfold iP at hbx⊢;rw[List.any_append,EY] at hbx;exact hbx
    have hH0:=hid_bxa (NF (jK as) H (wH as) hH) hbx2.2;subst hH0;have hh0:jK as=[]:=by
     cases hq:jK as with
     |nil=>rfl
     |cons x t=>rw[hq] at hH;unfold gG at hH;split at hH<;>simp at hH
    rw[JQ];exact I8 as A vs hh0 hA hbx2.1 hp
   have key: ∀r,aj E f (args.map V.xS) r→(∀v w' G',New w w' g.G G'→fP G' w' (w.heap.size≤ ·) r v→next (a.put o.dst v) w')→o.upon E.P a next Q (.ok (.enter f vs.toArray) w):=by intro r hc hn;refine Calls.mono (hc g.G w vs h.gok h.ku hpl) ?_;rintro e w' ⟨v,G',rfl,F,h2⟩;exact hn v w' G' F h2
   rcases hr with⟨k,r,I,S,hk3,hc,rfl⟩|⟨r,I,hc,rfl⟩
   ·refine key r hc fun v w' G' hn hres=>?_
    obtain⟨F,_⟩:=h.new hn;obtain⟨g',hi,ht⟩:=Zq F (d:=k) (r:=r) (v:=v) (b0:=w.heap.size) S h.hB (fun L v e W b hL m=>vO h.gok h.own hL m) hres;have:=hi.put (some k) ht;rw[I] at N⊢;exact N _ _ _ this ⟨v,rfl⟩
   refine key r hc fun v w' G' hn hres=>?_
   obtain⟨F,_⟩:=h.new hn;have:=F.put none (v:=.any) (u:=v) jr;rw[I] at N⊢;exact N _ _ _ this ⟨v,rfl⟩
  ·rw[hsb hdr] at hof
   refine Calls.mono (hc (yj g w mb ml) (qG g mb ml) w vs rfl (pY h hp hof hnh)) ?_;rintro e w' ⟨g1,v,rfl,hx⟩;obtain⟨g2,hi⟩:=Dp h hof hnh hback hx;exact N _ _ _ hi ⟨v,rfl⟩
  rw[hsb hdr] at hof;refine Calls.mono (hc (yj g w mb ml) (qG g mb ml) w vs rfl (pY h hp hof hnh)) ?_;rintro e w' ⟨v,rfl,⟨hx,z⟩,m⟩;refine N _ _ _ ((h.still m).put o.dst (v:=x) (u:=v) ?_) ⟨v,rfl⟩
  cases x with
  |tup vs=>
   cases vs with
   |nil=>exact⟨[],z,.nil⟩
   |cons _ _=>cases hx
  |bool b=>exact jm (g:=⟨fun _=>none,fun _=>none,fun _=>none,fun _=>none,fun _=>none⟩) rfl z
  |int k n=>exact jm (g:=⟨fun _=>none,fun _=>none,fun _=>none,fun _=>none,fun _=>none⟩) rfl z
  |str l=>exact jm (g:=⟨fun _=>none,fun _=>none,fun _=>none,fun _=>none,fun _=>none⟩) rfl z
  |_=>cases hx
 |qi v=>exact hr.elim
 |pick b x y=>
  obtain⟨u,K,ht⟩:=hd;rw[K]
  cases b with
  |true=>have M:s'=s.put o.dst x:=hr;subst M;exact N _ _ _ (h.put o.dst ht) ⟨u,rfl⟩
  |false=>have M:s'=s.put o.dst y:=hr;subst M;exact N _ _ _ (h.put o.dst ht) ⟨u,rfl⟩
 |Gn L e k ys=>obtain⟨v0,b,c,l,i,u,xs,F,h2,h3,h4,h5,h6,h7,h8,h9,h10,K⟩:=hd;obtain⟨r1,rfl⟩:=hr;rw[K];obtain⟨g',hi⟩:=h.forget.Gn F h2 h3 h4 h5 h6 h7 h8 h9 h10 (OL s) r1;exact N g' _ _ (hi.put o.dst (v:=.tup []) (u:=undef) ⟨[],rfl,.nil⟩) ⟨_,rfl⟩
 |alts i vs=>obtain⟨j,v,F,h2,rfl⟩:=hr;obtain⟨u,K,ht⟩:=hd j v F h2;rw[K];exact N g _ _ (h.put o.dst ht) ⟨u,rfl⟩
 |ownz e sh xs c e2 T=>
  obtain⟨u,w',l,K,m,hz,hE,hk0,hlk⟩:=hd;obtain⟨k,I,S,hk3,Y,rfl⟩:=hr;rw[K];have hkH:k<HL:=by unfold dz at Y;omega
  have F:=(h.still m).put (some k) (v:=.any) (u:=u) jr;have hnew: ∀b,u.ownBlock=some b→w.heap.size≤b:=by
   intro b p;rcases hz.2.2 with⟨rfl,_⟩|⟨b',cap,D,rfl,hb',_⟩
   ·cases p
   simp[Value.ownBlock] at p;omega
  have hz':zn g.G w' (B.ok k) e sh.length xs.length u l:=by refine⟨hz.1,hz.2.1,hz.2.2.imp id ?_⟩;rintro⟨b,cap,D,z,hb',R⟩;exact⟨b,cap,D,z,⟨h.hB.2 b hb',fun _=>Cr h.hB.1 hb'⟩,R⟩
  obtain⟨g1,hg1,hi1,ho1,hc1,_⟩:=F.zlabel (d:=k) (e:=e) (sh:=sh) (xs:=xs) (u:=u) (l:=l) S hz' (by
   intro L v X W b hL _ hb' p;have:=vO h.gok h.own hL hb';have:=hnew b p;omega) (by
   intro j cs b hj p hβ;have hj:aJ s.bx j=some cs:=hj;obtain⟨b',_,_,p1,_,p3,_⟩:=h.bxs.1 j cs hj;rw[hβ] at p1;simp only[aR] at p1;subst p1;have:=(Array.getElem?_eq_some_iff.1 p3).1;have:=hnew b p;omega)
  obtain⟨g2,hg2,hi2,hs2,hx2⟩:=hi1.Uc (d:=dz k) (e:=e2) (sh:=T) (xs:=[]) (u:=.slice none 0 0) hk3 ⟨hk0,.inl ⟨rfl,rfl⟩⟩ (by intro L v X W b _ _ _ hq;cases hq);have hkd:k≠dz k:=by unfold dz;omega
  have ht:aT g2 (.slz k e sh xs (some (dz k)) 0 c e2 T []) u:=by
   refine nL.2 ⟨l,(hx2 k hkd).1.trans ho1,(hx2 k hkd).2.trans hc1,⟨?_,hz.2.1,by rw[hg2,hg1];exact hE⟩,_,hs2.1,hs2.2,fun y _ hy=>hlk y ?_⟩
   ·rcases hz.2.2 with⟨z,hn⟩|⟨b,cap,D,z,_⟩
    ·exact .inl ⟨z,Yv hn⟩
    exact .inr ⟨b,cap,z⟩
   simpa using hy
  have:=hi2.put (some k) (v:=.slz k e sh xs (some (dz k)) 0 c e2 T []) (u:=u) ht;rw[show(s.put (some k) .any).put (some k) (.slz k e sh xs (some (dz k)) 0 c e2 T [])=s.put (some k) (.slz k e sh xs (some (dz k)) 0 c e2 T []) by simp[St.put],show(a.put (some k) u).put (some k) u=a.put (some k) u by simp[Act.put]] at this;rw[Oper.upon_value];rw[I] at N⊢;exact N _ _ _ this ⟨u,rfl⟩
 |appz L e sh xs i c e2 T=>
  obtain⟨v0,u,w',l,Z,K,U,hG0,hz,hE,p,hk0,hlk⟩:=hd;obtain⟨k,I,S,hk3,Y,rfl⟩:=hr;rw[K];have hkH:k<HL:=by unfold dz at Y;omega
  have hrow: ∀b,v0.ownBlock=some b→B.ok L b:=by
   intro b m;rcases(h.own.1 L v0 e sh.length Z).2 with z|⟨b',n,cap,D,l,z,hB',_⟩
   ·rw[z] at m;cases m
   rw[z] at m;simp[Value.ownBlock] at m;subst m;exact hB'
  have C: ∀L' v X W b,(if L'=L then none else g.O L')=some (v,X,W)→v.ownBlock=some b→b<w.heap.size∧some b≠v0.ownBlock:=by
   intro L' v X W b q m;split at q
   ·cases q
   rename_i hne;refine⟨vO h.gok h.own q m,fun M=>hne ?_⟩;exact h.own.2 L' L v v0 _ _ _ _ b q Z m M.symm
  have hbox: ∀j cs b,aJ (s.kill L).bx j=some cs→g.β j=some b→b<w.heap.size∧some b≠v0.ownBlock:=by
   intro j cs b hj hβ;rw[oM] at hj
   cases hq9:aJ s.bx j with
   |none=>rw[hq9] at hj;cases hj
   |some ds=>obtain⟨b',_,_,p1,_,p3,_⟩:=h.bxs.1 j ds hq9;rw[hβ] at p1;simp only[aR] at p1;subst p1;exact⟨(Array.getElem?_eq_some_iff.1 p3).1,fun M=>h.zb j ds L v0 e sh.length b hq9 Z M.symm hβ⟩
  have F:=(h.kill L).grow U hG0 (fun L' v X W b q m=>(C L' v X W b q m).2) (fun j cs b hj m=>(hbox j cs b hj m).2) (fun b m=>(hrow b m).1) (fun b m=>La h.own Z m);have hz':zn g.G w' (B.ok (fO true L k)) e sh.length xs.length u l:=by refine⟨hz.1,hz.2.1,hz.2.2.imp id ?_⟩;rintro⟨b,cap,D,z,m,R⟩;exact⟨b,cap,D,z,⟨m.1,fun hlt=>m.2 (GZ hkH hlt)⟩,R⟩
  obtain⟨g1,hg1,hi1,ho1,hc1,_⟩:=F.zlabel (d:=fO true L k) (e:=e) (sh:=sh) (xs:=xs) (u:=u) (l:=l) S hz' (by
   intro L' v X W b q _ m J;obtain⟨q1,q2⟩:=C L' v X W b q m;rcases p with p|p
   ·rw[J] at p;exact q2 p
   ·have:=p b J;omega) (by
   intro j cs b hj J hβ;obtain⟨q1,q2⟩:=hbox j cs b hj hβ;rcases p with p|p
   ·rw[J] at p;exact q2 p
   have:=p b J;omega)
  obtain⟨g2,hg2,hi2,hs2,hx2⟩:=hi1.Uc (d:=dz k) (e:=e2) (sh:=T) (xs:=[]) (u:=.slice none 0 0) hk3 ⟨hk0,.inl ⟨rfl,rfl⟩⟩ (by intro L v X W b _ _ _ hq;cases hq);have hkd:fO true L k≠dz k:=by
   unfold fO dz;rw[JH];unfold dz at Y
   cases Nat.ble HL L
   ·show k≠k+500000000;omega
   show HL+k≠k+500000000;unfold HL;omega
  have ht:aT g2 (.slz (fO true L k) e sh xs (some (dz k)) i c e2 T []) u:=by
   refine nL.2 ⟨l,(hx2 _ hkd).1.trans ho1,(hx2 _ hkd).2.trans hc1,⟨?_,hz.2.1,by rw[hg2,hg1];exact hE⟩,_,hs2.1,hs2.2,fun y h0 hy=>hlk y h0 hy⟩;rcases hz.2.2 with⟨z,hn⟩|⟨b,cap,D,z,_⟩
   ·exact .inl ⟨z,Yv hn⟩
   exact .inr ⟨b,cap,z⟩
  have:=hi2.put (some k) (v:=.slz (fO true L k) e sh xs (some (dz k)) i c e2 T []) (u:=u) ht;rw[Oper.upon_value];rw[I] at N⊢;exact N _ _ _ this ⟨u,rfl⟩
 |Gp L e sh xs i c L3 e2 T ys=>obtain⟨v0,b,D,l,u,F,h2,h3,h4,h5,h6,h7,h8,h9,K⟩:=hd;have M:s'=(s.Cz L e sh xs i c L3 e2 T ys).put o.dst (.tup []):=hr;subst M;rw[K];obtain⟨g',hi⟩:=h.Gp F h2 h3 h4 h5 h7 h8 h9;exact N g' _ _ (hi.put o.dst (v:=.tup []) (u:=undef) ⟨[],rfl,.nil⟩) ⟨_,rfl⟩
def kC (ops:List Oper) (s:St) (o:Oper):Option Bool:=
 match o.guard with
 |none=>some true
 |some (j,a)=>match ops[j]? with
  |none=>none
  |some c=>match c.dst with
   |none=>none
   |some d=>match slot s.fr d with
    | .bool b=>some (b==a)
    | .tup []=>some false
    |_=>none
theorem WR (h:PW (aT g) s.fr a.tmps.toList) {d:Nat} {x:V} (e:slot s.fr d=x) (b:x≠.any):d<s.fr.length∧ ∃u,a.tmps[d]? =some u∧aT g x u:=by
 unfold slot at e;have f:d<s.fr.length:=by
  refine abt fun c=>b ?_
  rw[←e,mg,abF c];rfl
 obtain⟨u,j,i⟩:=h.get (getD_some f);rw[e] at i;exact⟨f,u,by simpa using j,i⟩
theorem iE {ops:Array Oper} (h:PW (aT g) s.fr a.tmps.toList) {b:Bool} (f:kC ops.toList s o=some b):Region.wanted o (yielded ops a.tmps)=b:=by
 unfold kC at f;unfold Region.wanted;split at f
 ·rename_i m
  rw[m];simp only[aR] at f;exact f
 rename_i j r m;rw[m];simp only;split at f
 ·cases f
 rename_i t n;split at f
 ·cases f
 rename_i d q;have i:ops[j]? =some t:=by simpa using n
 split at f
 ·rename_i c p
  obtain⟨_,u,l,k⟩:=WR h p (by intro e;cases e);rw[dB] at k;subst k;simp only[aR] at f;subst f;simp[yielded,i,q,l]
 ·rename_i p
  obtain⟨_,u,l,k⟩:=WR h p (by intro e;cases e);obtain⟨us,rfl,v⟩:=k;simp only[aR] at f;subst f;simp[yielded,i,q,l]
 cases f
def wX (E:Env) (ops:List Oper) (bx:Option (List (Nat×ah))) (s:St) (o:Oper) (a:St):Prop:=
 (kC ops s o=some true∧ ∃eff,JJ E s.fr (match bx with|some b=>b|none=>s.bx) o=some (true,eff)∧(bx.isSome&&MY eff)=false∧GY E bx.isSome s o.dst eff a)∨(kC ops s o=some false∧a=s.put o.dst (.tup []))
inductive Trace (E:Env) (ops:List Oper) (bx:Option (List (Nat×ah))):List Oper→St→St→Prop
 |nil (s:St):Trace E ops bx [] s s
 |cons {o:Oper} {l:List Oper} {s s1 s':St} (h:wX E ops bx s o s1) (t:Trace E ops bx l s1 s'):Trace E ops bx (o::l) s s'
theorem l6 {α:Type} {c:Bool} {x y:Option α} {r:α} (h:sel c x y=some r):(c=true∧x=some r)∨(c=false∧y=some r):=by
 cases c
 ·exact .inr ⟨rfl,h⟩
 exact .inl ⟨rfl,h⟩
theorem set_same {fr:ah} {d:Nat} {x:V} (h:slot fr d=x):fr.set d x=fr:=by
 by_cases a:d<fr.length
 ·unfold slot at h
  rw[mg,iZ a] at h;simp only[yT] at h;rw[←h];exact List.set_getElem_self a
 exact List.set_eq_of_length_le (by omega)
theorem Lm {β:Type}: ∀(l:ah) (k:ah→β),MZ l k=k l
 |[],_=>rfl
 |v::l,k=>by unfold MZ;exact Lm l _
theorem pf_eq {α:Type} (K:St→Option α):pf K=K:=by
 funext s
 unfold pf;rw[Lm]
inductive zo (E:Env) (ops:List Oper):List Oper→St→V→St→Prop
 |here {o:Oper} {l:List Oper} {s s':St} {eff:Eff} {v:V} (hw:kC ops s o=some true) (ho:JJ E s.fr s.bx o=some (true,eff)) (h:M7 E s eff v s'):zo E ops (o::l) s v s'
 |next {o:Oper} {l:List Oper} {s s1 s':St} {v:V} (h:wX E ops none s o s1) (t:zo E ops l s1 v s'):zo E ops (o::l) s v s'
theorem evOp_rel {α:Type} {call:Caller α} (j:lW E call) {bx:Option (List (Nat×ah))} {K:St→Option α} {KP:V→St→Option α} {r:α} (h:evOp E call bx o s K KP=some r):
  (∃eff a,(JJ E s.fr (match bx with|some b=>b|none=>s.bx) o=some (true,eff)∧(bx.isSome&&MY eff)=false∧GY E bx.isSome s o.dst eff a)∧K a=some r)∨
  (bx=none∧ ∃eff v a,JJ E s.fr s.bx o=some (true,eff)∧M7 E s eff v a∧KP v a=some r):=by
 unfold evOp at h;split at h
 ·cases h
 rename_i c eff g
 cases e:bx.isSome&&MY eff with
 |true=>rw[e] at h;cases h
 |false=>
 rw[e,jW] at h;rcases l6 h with⟨rfl,h⟩|⟨_,h⟩
 ·rcases effK_rel j h with⟨a,f,d⟩|⟨i,v,a,f,d⟩
  ·exact .inl ⟨eff,a,⟨g,e,f⟩,d⟩
  cases bx with
  |some b=>cases i
  |none=>exact .inr ⟨rfl,eff,v,a,g,f,d⟩
 cases h
theorem lJ {α:Type} {call:Caller α} (y:lW E call) {ops:List Oper} {bx:Option (List (Nat×ah))} {KP:V→St→Option α}: ∀(l:List Oper) (s:St) (K:St→Option α) (r:α),rR E call ops bx KP l s K=some r→
  (∃a,Trace E ops bx l s a∧K a=some r)∨(bx=none∧ ∃v a,zo E ops l s v a∧KP v a=some r)
 |[],s,K,r,h=> .inl ⟨s,.nil s,h⟩
 |o::l,s,K,r,h=>by
  have k: ∀(n:kC ops s o=some false),rR E call ops bx KP l (s.put o.dst (.tup [])) K=some r→(∃a,Trace E ops bx (o::l) s a∧K a=some r)∨(bx=none∧ ∃v a,zo E ops (o::l) s v a∧KP v a=some r):=by
   intro n h;rcases lJ y l _ K r h with⟨a,q,t⟩|⟨g,v,a,q,t⟩
   ·exact .inl ⟨a,.cons (.inr ⟨n,rfl⟩) q,t⟩
   subst g;exact .inr ⟨rfl,v,a,.next (.inr ⟨n,rfl⟩) q,t⟩
  have take: ∀(n:kC ops s o=some true),evOp E call bx o s (fun s=>rR E call ops bx KP l s K) KP=some r→(∃a,Trace E ops bx (o::l) s a∧K a=some r)∨(bx=none∧ ∃v a,zo E ops (o::l) s v a∧KP v a=some r):=by
   intro n h;rcases evOp_rel y h with⟨eff,B,w,x⟩|⟨g,eff,v,a,w,A,x⟩
   ·rcases lJ y l B K r x with⟨a,q,t⟩|⟨g,v,a,q,t⟩
    ·exact .inl ⟨a,.cons (.inl ⟨n,eff,w⟩) q,t⟩
    subst g;exact .inr ⟨rfl,v,a,.next (.inl ⟨n,eff,w⟩) q,t⟩
   subst g;exact .inr ⟨rfl,v,a,.here n w A,x⟩
  unfold rR at h;simp only[pf_eq] at h;split at h
  ·rename_i p
   exact take (by unfold kC;rw[p]) h
  rename_i j m p;unfold guardV at h;split at h
  ·cases h
  rename_i C i;split at h
  ·cases h
  rename_i d u;split at h
  ·rename_i b g
   have z: ∀c,b=c→(⟨s.fr.set d (.bool c),s.bx⟩:St)=s:=by intro c e;subst e;rw[set_same g]
   rcases l6 h with⟨f,h⟩|⟨f,h⟩
   ·rw[z true f] at h
    cases m with
    |true=>exact take (by unfold kC;simp[p,i,u,g,f]) h
    |false=>exact k (by unfold kC;simp[p,i,u,g,f]) h
   rw[z false f] at h
   cases m with
   |true=>exact k (by unfold kC;simp[p,i,u,g,f]) h
   |false=>exact take (by unfold kC;simp[p,i,u,g,f]) h
  ·rename_i g
   exact k (by unfold kC;simp[p,i,u,g]) h
  cases h
theorem vU (hE:uL E) {ops:Array Oper} {Q:Exit→Act→World→Prop}: ∀(l:List Oper) (i:Nat) (s b:St) (g:Gh) (a:Act) (w:World),ops.toList.drop i=l→Trace E ops.toList none l s b→Inv E B G0 w0 s g a w→
  (∀g' f w',Inv E B G0 w0 b g' f w'→Q .normal f w')→wpOps E.P ops Q (List.range' i l.length) a w
 |[],i,s,b,g,a,w,j,c,h,e=>by cases c;exact e g a w h
 |o::l,i,s,b,g,a,w,j,c,h,e=>by
  cases c with
  |cons t c=>
   rename_i r;have x:ops[i]? =some o:=by have:=congrArg (fun l=>l[0]?) j;simpa using this
   have d:ops.toList.drop (i+1)=l:=by rw[←abE,j];rfl
   rw[fI,ac7];unfold wpOps;rw[x];simp only;rcases t with⟨m,eff,p,_,q⟩|⟨m,rfl⟩
   ·rw[if_pos (iE h.fr m)]
    refine .inl ?_;have k:=mK (ac:=a) (B:=B) (w:=w) (g:=g) hE rfl h.gok h.own h.bxs h.hB h.m1 h.ku (fun y=>gD h.fr h.ku y) p;exact FF h k (fun _ _ h=>h) (fun _=>rfl) q fun g' f w' n _=>vU hE l (i+1) r b g' f w' d c n e
   rw[if_neg (by rw[iE h.fr m];decide)];exact vU hE l (i+1) _ b g _ w d c (h.put o.dst (v:=.tup []) (u:=undef) ⟨[],rfl,.nil⟩) e
theorem xC (hE:uL E) {ops:Array Oper} {Q:Exit→Act→World→Prop} {v:V}: ∀(l:List Oper) (i:Nat) (s c:St) (g:Gh) (a:Act) (w:World),ops.toList.drop i=l→zo E ops.toList l s v c→Inv E B G0 w0 s g a w→
  (∀g' k w' u,Inv E B G0 w0 c g' k w'→dh v=some u→Q (.panic [{v:=u,recovered:=false}]) k w')→wpOps E.P ops Q (List.range' i l.length) a w
 |[],i,s,c,g,a,w,m,d,h,j=>by cases d
 |o::l,i,s,c,g,a,w,m,d,h,j=>by
  have A:ops[i]? =some o:=by have:=congrArg (fun l=>l[0]?) m;simpa using this
  have f:ops.toList.drop (i+1)=l:=by rw[←abE,m];rfl
  rw[fI,ac7];unfold wpOps;rw[A];simp only
  cases d with
  |here e p q=>rw[if_pos (iE h.fr e)];refine .inl ?_;have b:=mK (ac:=a) (B:=B) (w:=w) (g:=g) hE rfl h.gok h.own h.bxs h.hB h.m1 h.ku (fun y=>gD h.fr h.ku y) p;exact eff_pan h b q fun g' w' u n t=>j g' a w' u n t
  |next z d=>
   rename_i x;rcases z with⟨e,eff,p,_,r⟩|⟨e,rfl⟩
   ·rw[if_pos (iE h.fr e)]
    refine .inl ?_;have b:=mK (ac:=a) (B:=B) (w:=w) (g:=g) hE rfl h.gok h.own h.bxs h.hB h.m1 h.ku (fun y=>gD h.fr h.ku y) p;exact FF h b (fun _ _ h=>h) (fun _=>rfl) r fun g' k w' n _=>xC hE l (i+1) x c g' k w' f d n j
   rw[if_neg (by rw[iE h.fr e];decide)];exact xC hE l (i+1) _ c g _ w f d (h.put o.dst (v:=.tup []) (u:=undef) ⟨[],rfl,.nil⟩) j
end
structure tC where
 d:Nat
 v:V
 bx:Option (ah)
def tC.app (c:tC) (s:St):St:=⟨s.fr.set c.d c.v,match c.bx with|some cs=>(c.d,cs)::s.bx|none=>s.bx⟩
def bT (sel:Nat→Bool):List tC→Nat→St→St
 |[],_,s=>s
 |c::l,k,s=>bT sel l (k+1) (if sel k=true then c.app s else s)
structure Alike (s s':St):Prop where
 fr:s.fr=s'.fr
 bx: ∀k,aJ s.bx k=aJ s'.bx k
theorem Alike.refl (s:St):Alike s s:=⟨rfl,fun _=>rfl⟩
theorem Alike.trans {a b c:St} (h:Alike a b) (k:Alike b c):Alike a c:=⟨h.fr.trans k.fr,fun j=>(h.bx j).trans (k.bx j)⟩
theorem Alike.app {a b:St} (h:Alike a b) (c:tC):Alike (c.app a) (c.app b):=by
 refine⟨by simp[tC.app,h.fr],fun k=>?_⟩;unfold tC.app
 cases c.bx with
 |none=>exact h.bx k
 |some d=>simp only[aJ];rw[h.bx k]
theorem Alike.comm (s:St) {c a:tC} (h:c.d≠a.d):Alike (c.app (a.app s)) (a.app (c.app s)):=by
 refine⟨by simp[tC.app,List.set_comm _ _ (fun e=>h e.symm)],fun k=>?_⟩;unfold tC.app
 cases j:c.bx<;>cases g:a.bx<;>simp only[aJ]
 by_cases f:c.d=k
 ·have b:(c.d==k)=true:=by simpa using f
  have i:(a.d==k)=false:=by rw[uE];intro e;exact h (f.trans e.symm)
  rw[b,i];rfl
 have b:(c.d==k)=false:=by simpa using f
 rw[b];rfl
theorem Ew (sel:Nat→Bool): ∀(l:List tC) (k:Nat) (s a:St),Alike s a→Alike (bT sel l k s) (bT sel l k a)
 |[],_,_,_,h=>h
 |c::l,k,s,a,h=>by
  unfold bT;refine Ew sel l (k+1) _ _ ?_;split
  ·exact h.app c
  exact h
theorem Lp (sel:Nat→Bool) (c:tC): ∀(l:List tC) (k:Nat) (s:St),(∀c'∈l,c'.d≠c.d)→Alike (c.app (bT sel l k s)) (bT sel l k (c.app s))
 |[],_,_,_=> .refl _
 |c'::l,k,s,h=>by
  unfold bT;refine(Lp sel c l (k+1) _ fun x a=>h x (wN _ a)).trans (Ew sel l (k+1) _ _ ?_);split
  ·exact Alike.comm s fun e=>h c' uY e.symm
  exact .refl _
theorem qQ (sel a:Nat→Bool): ∀(l:List tC) (k:Nat) (s:St),(∀i,k≤i→i<k+l.length→sel i=a i)→bT sel l k s=bT a l k s
 |[],_,_,_=>rfl
 |c::l,k,s,h=>by unfold bT;rw[h k (lg _) (by simp)];exact qQ sel a l (k+1) _ fun i d b=>h i (by omega) (by simp;omega)
theorem I9 (sel:Nat→Bool) (i:Nat): ∀(l:List tC) (k:Nat) (s:St) (c:tC),k≤i→l[i-k]? =some c→sel i=false→(l.map (·.d)).Nodup→
  Alike (c.app (bT sel l k s)) (bT (fun j=>if j=i then true else sel j) l k s)
 |[],k,s,c,m,a,_,_=>by simp at a
 |c'::l,k,s,c,m,a,f,b=>by
  simp only[qA,abZ] at b;by_cases e:i=k
  ·subst e
   simp only[Yz,O8,aR] at a;subst a;unfold bT;rw[f,if_neg (by decide),if_pos rfl,if_pos rfl];refine(Lp sel c' l (i+1) s fun x g e=>b.1 (e▸acP g)).trans ?_;rw[qQ sel (fun j=>if j=i then true else sel j) l (i+1) _ fun j o _=>by
    have:j≠i:=by omega
    simp[this]]
   exact .refl _
  unfold bT;have n: ¬k=i:=fun h=>e h.symm
  rw[if_neg n];refine I9 sel i l (k+1) _ c (by omega) ?_ f b.2;rw[show i-k=(i-(k+1))+1 by omega] at a;simpa using a
theorem Lr (sel:Nat→Bool): ∀(l:List tC) (k:Nat) (s:St),(bT sel l k s).fr.length=s.fr.length
 |[],_,_=>rfl
 |c::l,k,s=>by
  unfold bT;rw[Lr sel l (k+1)];split
  ·simp[tC.app]
  rfl
theorem Ey {fr:ah} {d t:Nat} {v:V} (h:t≠d):slot (fr.set d v) t=slot fr t:=by unfold slot;rw[mg,mg,List.getElem?_set_ne (fun e=>h e.symm)]
theorem R3 {fr:ah} {d:Nat} {v:V} (h:d<fr.length):slot (fr.set d v) d=v:=by unfold slot;rw[mg,ab9 h];rfl
theorem nP (sel:Nat→Bool) (t:Nat): ∀(l:List tC) (k:Nat) (s:St),(∀c∈l,c.d≠t)→slot (bT sel l k s).fr t=slot s.fr t
 |[],_,_,_=>rfl
 |c::l,k,s,h=>by
  unfold bT;rw[nP sel t l (k+1) _ fun x a=>h x (wN _ a)];split
  ·exact Ey fun e=>h c uY e.symm
  rfl
theorem pZ (sel:Nat→Bool) (j:Nat): ∀(l:List tC) (k:Nat) (s:St) (c:tC),k≤j→l[j-k]? =some c→(l.map (·.d)).Nodup→c.d<s.fr.length→slot (bT sel l k s).fr c.d=if sel j=true then c.v else slot s.fr c.d
 |[],k,s,c,i,a,_,_=>by simp at a
 |c'::l,k,s,c,i,a,f,g=>by
  simp only[qA,abZ] at f;unfold bT;by_cases e:j=k
  ·subst e
   simp only[Yz,O8,aR] at a;subst a;rw[nP sel c'.d l (j+1) _ fun x h e=>f.1 (e▸acP h)];split
   ·exact R3 g
   rfl
  rw[show j-k=(j-(k+1))+1 by omega] at a;have b:l[j-(k+1)]? =some c:=by simpa using a
  rw[pZ sel j l (k+1) _ c (by omega) b f.2 (by split<;>simpa[tC.app] using g)];split
  ·rfl
  split
  ·refine Ey fun m=>f.1 ?_
   rw[←m];exact acP (F9 b)
  rfl
section
variable {E:Env} {B:Own} {G0:aU} {w0:World}
theorem Inv.alike {s l:St} {g:Gh} {a:Act} {w:World} (h:Inv E B G0 w0 s g a w) (k:Alike s l):Inv E B G0 w0 l g a w:=
 ⟨by rw[←k.fr];exact h.fr,h.df,h.gok,h.own,⟨fun j d c=>h.bxs.1 j d ((k.bx j).trans c),fun j m d i c f=>h.bxs.2 j m d i ((k.bx j).trans c) ((k.bx m).trans f)⟩,h.lS,h.hB,h.ext,h.glob,h.g1,fun j d L v e n b c=>h.zb j d L v e n b ((k.bx j).trans c)⟩
end
theorem Zr {P:Program} {r j:Operand→V} {bx:List (Nat×ah)} {o:Oper} (h: ∀x∈o.op.operands.toList,r x=j x):Tq P r bx o=Tq P j bx o:=by
 have s: ∀l:List Operand,(∀x∈l,r x=j x)→l.map r=l.map j:=fun l k=>abe k
 unfold Tq;simp only
 cases a:o.op with
 |move x=>simp only;rw[h x (by simp[a,Op.operands])]
 |assign x=>simp only;rw[h x (by simp[a,Op.operands])]
 |pick c x y=>simp only;rw[h c (by simp[a,Op.operands]),h x (by simp[a,Op.operands]),h y (by simp[a,Op.operands])]
 |alloc t=>rfl
 |box t x=>simp only;rw[h x (by simp[a,Op.operands])]
 |build t e=>
  simp only;have:(e.toList.map fun(i,x)=>(i,r x))=e.toList.map fun(i,x)=>(i,j x):=by
   refine abe fun p A=>?_
   obtain⟨i,x⟩:=p;simp only;rw[h x (by rw[a];simp only[Op.operands];simp;exact⟨i,by simpa using A⟩)]
  rw[this]
 |buildSlice t n e=>
  simp only;have:(e.toList.map fun(i,x)=>(i,r x))=e.toList.map fun(i,x)=>(i,j x):=by
   refine abe fun p A=>?_
   obtain⟨i,x⟩:=p;simp only;rw[h x (by rw[a];simp only[Op.operands];simp;exact⟨i,by simpa using A⟩)]
  rw[this]
 |load t x=>simp only;rw[h x (by simp[a,Op.operands])]
 |store t x y=>simp only;rw[h x (by simp[a,Op.operands]),h y (by simp[a,Op.operands])]
 |nilCheck x=>simp only;rw[h x (by simp[a,Op.operands])]
 |binOp op t x y H=>simp only;rw[h x (by simp[a,Op.operands]),h y (by simp[a,Op.operands])]
 |makeInterface t x=>simp only;rw[h x (by simp[a,Op.operands])]
 |typeAssert x I t b=>
  cases b with
  |true=>simp only;rw[h x (by simp[a,Op.operands])]
  |false=>rfl
 |panic x=>simp only;rw[h x (by simp[a,Op.operands])]
 |unOp op t x=>simp only;rw[h x (by simp[a,Op.operands])]
 |convert G D x=>simp only;rw[h x (by simp[a,Op.operands])]
 |makeFunc fn first w=>
  cases fn with
  |func f=>simp only;rw[s w.toList fun x v=>h x (by rw[a];simp only[Op.operands];simp;right;simpa using v),s first.toList fun x v=>h x (by rw[a];simp only[Op.operands];simp;left;simpa using v)]
  |_=>rfl
 |makeSlice t l c=>simp only;rw[h l (by simp[a,Op.operands]),h c (by simp[a,Op.operands])]
 |slice t x C B mx=>
  cases mx with
  |some m=>rfl
  |none=>
   simp only;rw[h x (by simp[a,Op.operands])];have F:C.map r=C.map j:=by
    cases C with
    |none=>rfl
    |some y=>simp only[xR];rw[h y (by simp[a,Op.operands])]
   have E:B.map r=B.map j:=by
    cases B with
    |none=>rfl
    |some y=>simp only[xR];rw[h y (by simp[a,Op.operands])]
   rw[F,E]
 |fieldAddr t x f=>simp only;rw[h x (by simp[a,Op.operands])]
 |field t x f=>simp only;rw[h x (by simp[a,Op.operands])]
 |indexAddr t x i=>simp only;rw[h x (by simp[a,Op.operands]),h i (by simp[a,Op.operands])]
 |index t x i=>simp only;rw[h x (by simp[a,Op.operands]),h i (by simp[a,Op.operands])]
 |extract x i=>simp only;rw[h x (by simp[a,Op.operands])]
 |call c=>
  obtain⟨callee,args,g⟩:=c;have d: ∀x∈args.toList,r x=j x:=fun x v=>h x (by rw[a];cases callee<;>simp only[Op.operands,Call.operands]<;>simp<;>(try right)<;>simpa using v)
  cases callee with
  |value f=>simp only;rw[h f (by rw[a];simp[Op.operands,Call.operands]),s args.toList d]
  |invoke q m=>rfl
  |builtin b=>
   simp only;have two: ∀(f:V→V→Gc),(match args.toList with|[x,y]=>f (r x) (r y)|_=>none)=(match args.toList with|[x,y]=>f (j x) (j y)|_=>none):=by
    intro f
    cases k:args.toList with
    |nil=>rfl
    |cons x l=>
     cases l with
     |nil=>rfl
     |cons y l=>
      cases l with
      |nil=>simp only;rw[d x (by rw[k];simp),d y (by rw[k];simp)]
      |cons z l=>rfl
   cases b<;>simp only
   ·
    cases k:args.toList with
    |nil=>rfl
    |cons x l=>
     cases l with
     |nil=>rfl
     |cons y l=>
      cases l with
      |nil=>simp only;rw[d x (by rw[k];simp),d y (by rw[k];simp)]
      |cons z l=>rfl
   ·
    cases k:args.toList with
    |nil=>cases g.toList with
     |nil=>rfl
     |cons t g=>cases g<;>rfl
    |cons x l=>
     cases l with
     |nil=>
      cases g.toList with
      |nil=>rfl
      |cons t g=>
       cases g with
       |nil=>simp only;rw[d x (by rw[k];simp)]
       |cons u g=>rfl
     |cons y l=>cases g.toList with
      |nil=>rfl
      |cons t g=>cases g<;>rfl
   ·
    cases k:args.toList with
    |nil=>cases g.toList with
     |nil=>rfl
     |cons t g=>cases g<;>rfl
    |cons x l=>
     cases l with
     |nil=>
      cases g.toList with
      |nil=>rfl
      |cons t g=>
       cases g with
       |nil=>simp only;rw[d x (by rw[k];simp)]
       |cons u g=>rfl
     |cons y l=>cases g.toList with
      |nil=>rfl
      |cons t g=>cases g<;>rfl
   ·exact two (wR true)
   exact two (wR false)
 |_=>rfl
theorem Zs {E:Env} {fr b:ah} {bx:List (Nat×ah)} {o:Oper} (h: ∀x∈o.op.operands.toList,lH E fr x=lH E b x):JJ E fr bx o=JJ E b bx o:=by
 have k:D6 E fr o=D6 E b o:=by
  unfold D6
  cases j:o.op with
  |lookup t x i c=>
   rw[j] at h
   cases c with
   |false=>simp only[h x (by simp[Op.operands]),h i (by simp[Op.operands])]
   |true=>rfl
  |_=>rfl
 unfold JJ;rw[k];simp only;have e: ∀f:V→V,∀bx:List (Nat×ah),Tq E.P (fun x=>f (lH E fr x)) bx o=Tq E.P (fun x=>f (lH E b x)) bx o:=fun f bx=>Zr fun x d=>by rw[h x d]
 have a:(o.op.operands.toList.any fun x=>(lH E fr x).PV)=o.op.operands.toList.any fun x=>(lH E b x).PV:=by
  rw[uF,Mt,Mt];constructor
  ·rintro⟨x,d,g⟩;exact⟨x,d,by rw[←h x d];exact g⟩
  rintro⟨x,d,g⟩;exact⟨x,d,by rw[h x d];exact g⟩
 rw[a,e V.old0 [],e V.D3 bx,e (fun x=>x) bx]
theorem UY {E:Env} {fr a:ah} {l:List Operand} (h: ∀t∈tmpsOf l,slot fr t=slot a t): ∀x∈l,lH E fr x=lH E a x:=by
 intro x b
 cases x with
 |tmp t=>exact h t (by unfold tmpsOf;rw[List.mem_filterMap];exact⟨_,b,rfl⟩)
 |_=>rfl
section
variable {E:Env} {B:Own} {G0:aU} {w0:World}
theorem Inv.drew {s:St} {g:Gh} {a:Act} {w:World} (h:Inv E B G0 w0 s g a w):Inv E B G0 w0 s g a {w with drawn:=w.drawn+1}:=
 ⟨h.fr,h.df,h.gok,h.own,h.bxs,⟨⟨h.lS.lS.os,h.lS.lS.tape,h.lS.lS.output,h.lS.lS.size,h.lS.lS.block⟩,h.lS.row,h.lS.map⟩,h.hB,h.ext,h.glob,h.g1,h.zb⟩
theorem step_chg {ops:List Oper} {bx:List (Nat×ah)} {s u:St} {o:Oper} {d:Nat} (B:o.dst=some d) (h:wX E ops (some bx) s o u):
  ∃c:tC,c.d=d∧u=c.app s∧ ∀S:St,kC ops S o=kC ops s o→JJ E S.fr bx o=JJ E s.fr bx o→S.bI d=true→S.mq d=true→wX E ops (some bx) S o (c.app S):=by
 rcases h with⟨A,eff,K,a,l⟩|⟨A,rfl⟩
 ·simp only[Option.isSome_some,JH] at a
  have g: ∀c:tC,c.d=d→u=c.app s→(∀S:St,S.bI d=true→S.mq d=true→GY E true S o.dst eff (c.app S))→_:=fun c F w M=>
   (⟨c,F,w,fun S p G q z=> .inl ⟨p.trans A,eff,G.trans K,by simpa using a,M S q z⟩⟩: ∃c:tC,c.d=d∧u=c.app s∧ ∀S:St,kC ops S o=kC ops s o→JJ E S.fr bx o=JJ E s.fr bx o→S.bI d=true→S.mq d=true→wX E ops (some bx) S o (c.app S))
  rw[B] at l g
  cases eff with
  |val v=>exact g ⟨d,v,none⟩ rfl l fun S _ _=>rfl
  |newSl e sh xs=>exact g ⟨d,.sl e sh none xs,none⟩ rfl l fun S _ _=>rfl
  |own e sh xs=>obtain⟨k,n,_,m,rfl⟩:=l;simp only[aR] at n;subst n;exact g ⟨d,.sl e sh (some d) xs,none⟩ rfl rfl fun S q _=>⟨d,rfl,RX q,m,rfl⟩
  |app L e sh xs=>cases a
  |nX e I=>obtain⟨k,n,_,H,m,rfl⟩:=l;simp only[aR] at n;subst n;exact g ⟨d,.box d 0,some I⟩ rfl rfl fun S _ z=>⟨d,rfl,z,H,m,rfl⟩
  |put k off I=>cases a
  |call f args mb ml=>
   rcases l with⟨D,l⟩|⟨C,_⟩|⟨C,_⟩
   ·rcases l with⟨k,r,n,_,m,N,rfl⟩|⟨r,n,_⟩
    ·simp only[aR] at n
     subst n;exact g ⟨d,r.PY d,none⟩ rfl rfl fun S q _=> .inl ⟨D,.inl ⟨d,r,rfl,q,m,N,rfl⟩⟩
    cases n
   ·cases C
   cases C
  |qi v=>exact l.elim
  |pick b x y=>
   cases b with
   |true=>exact g ⟨d,x,none⟩ rfl l fun S _ _=>rfl
   |false=>exact g ⟨d,y,none⟩ rfl l fun S _ _=>rfl
  |Gn L e k ys=>cases a
  |ownz e sh xs c J t=>cases a
  |appz L e sh xs i c J t=>cases a
  |Gp L e sh xs i c L3 J t ys=>cases a
  |alts i vs=>obtain⟨j,v,F,w,rfl⟩:=l;exact g ⟨d,v,none⟩ rfl rfl fun S _ _=>⟨j,v,F,w,rfl⟩
 rw[B];exact⟨⟨d,.tup [],none⟩,rfl,rfl,fun S p _ _ _=> .inr ⟨p.trans A,by rw[B];rfl⟩⟩
theorem Ja {ops:List Oper} {bx:List (Nat×ah)}: ∀(l:List Oper) (s p:St),(∀o∈l,∃d,o.dst=some d)→Trace E ops (some bx) l s p→
  ∃a:List tC,a.length=l.length∧(∀(i:Nat) o c,l[i]? =some o→a[i]? =some c→o.dst=some c.d∧
   ∃n,Alike n (bT (fun j=>decide (j<i)) a 0 s)∧n=bT (fun j=>decide (j<i)) a 0 s∧ ∀S:St,kC ops S o=kC ops n o→JJ E S.fr bx o=JJ E n.fr bx o→S.bI c.d=true→S.mq c.d=true→wX E ops (some bx) S o (c.app S))∧
   p=bT (fun _=>true) a 0 s
 |[],s,p,_,h=>by cases h;exact⟨[],rfl,fun i o c h=>by simp at h,rfl⟩
 |o::l,s,p,A,h=>by
  cases h with
  |cons I D=>
   rename_i L;obtain⟨d,w⟩:=A o uY;obtain⟨c,v,rfl,m⟩:=step_chg w I;obtain⟨a,q,y,t⟩:=Ja l _ p (fun x K=>A x (wN _ K)) D;have e: ∀(sel:Nat→Bool) (b:Nat→Bool) (k:Nat),(∀j,sel (j+1)=b j)→ ∀(a:List tC) (k:Nat) (s:St),bT sel a (k+1) s=bT b a k s:=by
    intro sel b _ r a;induction a with
    |nil=>intro k s;rfl
    |cons c a z=>intro k s;unfold bT;rw[r k,z]
   refine⟨c::a,by simp[q],?_,?_⟩
   ·intro i J C g f
    cases i with
    |zero=>
     simp only[O8,aR] at g f;subst g;subst f;have u:bT (fun j=>decide (j<0)) (c::a) 0 s=s:=by
      have: ∀(a:List tC) (k:Nat) (s:St),bT (fun j=>decide (j<0)) a k s=s:=by
       intro a;induction a with
       |nil=>intro k s;rfl
       |cons c a z=>intro k s;unfold bT;rw[z];simp
      exact this _ _ _
     exact⟨by rw[w,v],s,by rw[u];exact .refl _,u.symm,by rw[v];exact m⟩
    |succ i=>
     simp only[abB] at g f;obtain⟨G,n,B,H,F⟩:=y i J C g f;have u:bT (fun j=>decide (j<i+1)) (c::a) 0 s=bT (fun j=>decide (j<i)) a 0 (c.app s):=by rw[bT];rw[if_pos (by simp)];exact e _ _ 0 (fun j=>by simp) a 0 _
     exact⟨G,n,by rw[u];exact B,by rw[u];exact H,F⟩
   rw[t,bT,if_pos rfl];exact(e (fun _=>true) (fun _=>true) 0 (fun j=>rfl) a 0 _).symm
theorem Ls {l:List Nat} (h:l.Nodup) {i j:Nat} (d:i<l.length) (c:j<l.length) (e:l[i]=l[j]):i=j:=by
 have b:=List.pairwise_iff_getElem.1 h;rcases Nat.lt_trichotomy i j with a|a|a
 ·exact absurd e (b i j d c a)
 ·exact a
 exact absurd e.symm (b j i c d a)
theorem A9 {α:Type} {l:List α} {p:α×Nat→Bool} (h:l.zipIdx.all p=true): ∀(i:Nat) (x:α),l[i]? =some x→p (x,i)=true:=by intro i x a;rw[l8] at h;exact h (x,i) (List.mem_zipIdx_iff_getElem?.2 a)
def Closed (ops:List Oper) (sel:Nat→Bool):Prop:=∀(j:Nat) o,ops[j]? =some o→sel j=true→ ∀e∈o.after,Region.binds .any e=true→sel e.on=true
theorem l7 {ops:List Oper} {sel:Nat→Bool} (c:Closed ops sel): ∀(n j i:Nat),waits ops n j i=true→sel j=true→sel i=true
 |0,_,_,h,_=>by cases h
 |n+1,j,i,h,g=>by
  unfold waits at h;split at h
  ·rename_i o d
   rw[Mt] at h;obtain⟨e,f,h⟩:=h;rw[bC,JR,iM] at h;have b:=c j o d g e (by simpa using f) h.1;rcases h.2 with a|a
   ·rw[←a];exact b
   exact l7 c n e.on i a b
  cases h
theorem B6 (sel:Nat→Bool): ∀(l:List tC) (k:Nat) (s:St) (p:Nat×ah),p∈(bT sel l k s).bx→p∈s.bx∨ ∃(j:Nat) (c:tC) (a:ah),l[j]? =some c∧sel (k+j)=true∧c.bx=some a∧p=(c.d,a)
 |[],k,s,p,h=> .inl h
 |c::l,k,s,p,h=>by
  unfold bT at h;rcases B6 sel l (k+1) _ p h with h|⟨j,f,a,n,e,g,m⟩
  ·split at h
   ·rename_i i
    unfold tC.app at h
    cases b:c.bx with
    |none=>rw[b] at h;exact .inl h
    |some a=>
     rw[b] at h;simp only[Yy] at h;rcases h with rfl|h
     ·exact .inr ⟨0,c,a,rfl,by simpa using i,b,rfl⟩
     exact .inl h
   exact .inl h
  exact .inr ⟨j+1,f,a,by simpa using n,by rw[show k+(j+1)=k+1+j by omega];exact e,g,m⟩
theorem OO (l:List tC): ∀(k:Nat) (s:St),(∀p∈s.bx,p∈(bT (fun _=>true) l k s).bx)∧ ∀(j:Nat) (c:tC) (a:ah),l[j]? =some c→c.bx=some a→(c.d,a)∈(bT (fun _=>true) l k s).bx:=by
 induction l with
 |nil=>intro k s;exact⟨fun p h=>h,fun j c a h=>by simp at h⟩
 |cons c l m=>
  intro k s;unfold bT;rw[if_pos rfl];obtain⟨f,i⟩:=m (k+1) (c.app s);refine⟨fun p e=>f p ?_,fun j n a b g=>?_⟩
  ·unfold tC.app
   cases c.bx with
   |none=>exact e
   |some a=>exact wN _ e
  cases j with
  |zero=>simp only[O8,aR] at b;subst b;refine f _ ?_;unfold tC.app;rw[g];exact uY
  |succ j=>exact i j n a (by simpa using b) g
theorem qa {b:Bool} (h:b=false):aL b=true:=by subst h;rfl
theorem Zt {ops:List Oper} {f:St} {a:List tC} {sel:Nat→Bool} (C:a.length=ops.length) (I: ∀(i:Nat) o c,ops[i]? =some o→a[i]? =some c→o.dst=some c.d) (U:(a.map (·.d)).Nodup) (hfr: ∀c∈a,c.d<f.fr.length)
  (k:lI ops f=true) (q:wT ops (bT (fun _=>true) a 0 f)=true) (R:Closed ops sel) {i:Nat} {c:tC} (T:a[i]? =some c) (n:sel i=false):
  (bT sel a 0 f).bI c.d=true∧(bT sel a 0 f).mq c.d=true:=by
 have M:i<ops.length:=by rw[←C];exact(List.getElem?_eq_some_iff.1 T).1
 have S:=iZ M;have P:=I i _ c S T;unfold lI at k;rw[l8] at k;have k:=k _ (Ga M);rw[P] at k;simp only[bC] at k;obtain⟨w,y⟩:=k;unfold wT at q;simp only at q;have q:=A9 q i _ S;simp only[P,bC] at q;obtain⟨K,E⟩:=q;have H: ∀t,t<f.fr.length→(slot (bT sel a 0 f).fr t).dP c.d=false∧(slot (bT sel a 0 f).fr t).gP c.d=false:=by
  intro t B;have h0:(slot f.fr t).dP c.d=false∧(slot f.fr t).gP c.d=false:=by
   have D:slot f.fr t∈f.fr:=by unfold slot;rw[mg,iZ B];exact Ga B
   exact⟨ul w _ D,H7 y _ D⟩
  by_cases O: ∃u∈a,u.d=t
  ·obtain⟨u,D,rfl⟩:=O
   obtain⟨j,v⟩:=aa5 D;have Y:j<ops.length:=by rw[←C];exact(List.getElem?_eq_some_iff.1 v).1
   have L:=iZ Y;rw[pZ sel j a 0 f u (JS _) (by simpa using v) U B];split
   ·rename_i g
    have b:=A9 K j _ L;simp only[I j _ u L v] at b;rw[pZ (fun _=>true) j a 0 f u (JS _) (by simpa using v) U B,if_pos rfl] at b;simp only[JR,bC,iM] at b;rcases b with(b|b)|b
    ·subst b;rw[n] at g;cases g
    ·exact⟨fM b.1,fM b.2⟩
    have:=l7 R _ _ _ b g;rw[n] at this;cases this
   exact h0
  rw[nP sel t a 0 f fun u D e=>O ⟨u,D,e⟩];exact h0
 have m: ∀x∈(bT sel a 0 f).fr,x.dP c.d=false∧x.gP c.d=false:=by intro x l;obtain⟨t,B,rfl⟩:=acr l;have h:=H t (by rw[Lr] at B;exact B);unfold slot at h;rw[mg,iZ B] at h;exact h
 have F: ∀p∈(bT sel a 0 f).bx,p.1≠c.d∧ ∀x∈p.2,x.dP c.d=false∧x.gP c.d=false:=by
  intro p z;rcases B6 sel a 0 f p z with z|⟨j,u,ds,v,g,X,rfl⟩
  ·unfold St.bI at w
   unfold St.mq at y;simp only[bC,l8] at w y;have h1:=w.2 p z;have b:=y.2 p z;refine⟨fun e=>?_,fun x l=>⟨fM (h1 x l),fM (b.2 x l)⟩⟩;have:=fM b.1;rw[uE] at this;exact this e
  rw[S8] at g;have W:u.d≠c.d:=by
   intro e;have:i=j:=by
    have hil:i<(a.map (·.d)).length:=by rw[kJ];exact(List.getElem?_eq_some_iff.1 T).1
    have G:j<(a.map (·.d)).length:=by rw[kJ];exact(List.getElem?_eq_some_iff.1 v).1
    refine Ls U hil G ?_;simp only[acn];rw[(List.getElem?_eq_some_iff.1 T).2,(List.getElem?_eq_some_iff.1 v).2,e]
   subst this;rw[n] at g;cases g
  refine⟨W,?_⟩;have D:=(OO a 0 f).2 j u ds v X;rw[l8] at E;have b:=E _ D;simp only[JR,l8,Mt,bC,iM] at b;rcases b with b|⟨⟨Z,J⟩,V,Q,hw⟩
  ·exact fun x l=>⟨fM (b x l).1,fM (b x l).2⟩
  exfalso;have s:=List.mem_zipIdx_iff_getElem?.1 V;simp only at s Q hw;have hj'L:J<ops.length:=(List.getElem?_eq_some_iff.1 s).1;have A:J<a.length:=by omega
  have r:=I J Z _ s (iZ A);rw[Q] at r;simp only[aR] at r;have:j=J:=by
   have G:j<(a.map (·.d)).length:=by rw[kJ];exact(List.getElem?_eq_some_iff.1 v).1
   have N:J<(a.map (·.d)).length:=by rw[kJ];exact A
   refine Ls U G N ?_;simp only[acn];rw[(List.getElem?_eq_some_iff.1 v).2,r]
  subst this;have:=l7 R _ _ _ hw g;rw[n] at this;cases this
 unfold St.bI St.mq;simp only[bC,l8];exact⟨⟨fun x l=>qa (m x l).1,fun p z x l=>qa ((F p z).2 x l).1⟩,⟨fun x l=>qa (m x l).2,fun p z=>⟨qa (by rw[uE];exact(F p z).1),fun x l=>qa ((F p z).2 x l).2⟩⟩⟩
end
end Nt.Ev
