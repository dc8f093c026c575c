/-
  From operations to states: what an operation's effect leaves true.
-/
import Derived.Test.YtjcencojgajgdaaGreatDoorMAA
set_option linter.all false
namespace Nt.Ev
open Go Go.RowKit
def tH:V→Bool
 | .sl _ _ (some _) _=>true
 |_=>false
def nR (G:aW) (w:World) (B:Nat→Prop):V→Value→Prop
 | .sl e sh (some _) xs,v=>iP G w B e sh xs v
 |x,v=>aV G x v
def fQ (G:aW) (w:World) (B:Nat→Prop):V→Value→Prop
 | .tup vs,v=>∃a:List Value,v=.tuple a.toArray∧PW (nR G w B) vs a∧vs.countP tH≤1
 |x,v=>nR G w B x v
def aj (E:Env) (f:Nat) (args:ah) (r:V):Prop:=
 ∀(G:aW) (w:World) (vs:List Value),xX G w→nY E G→PW (aV G) args vs→
  Calls E.P f vs.toArray w fun e w'=>∃v G',e=.returned v∧New w w' G G'∧fQ G' w' (w.heap.size≤ ·) r v
def XC (E:Env) (f:Nat) (args:ah) (p:Bool) (x:V) (bs:List (ah)):Prop:=
 ∀(B:Own) (g:Gh) (w:World) (vs:List Value),B.df=[]→Inv E B g.G w ⟨bU 0 args,dU 0 args⟩ g ⟨vs.toArray,[]⟩ w→
  Calls E.P f vs.toArray w fun e w'=>∃g' v,e=(match p with|false=> .returned v|true=> .panicked [{v:=v,recovered:=false}])∧Inv E B g.G w ⟨[x],fK 0 args bs⟩ g' ⟨#[v],[]⟩ w'
def keepR (p:Bool) (x:V) (v:Value):Prop:=
 match p with
 |true=>dn x=some v
 |false=>keepV x=true∧(match x with| .tup []=>v=.tuple #[]|x=>aV (fun _=>none) x v)
def KC (E:Env) (f:Nat) (args:ah) (p:Bool) (x:V):Prop:=
 ∀(B:Own) (g:Gh) (w:World) (vs:List Value),B.df=[]→Inv E B g.G w ⟨bU 0 args,dU 0 args⟩ g ⟨vs.toArray,[]⟩ w→
  Calls E.P f vs.toArray w fun e w'=>∃v,e=(match p with|false=> .returned v|true=> .panicked [{v:=v,recovered:=false}])∧keepR p x v∧Below w.heap.size w w'
def Ij (E:Env) (m:Bool) (s:St) (d:Option Nat) (eff:Eff) (a:St):Prop:=
 match eff with
 | .val v=>a=s.put d v
 | .newSl e sh xs=>a=s.put d (.sl e sh none xs)
 | .own e sh xs=>∃k,d=some k∧(s.put (some k) .any).bK k=true∧k<HL∧a=s.put (some k) (.sl e sh (some k) xs)
 | .app L e sh xs=>∃k,d=some k∧(s.kill L).bK (fP true L k)=true∧k<HL∧a=(s.kill L).put (some k) (.sl e sh (some (fP true L k)) xs)
 | .nW _ h=>∃k,d=some k∧s.mq k=true∧h.all (fun v=>aL (v.gM k))=true∧k<HL∧a=⟨s.fr.set k (.box k 0),(k,h)::s.bx⟩
 | .put k off h=>∃old,aK s.bx k=some old∧(nu (over old off h)=true→nu old=true)∧a=St.put ⟨s.fr,yg s.bx k (over old off h)⟩ d (.tup [])
 | .call f args mb ml=>(iN args=false∧((∃k r,d=some k∧s.bK k=true∧k<HL∧aj E f (args.map V.xW) r∧a=s.put (some k) (r.QS k))∨(∃r,d=none∧aj E f (args.map V.xW) r∧a=s)))∨
  (m=false∧ ∃x bs,XC E f args false x bs∧pz s d mb ml x bs=some a)∨(m=false∧ ∃x,KC E f args false x∧a=s.put d x)
 | .qi _=>False
 | .pick b x y=>a=s.put d (match b with|true=>x|false=>y)
 | .Hf L e k ys=>L<HL∧a=St.put (s.forget.upd L e k ys) d (.tup [])
 | .alts i vs=>∃(j:Nat) (v:V),i=(j:Int)∧vs[j]? =some v∧a=s.put d v
 | .ownz e sh xs c l g=>∃k,d=some k∧(s.put (some k) .any).bK k=true∧(s.put (some k) .any).bK (dz k)=true∧dz k<HL∧a=s.put (some k) (.slz k e sh xs (some (dz k)) 0 c l g [])
 | .appz L e sh xs i c l g=>∃k,d=some k∧(s.kill L).bK (fP true L k)=true∧(s.kill L).bK (dz k)=true∧dz k<HL∧a=(s.kill L).put (some k) (.slz (fP true L k) e sh xs (some (dz k)) i c l g [])
 | .Hg L e sh xs i c L3 l g ys=>a=(s.CU L e sh xs i c L3 l g ys).put d (.tup [])
def NN (E:Env) (s:St) (eff:Eff) (v:V) (a:St):Prop:=
 (∃u,dn v=some u)∧match eff with
 | .call f args mb ml=>(∃bs,XC E f args true v bs∧pz s none mb ml v bs=some a)∨(KC E f args true v∧a=s)
 | .qi b=>b=v∧a=s
 |_=>False
def uH:V→Bool
 | .out _ _ _=>true
 | .keep _ _=>true
 |_=>false
def lS (E:Env) {α:Type} (call:Caller α):Prop:=∀f args (K:V→Option α) r,call f args K=some r→ ∃v,K v=some r∧((uH v=false∧aj E f (args.map V.xW) v)∨(∃p x bs,v=.out p x bs∧XC E f args p x bs)∨ ∃p x,v=.keep p x∧KC E f args p x)
theorem LW {α:Type} {i:Int} {K:V→Option α} {r:α}: ∀(vs:ah) (a:Nat),altK i K a vs=some r→ ∃(j:Nat) (v:V),i=((a+j:Nat):Int)∧vs[j]? =some v∧K v=some r
 |[],a,h=>by cases h
 |v::l,a,h=>by
  unfold altK at h
  cases b:ieq i (a:Int) with
  |true=>
   rw[b] at h;have e:i=(a:Int):=by unfold ieq at b;simpa using b
   exact⟨0,v,by simpa using e,rfl,h⟩
  |false=>rw[b] at h;obtain⟨j,c,g,d,f⟩:=LW l (a+1) h;exact⟨j+1,c,by rw[g];congr 1;omega,by simpa using d,f⟩
theorem ko {d n:Nat} (h:Nat.blt d n=true):d<n:=by rwa [GZ] at h
theorem effK_rel {E:Env} {α:Type} {call:Caller α} (G:lS E call) {n:Bool} {s:St} {d:Option Nat} {eff:Eff} {K:St→Option α} {KP:V→St→Option α} {r:α} (h:effK n call s d eff K KP=some r):
  (∃l,Ij E n s d eff l∧K l=some r)∨(n=false∧ ∃v l,NN E s eff v l∧KP v l=some r):=by
 cases eff with
 |val v=>exact .inl ⟨_,rfl,h⟩
 |newSl e sh xs=>exact .inl ⟨_,rfl,h⟩
 |own e sh xs=>
  cases d with
  |none=>cases h
  |some k=>obtain⟨a,g⟩:=aP h;rw[bF] at a;exact .inl ⟨_,⟨k,rfl,a.1,ko a.2,rfl⟩,g⟩
 |app L e sh xs=>
  cases d with
  |none=>cases h
  |some k=>obtain⟨a,g⟩:=aP h;rw[bF] at a;exact .inl ⟨_,⟨k,rfl,a.1,ko a.2,rfl⟩,g⟩
 |nW e D=>
  cases d with
  |none=>cases h
  |some k=>obtain⟨a,g⟩:=aP h;rw[bF,bF] at a;exact .inl ⟨_,⟨k,rfl,a.1.1,a.1.2,ko a.2,rfl⟩,g⟩
 |put k off D=>
  unfold effK at h;simp only at h;split at h
  ·rename_i old z;obtain⟨h,C⟩:=U1 h;exact .inl ⟨_,⟨old,z,C,rfl⟩,h⟩
  cases h
 |call f args mb ml=>
  obtain⟨v,a,g⟩:=G f args _ r h;rcases g with⟨z,g⟩|⟨p,x,bs,rfl,g⟩|⟨p,x,rfl,g⟩
  ·have m:(bif iN args then none else(match d with
    |some d=>bif s.bK d&&Nat.blt d HL then K (s.put (some d) (v.QS d)) else none
    |none=>K s))=some r:=by
    cases v<;>first|exact a|cases z
   cases w:iN args with
   |true=>rw[w] at m;cases m
   |false=>
    rw[w,jW] at m
    cases d with
    |none=>exact .inl ⟨s,.inl ⟨w,.inr ⟨v,rfl,g,rfl⟩⟩,m⟩
    |some k=>obtain⟨o,F⟩:=aP m;rw[bF] at o;exact .inl ⟨_,.inl ⟨w,.inl ⟨k,v,rfl,o.1,ko o.2,g,rfl⟩⟩,F⟩
  ·cases n with
   |true=>cases a
   |false=>
    cases p with
    |true=>
     have a:(match pz s none mb ml x bs with
      |some l=>(match dn x with|some _=>KP x l|none=>none)
      |none=>none)=some r:=a
     split at a
     ·rename_i l A
      split at a
      ·rename_i u t
       exact .inr ⟨rfl,x,l,⟨⟨u,t⟩,.inl ⟨bs,g,A⟩⟩,a⟩
      cases a
     cases a
    |false=>
     have a:(match pz s d mb ml x bs with
      |some l=>K l
      |none=>none)=some r:=a
     split at a
     ·rename_i l A
      exact .inl ⟨l,.inr (.inl ⟨rfl,x,bs,g,A⟩),a⟩
     cases a
  cases n with
  |true=>cases a
  |false=>
   cases p with
   |true=>
    have a:(match dn x with|some _=>KP x s|none=>none)=some r:=a;split at a
    ·rename_i u t
     exact .inr ⟨rfl,x,s,⟨⟨u,t⟩,.inr ⟨g,rfl⟩⟩,a⟩
    cases a
   |false=>have a:(bif keepV x then K (s.put d x) else none)=some r:=a;obtain⟨m,o⟩:=aP a;exact .inl ⟨_,.inr (.inr ⟨rfl,x,g,rfl⟩),o⟩
 |qi v=>
  cases n with
  |true=>cases h
  |false=>
   have h:(match dn v with|some _=>KP v s|none=>none)=some r:=h;split at h
   ·rename_i u t
    exact .inr ⟨rfl,v,s,⟨⟨u,t⟩,rfl,rfl⟩,h⟩
   cases h
 |pick b x y=>cases b<;>exact .inl ⟨_,rfl,h⟩
 |Hf L e k ys=>obtain⟨a,g⟩:=aP h;exact .inl ⟨_,⟨ko a,rfl⟩,g⟩
 |alts i vs=>obtain⟨j,v,a,g,m⟩:=LW vs 0 h;exact .inl ⟨_,⟨j,v,by simpa using a,g,rfl⟩,m⟩
 |ownz e sh xs c B q=>
  cases d with
  |none=>cases h
  |some k=>obtain⟨a,g⟩:=aP h;rw[bF,bF] at a;exact .inl ⟨_,⟨k,rfl,a.1,a.2.1,ko a.2.2,rfl⟩,g⟩
 |appz L e sh xs i c B q=>
  cases d with
  |none=>cases h
  |some k=>obtain⟨a,g⟩:=aP h;rw[bF,bF] at a;exact .inl ⟨_,⟨k,rfl,a.1,a.2.1,ko a.2.2,rfl⟩,g⟩
 |Hg L e sh xs i c L3 B q ys=>exact .inl ⟨_,rfl,h⟩
section
variable {E:Env} {B:Own} {G0:aW} {w0:World} {s:St} {g:Gh} {a:Act} {w:World}
theorem BX (a:Act) (d:Nat) (u:Value):(a.put (some d) u).tmps.toList=a.tmps.toList.set d u:=by simp[Act.put]
theorem Inv.put (h:Inv E B G0 w0 s g a w) (d:Option Nat) {v:V} {u:Value} (b:aU g v u):Inv E B G0 w0 (s.put d v) g (a.put d u) w:=by
 cases d with
 |none=>exact⟨h.fr,h.df,h.gok,h.own,h.bxs,h.mh,h.hB,h.ext,h.glob,h.g1,h.zb⟩
 |some d=>exact⟨by rw[BX];exact h.fr.set d b,h.df,h.gok,h.own,h.bxs,h.mh,h.hB,h.ext,h.glob,h.g1,h.zb⟩
theorem new_more {w':World} {G G':aW} (c:xX G w) (h:New w w' G G'):mg G G':=fun b l a=>⟨l,by rw[h.2.1 b (fD c a)];exact a,Uh _⟩
theorem vN (m:xX g.G w) (j:Qv B g w) {L:Nat} {v:Value} {e d b:Nat} (h:g.O L=some (v,e,d)) (a:v.ownBlock=some b):b<w.heap.size:=by
 rcases(j.1 L v e d h).2 with c|⟨k,n,cap,f,l,c,_,i,_⟩
 ·rw[c] at a;cases a
 rw[c] at a;simp[Value.ownBlock] at a;subst a;exact(Array.getElem?_eq_some_iff.1 i).1
theorem Inv.new {w':World} {G':aW} (h:Inv E B G0 w0 s g a w) (f:New w w' g.G G'):Inv E B G0 w0 s {g with G:=G'} a w'∧Ext g {g with G:=G'}:=by
 have z:=new_more h.gok f;have u:Ext g {g with G:=G'}:=⟨z,fun _ _ h=>h,fun L v e y b hL i=>f.2.1 b (vN h.gok h.own hL i),fun _ _ h=>h,rfl,fun _ _ _=>rfl⟩
 refine⟨⟨h.fr.mono fun x _ v=>rU u,h.df,f.2.2,⟨fun L v e y hL=>?_,h.own.2⟩,⟨fun k F C=>?_,h.bxs.2⟩,h.mh.trans (kX.of_below f.1 h.hB.2),F9 h.hB f.1.size,⟨fun b i=>(f.2.1 b (abv fun e=>i (h.hB.2 b e))).trans (h.ext.1 b i),h.ext.2.1.trans z,h.ext.2.2⟩,h.glob,h.g1,h.zb⟩,u⟩
 ·obtain⟨H,A⟩:=h.own.1 L v e y hL
  refine⟨H,A.imp id ?_⟩;rintro⟨b,n,cap,q,l,M,i,m,r,o,t,j,K⟩;have d:=(Array.getElem?_eq_some_iff.1 m).1;exact⟨b,n,cap,q,l,M,i,by rw[f.1.block b d];exact m,r,o,t,j.keep rfl (f.2.1 b d),K⟩
 obtain⟨b,c,e,i,p,m,I,J,j,D⟩:=h.bxs.1 k F C;have d:=(Array.getElem?_eq_some_iff.1 m).1;exact⟨b,c,e,i,p,by rw[f.1.block b d];exact m,I.mono fun x _ v=>rU u,J,by show G' b=_;rw[f.2.1 b d];exact j,D⟩
theorem linkO_O {g:Gh} {O':Nat→Option (Value×Nat×Nat)} {C':Nat→Option (List Value)} {d:Nat} (n: ∀L,L≠d→O' L=g.O L) {l:List Value} {j:Nat} {b:Option Nat} {i:Int} {c k:Nat} {a:List Kd} {ys:ah} (p:lkO d b=false) (h:rR g l j b i c k a ys):rR {g with O:=O',C:=C'} l j b i c k a ys:=by
 cases b with
 |none=>trivial
 |some L2=>
  have f:L2≠d:=fun e=>by subst e;simp[lkO] at p
  obtain⟨o,q,m⟩:=h;exact⟨o,(n L2 f).trans q,m⟩
theorem U3 {g:Gh} {O':Nat→Option (Value×Nat×Nat)} {C':Nat→Option (List Value)} {d:Nat} (m: ∀L,L≠d→O' L=g.O L) (p: ∀L,L≠d→C' L=g.C L) {x:V} {v:Value} (f:jy d x=false) (h:bQ g x v):bQ {g with O:=O',C:=C'} x v:=by
 cases x with
 |sl e sh t xs=>
  cases t with
  |none=>exact h
  |some L=>
   have a:L≠d:=fun e=>by subst e;simp[jy] at f
   exact⟨(m L a).trans h.1,h.2⟩
 |eptr L e sh xs i off=>
  have a:L≠d:=fun e=>by subst e;simp[jy] at f
  obtain⟨o,b,k,j⟩:=h;exact⟨o,b,(m L a).trans k,j⟩
 |slz L e sh xs r i c u s ys=>
  have f:(d==L||lkO d r)=false:=f;rw[Fz] at f;have a:L≠d:=fun e=>by subst e;simp at f
  obtain⟨l,k,j,n,q⟩:=h;exact⟨l,(m L a).trans k,(p L a).trans j,n,linkO_O m f.2 q⟩
 |epz L e w i off=>
  have a:L≠d:=fun e=>by subst e;simp[jy] at f
  obtain⟨o,b,l,k,j,n⟩:=h;exact⟨o,b,l,(m L a).trans k,(p L a).trans j,n⟩
 |_=>exact h
theorem NP {g:Gh} {O':Nat→Option (Value×Nat×Nat)} {C':Nat→Option (List Value)} {d:Nat} (k: ∀L,L≠d→O' L=g.O L) (e: ∀L,L≠d→C' L=g.C L) {x:V} {v:Value} (b:x.dW d=false) (h:aU g x v):aU {g with O:=O',C:=C'} x v:=by
 cases x with
 |tup vs=>obtain⟨a,rfl,h⟩:=h;simp only[V.dW,abz] at b;exact⟨a,rfl,h.mono fun y i v j=>U3 k e (by have:=b y i;simpa using this) j⟩
 |fn f c=>obtain⟨a,rfl,h⟩:=h;simp only[V.dW,abz] at b;exact⟨a,rfl,h.mono fun y i v j=>U3 k e (by have:=b y i;simpa using this) j⟩
 |_=>simp only[aU] at h⊢;exact U3 k e b h
theorem fO {b:Bool} (h:aL b=true):b=false:=by cases b;rfl;cases h
theorem uj {d:Nat} (h:s.bK d=true): ∀x∈s.fr,x.dW d=false:=by unfold St.bK at h;rw[bF,lM] at h;exact fun x a=>fO (h.1 x a)
theorem jS: ∀(l:List (Nat×ah)) (k:Nat) (a:ah),aK l k=some a→(k,a)∈l
 |[],k,a,h=>by cases h
 |(j,c)::l,k,a,h=>by
  unfold aK at h
  cases b:j==k with
  |true=>rw[b] at h;simp only[lC,aT] at h;rw[iJ] at b;subst b;subst h;exact rf
  |false=>rw[b] at h;simp only[jW] at h;exact uO _ (jS l k a h)
theorem zM {d:Nat} (h:s.bK d=true): ∀k a,aK s.bx k=some a→ ∀x∈a,x.dW d=false:=by intro k a c x e;unfold St.bK at h;rw[bF,lM,lM] at h;have b:=h.2 _ (jS _ _ _ c);simp only[lM] at b;exact fO (b x e)
theorem S8 {d:Nat} (h:s.bK d=true):(s.put (some d) .any).bK d=true:=by
 unfold St.bK at h⊢;rw[bF,lM] at h⊢;refine⟨fun x b=>?_,h.2⟩;rcases List.mem_or_eq_of_mem_set b with a|rfl
 ·exact h.1 x a
 rfl
theorem Inv.U4 (h:Inv E B G0 w0 s g a w) {d e:Nat} {sh:List Kd} {xs:ah} {u:Value} (hd:s.bK d=true) (q:iP g.G w (B.ok d) e sh xs u)
  (R: ∀L v e j b,g.O L=some (v,e,j)→L≠d→v.ownBlock=some b→u.ownBlock≠some b):
  ∃g',g'.G=g.G∧Inv E B G0 w0 s g' a w∧bQ g' (.sl e sh (some d) xs) u∧ ∀L,L≠d→g'.O L=g.O L∧g'.C L=g.C L:=by
 let O':Nat→Option (Value×Nat×Nat):=fun L=>if L=d then some (u,e,sh.length) else g.O L
 let C':Nat→Option (List Value):=fun L=>if L=d then none else g.C L
 have i: ∀L,L≠d→O' L=g.O L:=fun L hL=>if_neg hL
 have z: ∀L,L≠d→C' L=g.C L:=fun L hL=>if_neg hL
 have hbG: ∀k t b,aK s.bx k=some t→g.β k=some b→g.G b=none:=fun k t b K f=>by obtain⟨b',_,_,W,_,_,_,_,q6,_⟩:=h.bxs.1 k t K;rw[f] at W;simp only[aT] at W;rw[W];exact q6
 refine⟨{g with O:=O',C:=C'},rfl,⟨h.fr.mono fun x T v=>NP i z (uj hd x T),h.df,h.gok,⟨?_,?_⟩,⟨fun k t K=>?_,h.bxs.2⟩,h.mh,h.hB,h.ext,h.glob,h.g1,?_⟩,⟨if_pos rfl,?_⟩,fun L hL=>⟨i L hL,z L hL⟩⟩
 ·intro L v A j hL
  by_cases Um:L=d
  ·subst Um
   have hL:(if L=L then some (u,e,sh.length) else g.O L)=some (v,A,j):=hL;rw[if_pos rfl] at hL;simp only[aT,bP] at hL;obtain⟨rfl,rfl,rfl⟩:=hL;refine⟨q.1,?_⟩;rcases q.2 with⟨q,_⟩|⟨b,cap,o,l,J,f,Q,m,r,D,F,S,hE⟩
   ·exact .inl q
   exact .inr ⟨b,_,cap,o,l,J,f,Q,m,r,D,mZ.mk0 (if_pos rfl) F,S⟩
  have hL:O' L=some (v,A,j):=hL;rw[i L Um] at hL;obtain⟨W,q2⟩:=h.own.1 L v A j hL;refine⟨W,q2.imp id ?_⟩;rintro⟨b,n,cap,o,l,J,f,Q,hnc,r,D,U,S⟩;exact⟨b,n,cap,o,l,J,f,Q,hnc,r,D,U.keep (z L Um) rfl,S⟩
 ·intro L L' v Z Y X j y b M H f P
  have M:O' L=some (v,Y,j):=M;have H:O' L'=some (Z,X,y):=H;by_cases hL:L=d<;>by_cases p:L'=d
  ·rw[hL,p]
  ·subst hL
   have N:(if L=L then some (u,e,sh.length) else g.O L)=some (v,Y,j):=M;rw[if_pos rfl] at N;simp only[aT,bP] at N;rw[i L' p] at H;exact absurd (by rw[N.1];exact f) (R L' Z X y b H p P)
  ·subst p
   have I:(if L'=L' then some (u,e,sh.length) else g.O L')=some (Z,X,y):=H;rw[if_pos rfl] at I;simp only[aT,bP] at I;rw[i L hL] at M;exact absurd (by rw[I.1];exact P) (R L v Y j b M hL f)
  rw[i L hL] at M;rw[i L' p] at H;exact h.own.2 L L' v Z Y X j y b M H f P
 ·obtain⟨b,c,A,f,hBb,Q,hp,ho,F,hq⟩:=h.bxs.1 k t K
  exact⟨b,c,A,f,hBb,Q,hp.mono fun x T v=>NP i z (zM hd k t K x T),ho,F,hq⟩
 ·intro k t L v A j b K hL f hβ
  have hL:O' L=some (v,A,j):=hL;by_cases Um:L=d
  ·subst Um
   have hL:(if L=L then some (u,e,sh.length) else g.O L)=some (v,A,j):=hL;rw[if_pos rfl] at hL;simp only[aT,bP] at hL;obtain⟨rfl,rfl,rfl⟩:=hL;have hn:=hbG k t b K hβ;rcases q.2 with⟨q,_⟩|⟨b',cap,o,l,J,_,_,_,_,_,F,_⟩
   ·rw[q] at f;cases f
   rw[J] at f;simp only[Value.ownBlock,aT] at f;subst f;rw[hn] at F;cases F
  rw[i L Um] at hL;exact h.zb k t L v A j b K hL f hβ
 rcases q.2 with⟨q,T⟩|⟨b,cap,o,l,J,f,Q,m,r,D,F,S,hE⟩
 ·exact .inl ⟨q,T⟩
 exact .inr ⟨b,cap,l,J,m,F,S,hE⟩
theorem Inv.label (h:Inv E B G0 w0 s g a w) {d e:Nat} {sh:List Kd} {xs:ah} {u:Value} (f:s.bK d=true) (k:iP g.G w (B.ok d) e sh xs u)
  (c: ∀L v e i b,g.O L=some (v,e,i)→L≠d→v.ownBlock=some b→u.ownBlock≠some b):
  ∃g',g'.G=g.G∧Inv E B G0 w0 s g' a w∧bQ g' (.sl e sh (some d) xs) u:=by
 obtain⟨g',m,j,l,_⟩:=h.U4 f k c;exact⟨g',m,j,l⟩
theorem Rj (L e:Nat) (sh:List Kd) (k:Nat) (xs:ah):yh L (.sl e sh (some k) xs)=bif L==k then .sl e sh none xs else .sl e sh (some k) xs:=rfl
theorem Jw (L k e:Nat) (sh:List Kd) (xs:ah) (i:Int) (off:Nat):yh L (.eptr k e sh xs i off)=bif L==k then .any else .eptr k e sh xs i off:=rfl
theorem LX (L k e:Nat) (sh:List Kd) (xs:ah) (b:Option Nat) (i:Int) (c d:Nat) (a:List Kd) (ys:ah):yh L (.slz k e sh xs b i c d a ys)=bif L==k then .any else .slz k e sh xs (Xq L b) i c d a ys:=rfl
theorem LY (L k e a:Nat) (i:Int) (off:Nat):yh L (.epz k e a i off)=bif L==k then .any else .epz k e a i off:=rfl
theorem mQ {g:Gh} {O':Nat→Option (Value×Nat×Nat)} {L:Nat} (m: ∀k,k≠L→O' k=g.O k) {x:V} {v:Value} (h:bQ g x v):bQ {g with O:=O'} (yh L x) v:=by
 cases x with
 |sl e sh y xs=>
  cases y with
  |none=>exact h
  |some k=>
   rw[Rj];by_cases a:L=k
   ·have:(L==k)=true:=by simpa using a
    rw[this];show aV g.G (V.sl e sh none xs) v;exact nI h.2
   have:(L==k)=false:=by simpa using a
   rw[this];exact⟨(m k (fun e=>a e.symm)).trans h.1,h.2⟩
 |eptr k e sh xs i off=>
  rw[Jw];by_cases a:L=k
  ·have:(L==k)=true:=by simpa using a
   rw[this];show aV g.G V.any v;unfold aV;trivial
  have:(L==k)=false:=by simpa using a
  rw[this];obtain⟨o,b,j,f⟩:=h;exact⟨o,b,(m k (fun e=>a e.symm)).trans j,f⟩
 |slz k e sh xs s i c t n ys=>
  rw[LX];by_cases a:L=k
  ·have:(L==k)=true:=by simpa using a
   rw[this];show aV g.G V.any v;unfold aV;trivial
  have:(L==k)=false:=by simpa using a
  rw[this];obtain⟨l,j,f,w,p⟩:=h;refine⟨l,(m k (fun e=>a e.symm)).trans j,f,w,?_⟩
  cases s with
  |none=>trivial
  |some L2=>
   by_cases d:L=L2
   ·subst d
    show rR _ l sh.length (bif L==L then none else some L) i c t n ys;rw[Qf];trivial
   have r:Xq L (some L2)=some L2:=by show(bif L==L2 then none else some L2)=some L2;rw[beq_eq_false_iff_ne.2 d];rfl
   rw[r];obtain⟨u,q,z⟩:=p;exact⟨u,(m L2 (fun e=>d e.symm)).trans q,z⟩
 |epz k e A i off=>
  rw[LY];by_cases a:L=k
  ·have:(L==k)=true:=by simpa using a
   rw[this];show aV g.G V.any v;unfold aV;trivial
  have:(L==k)=false:=by simpa using a
  rw[this];obtain⟨o,b,l,j,f⟩:=h;exact⟨o,b,l,(m k (fun e=>a e.symm)).trans j,f⟩
 |_=>exact h
theorem Rk {g:Gh} {O':Nat→Option (Value×Nat×Nat)} {L:Nat} (d: ∀k,k≠L→O' k=g.O k) {xs:ah} {vs:List Value} (h:PW (bQ g) xs vs):PW (bQ {g with O:=O'}) (xs.map (yh L)) vs:=by
 refine⟨by simp[h.1],fun i x v a c=>?_⟩;rw[uE] at a
 cases b:xs[i]? with
 |none=>rw[b] at a;cases a
 |some y=>rw[b] at a;simp only[xV,aT] at a;subst a;exact mQ d (h.2 i y v b c)
theorem eu {R R':V→Value→Prop} {f:V→V} {xs:ah} {vs:List Value} (h:PW R xs vs) (c: ∀z∈xs,∀v,R z v→R' (f z) v):PW R' (xs.map f) vs:=by
 refine⟨by simp[h.1],fun i x v a d=>?_⟩;rw[uE] at a
 cases b:xs[i]? with
 |none=>rw[b] at a;cases a
 |some y=>rw[b] at a;simp only[xV,aT] at a;subst a;exact c y (GR b) v (h.2 i y v b d)
theorem oK {L:Nat} {x:V} (h:x.single=true):(yh L x).single=true:=by
 cases x with
 |sl e sh b xs=>
  cases b with
  |none=>rfl
  |some k=>rw[Rj];cases L==k<;>rfl
 |eptr k e sh xs i off=>rw[Jw];cases L==k<;>rfl
 |slz k e sh xs f i c g a ys=>rw[LX];cases L==k<;>rfl
 |epz k e d i off=>rw[LY];cases L==k<;>rfl
 |tup _=>cases h
 |fn _ _=>cases h
 |_=>rfl
theorem adw {g:Gh} {O':Nat→Option (Value×Nat×Nat)} {L:Nat} (d: ∀k,k≠L→O' k=g.O k) {x:V} {v:Value} (h:aU g x v):aU {g with O:=O'} (x.kill L) v:=by
 cases x with
 |tup vs=>obtain⟨a,rfl,h⟩:=h;exact⟨a,rfl,Rk d h⟩
 |fn f c=>obtain⟨a,rfl,h⟩:=h;exact⟨a,rfl,Rk d h⟩
 |sl e sh o xs=>have b:=mQ (L:=L) d (bf rfl h);exact bJ (oK rfl) b
 |eptr k e sh xs i off=>have b:=mQ (L:=L) d (bf (x:=.eptr k e sh xs i off) rfl h);exact bJ (oK (x:=.eptr k e sh xs i off) rfl) b
 |slz k e sh xs l i c m j ys=>have b:=mQ (L:=L) d (bf (x:=.slz k e sh xs l i c m j ys) rfl h);exact bJ (oK (x:=.slz k e sh xs l i c m j ys) rfl) b
 |epz k e n i off=>have b:=mQ (L:=L) d (bf (x:=.epz k e n i off) rfl h);exact bJ (oK (x:=.epz k e n i off) rfl) b
 |_=>simp only[aU] at h⊢;exact mQ d h
theorem XX {g:Gh} {O':Nat→Option (Value×Nat×Nat)} {L:Nat} (d: ∀k,k≠L→O' k=g.O k) {xs:ah} {vs:List Value} (h:PW (aU g) xs vs):PW (aU {g with O:=O'}) (xs.map (V.kill L)) vs:=by
 refine⟨by simp[h.1],fun i x v a c=>?_⟩;rw[uE] at a
 cases b:xs[i]? with
 |none=>rw[b] at a;cases a
 |some y=>rw[b] at a;simp only[xV,aT] at a;subst a;exact adw d (h.2 i y v b c)
theorem gI (f:ah→ah): ∀(l:List (Nat×ah)) (k:Nat),aK (l.map fun(k,cs)=>(k,f cs)) k=(aK l k).map f
 |[],k=>rfl
 |(j,a)::l,k=>by
  simp only[rA,aK]
  cases j==k
  ·exact gI f l k
  rfl
theorem oO (s:St) (L k:Nat):aK (s.kill L).bx k=(aK s.bx k).map (List.map (V.kill L)):=gI _ _ _
theorem Inv.kill (h:Inv E B G0 w0 s g a w) (L:Nat):Inv E B G0 w0 (s.kill L) {g with O:=fun k=>if k=L then none else g.O k} a w:=by
 have A: ∀k,k≠L→(if k=L then none else g.O k)=g.O k:=fun k d=>if_neg d
 refine⟨XX A h.fr,h.df,h.gok,⟨fun k v e l d=>?_,fun k m v x e z l o b j f=>?_⟩,⟨fun k y d=>?_,fun k m y F j f=>?_⟩,h.mh,h.hB,h.ext,h.glob,h.g1,fun k y L' v e l b d hL q=>?_⟩
 ·have d:(if k=L then none else g.O k)=some (v,e,l):=d
  split at d
  ·cases d
  exact h.own.1 k v e l d
 ·have j:(if k=L then none else g.O k)=some (v,e,l):=j
  have f:(if m=L then none else g.O m)=some (x,z,o):=f;split at j
  ·cases j
  split at f
  ·cases f
  exact h.own.2 k m v x e z l o b j f
 ·rw[oO] at d
  cases i:aK s.bx k with
  |none=>rw[i] at d;cases d
  |some n=>rw[i] at d;simp only[xV,aT] at d;subst d;obtain⟨b,c,e,q,r,G,C,D,H,u⟩:=h.bxs.1 k n i;exact⟨b,c,e,q,r,G,XX A C,D,H,kP (Z9 _) u⟩
 ·rw[oO] at j f
  cases i:aK s.bx k with
  |none=>rw[i] at j;cases j
  |some n=>
   cases p:aK s.bx m with
   |none=>rw[p] at f;cases f
   |some t=>exact h.bxs.2 k m n t i p
 rw[oO] at d;have hL:(if L'=L then none else g.O L')=some (v,e,l):=hL;split at hL
 ·cases hL
 cases i:aK s.bx k with
 |none=>rw[i] at d;cases d
 |some n=>exact h.zb k n L' v e l b i hL q
end
section
variable {E:Env} {B:Own} {G0:aW} {w0:World} {s:St} {g:Gh} {a:Act} {w:World}
theorem U5 {g:Gh} {β':Nat→Option Nat} {d:Nat} (hβ: ∀k,k≠d→β' k=g.β k) {x:V} {v:Value} (i:tV d x=false) (h:bQ g x v):bQ {g with β:=β'} x v:=by
 cases x with
 |box k off=>
  obtain⟨b,c,j⟩:=h;have a:k≠d:=fun e=>by subst e;simp[tV] at i
  exact⟨b,(hβ k a).trans c,j⟩
 |sl e sh f xs=>cases f<;>exact h
 |eptr _ _ _ _ _ _=>exact h
 |_=>exact h
theorem U6 {g:Gh} {β':Nat→Option Nat} {d:Nat} (hβ: ∀k,k≠d→β' k=g.β k) {x:V} {v:Value} (b:x.gM d=false) (h:aU g x v):aU {g with β:=β'} x v:=by
 cases x with
 |tup vs=>obtain⟨a,rfl,h⟩:=h;simp only[V.gM,abz] at b;exact⟨a,rfl,h.mono fun y e v i=>U5 hβ (by have:=b y e;simpa using this) i⟩
 |fn f c=>obtain⟨a,rfl,h⟩:=h;simp only[V.gM,abz] at b;exact⟨a,rfl,h.mono fun y e v i=>U5 hβ (by have:=b y e;simpa using this) i⟩
 |_=>simp only[aU] at h⊢;exact U5 hβ b h
theorem IP {d:Nat} (h:s.mq d=true): ∀x∈s.fr,x.gM d=false:=by unfold St.mq at h;rw[bF,lM] at h;exact fun x a=>fO (h.1 x a)
theorem IQ {d:Nat} (h:s.mq d=true): ∀k b,aK s.bx k=some b→k≠d∧ ∀x∈b,x.gM d=false:=by intro k b c;unfold St.mq at h;rw[bF,lM,lM] at h;have a:=h.2 _ (jS _ _ _ c);simp only[bF,lM] at a;refine⟨fun e=>?_,fun x f=>fO (a.2 x f)⟩;have:=fO a.1;subst e;simp at this
theorem adx {G:aW} (a:xX G w) (o:Obj):New w (w.alloc o) G G:=by refine⟨iD w o,fun _ _=>rfl,fun b l h=>?_⟩;obtain⟨c,e,fr,f,d⟩:=a b l h;exact⟨c,e,fr,by rw[Below.heap_alloc w o b (fD a h)];exact f,d⟩
theorem Inv.nW (h:Inv E B G0 w0 s g a w) {k e:Nat} {z:ah} {c:Array Value} (Y:k<HL) (R:s.mq k=true) (U:PW (aU g) z c.toList) (X: ∀u∈c.toList,u.oneCell'=true) (D:z.all (fun v=>aL (v.gM k))=true) (K:nu z=true→pq E.P e z.length=true):
  ∃g',Inv E B G0 w0 ⟨s.fr.set k (.box k 0),(k,z)::s.bx⟩ g' (a.put (some k) (.pointer (some ⟨w.heap.size,0,none⟩))) (w.alloc (.cells c e)):=by
 obtain⟨n,y⟩:=h.new (adx h.gok (.cells c e));let β':Nat→Option Nat:=fun j=>if j=k then some w.heap.size else g.β j
 have hβ: ∀j,j≠k→β' j=g.β j:=fun j f=>if_neg f
 have F:PW (aU {g with β:=β'}) s.fr a.tmps.toList:=n.fr.mono fun x y v=>U6 hβ (IP R x y)
 rw[lM] at D;refine⟨{g with β:=β'},by rw[BX];exact F.set k ⟨w.heap.size,if_pos rfl,rfl⟩,n.df,n.gok,n.own,⟨fun j q f=>?_,fun j p q A f o m=>?_⟩,n.mh,n.hB,⟨n.ext.1,n.ext.2.1,fun j f=>(hβ j (by omega)).trans (n.ext.2.2 j f)⟩,n.glob,n.g1,fun j q L v T W b f hL m hβj=>?_⟩
 ·unfold aK at f
  by_cases d:k=j
  ·subst d
   rw[Qf,lC] at f;simp only[aT] at f;subst f;refine⟨w.heap.size,c,e,if_pos rfl,h.hB.2 _ (kG _),heap_alloc_new w _,U.mono fun x y v=>U6 hβ (fO (D x y)),X,?_,K⟩;show g.G w.heap.size=none
   cases K:g.G w.heap.size with
   |none=>rfl
   |some l=>have:=fD h.gok K;omega
  have:(k==j)=false:=by simpa using d
  rw[this,jW] at f;obtain⟨b,H,M,m,J,C,I,N,Z,O⟩:=n.bxs.1 j q f;exact⟨b,H,M,by show β' j=_;rw[hβ j (fun e=>d e.symm)];exact m,J,C,I.mono fun x y v=>U6 hβ ((IQ R j q f).2 x y),N,Z,O⟩
 ·unfold aK at f o
  have m:β' j=β' p:=m;by_cases d:k=j<;>by_cases i:k=p
  ·rw[←d,←i]
  ·subst d
   have r:(k==p)=false:=by simpa using i
   rw[r,jW] at o;obtain⟨b,H,M,t,_,C,_⟩:=h.bxs.1 p A o;have Q:β' k=some w.heap.size:=if_pos rfl;rw[Q,hβ p (fun e=>i e.symm),t] at m;simp only[aT] at m;have:=(Array.getElem?_eq_some_iff.1 C).1;omega
  ·subst i
   have r:(k==j)=false:=by simpa using d
   rw[r,jW] at f;obtain⟨b,H,M,t,_,C,_⟩:=h.bxs.1 j q f;have Q:β' k=some w.heap.size:=if_pos rfl;rw[Q,hβ j (fun e=>d e.symm),t] at m;simp only[aT] at m;have:=(Array.getElem?_eq_some_iff.1 C).1;omega
  have r:(k==j)=false:=by simpa using d
  have S:(k==p)=false:=by simpa using i
  rw[r,jW] at f;rw[S,jW] at o;rw[hβ j (fun e=>d e.symm),hβ p (fun e=>i e.symm)] at m;exact n.bxs.2 j p q A f o m
 have hβj:β' j=some b:=hβj;by_cases d:k=j
 ·subst d
  rw[show β' k=some w.heap.size from if_pos rfl] at hβj;simp only[aT] at hβj;have:=vN h.gok h.own hL m;omega
 unfold aK at f;have r:(k==j)=false:=by simpa using d
 rw[r,jW] at f;rw[hβ j (fun e=>d e.symm)] at hβj;exact h.zb j q L v T W b f hL m hβj
theorem pY: ∀(l:List (Nat×ah)) (k j:Nat) (b old:ah),aK l k=some old→aK (yg l k b) j=if j=k then some b else aK l j
 |[],k,j,b,old,h=>by cases h
 |(i,f)::l,k,j,b,old,h=>by
  unfold aK at h;unfold yg
  cases c:i==k with
  |true=>
   rw[lC];unfold aK;have e:i=k:=by simpa using c
   subst e;by_cases a:i=j
   ·subst a;simp
   have:(i==j)=false:=by simpa using a
   rw[this,jW,jW,if_neg (fun e=>a e.symm)]
  |false=>
   rw[c,jW] at h;rw[jW];have d:i≠k:=by simpa using c
   unfold aK;rw[pY l k j b old h];by_cases a:i=j
   ·subst a
    rw[Qf,lC,lC,if_neg d]
   have:(i==j)=false:=by simpa using a
   rw[this,jW,jW]
theorem Inv.store (h:Inv E B G0 w0 s g a w) {k off b e:Nat} {old vs:ah} {c:Array Value} {us:List Value} (O:g.β k=some b) (m:aK s.bx k=some old) (Q:w.heap[b]? =some (.cells c e (0,0))) (hp:PW (aU g) old c.toList)
  (P:PW (aU g) vs us) (ho: ∀u∈us,u.oneCell'=true) (hle:off+vs.length≤old.length) (hq:nu (over old off vs)=true→nu old=true):
  Inv E B G0 w0 ⟨s.fr,yg s.bx k (over old off vs)⟩ g a (w.setRow b (c.toList.take off++us++c.toList.drop (off+us.length)).toArray):=by
 obtain⟨b',c',e',y,I,z,hp',K,N,hq0⟩:=h.bxs.1 k old m;rw[O] at y;simp only[aT] at y;subst y;rw[Q] at z;simp only[aT,Obj.cells.injEq] at z;obtain⟨rfl,rfl,_⟩:=z;have hl':=m;have M:=setRow_heap w b c (c.toList.take off++us++c.toList.drop (off+us.length)).toArray e (0,0) Q;have i: ∀j,j≠b→(w.setRow b (c.toList.take off++us++c.toList.drop (off+us.length)).toArray).heap[j]? =w.heap[j]? :=fun j d=>setRow_other w b j _ d
 have F:(w.setRow b (c.toList.take off++us++c.toList.drop (off+us.length)).toArray).heap.size=w.heap.size:=by simp[World.setRow]
 have R: ∀j l,g.G j=some l→j≠b:=fun j l d e=>by subst e;rw[N] at d;cases d
 refine⟨h.fr,h.df,fun j l d=>?_,⟨fun L v f H hL=>?_,h.own.2⟩,⟨fun j x d=>?_,fun j j' x D d p=>?_⟩,?_,by rw[F];exact h.hB,h.ext,h.glob,h.g1,fun j x L v f H C d hL o=>?_⟩
 ·obtain⟨c2,f,fr,hc,ht⟩:=h.gok j l d
  exact⟨c2,f,fr,by rw[i j (R j l d)];exact hc,ht⟩
 ·obtain⟨h1,h2⟩:=h.own.1 L v f H hL
  refine⟨h1,h2.imp id ?_⟩;rintro⟨j,n,cap,Z,l,P,d,hhj,hnc,T,hcs,X,m⟩;have U:j≠b:=fun e=>h.zb k old L v f H j hl' hL (by rw[P];rfl) (by rw[e];exact O)
  exact⟨j,n,cap,Z,l,P,d,by rw[i j U];exact hhj,hnc,T,hcs,X,m⟩
 ·rw[pY s.bx k j _ old m] at d
  split at d
  ·rename_i t
   subst t;simp only[aT] at d;subst d;refine⟨b,_,e,O,I,M,by simpa using XU hp P off,fun u q=>?_,N,fun Q=>by rw[over_len hle];exact hq0 (hq Q)⟩;simp only[abq] at q;rcases q with(q|q)|q
   ·exact K u (abK q)
   ·exact ho u q
   exact K u (acH q)
  rename_i t;obtain⟨C,c2,f,o,J,W,Y,ho2,hG2,hq2⟩:=h.bxs.1 j x d;have S:C≠b:=by intro e3;subst e3;exact t (h.bxs.2 j k x old d m (o.trans O.symm))
  exact⟨C,c2,f,o,J,by rw[i C S];exact W,Y,ho2,hG2,hq2⟩
 ·rw[pY s.bx k _ _ old m] at d p
  refine fun r=>?_
  split at d<;>split at p
  ·rename_i A f;rw[A,f]
  ·rename_i A f;subst A;exact h.bxs.2 _ _ old D m p r
  ·rename_i A f;subst f;exact h.bxs.2 _ _ x old d m r
  exact h.bxs.2 _ _ x D d p r
 ·refine h.mh.trans ⟨⟨rfl,rfl,rfl,by rw[F];exact kG _,fun j d=>by omega⟩,fun j d=>i j fun e=>d (e▸I)⟩
 rw[pY s.bx k j _ old m] at d;split at d
 ·rename_i A;rw[A];exact h.zb k old L v f H C m hL o
 exact h.zb j x L v f H C d hL o
theorem NQ {f:ah→ah} {bx:List (Nat×ah)} {g:Gh} (h: ∀k a L v e c b,aK bx k=some a→g.O L=some (v,e,c)→v.ownBlock=some b→g.β k≠some b): ∀k a L v e c b,aK (bx.map fun(k,a)=>(k,f a)) k=some a→g.O L=some (v,e,c)→v.ownBlock=some b→g.β k≠some b:=by
 intro k a L v e c b d;rw[gI] at d
 cases i:aK bx k with
 |none=>rw[i] at d;cases d
 |some j=>exact h k j L v e c b i
theorem j4 {G G':aW} {x:V} {v:Value} (a:Eh x=true) (h:aV G x v):aV G' x v:=by
 cases x<;>first|cases a|skip
 all_goals (unfold aV at h⊢;exact h)
theorem fit_flat {sh:List Kd} {x:V} (e:sh.all flatK=true) (b:bW sh x.cells=true): ∀c∈x.cells,Eh c=true:=by
 have f: ∀(sh:List Kd) (a:ah),sh.all flatK=true→bW sh a=true→ ∀c∈a,Eh c=true:=by
  intro sh;induction sh with
  |nil=>intro a _ b c d;cases a with
   |nil=>cases d
   |cons _ _=>simp[bW] at b
  |cons k sh h=>
   intro a e b c d
   cases a with
   |nil=>cases d
   |cons y a=>
    rw[K8,bF] at e;simp only[bW] at b;obtain⟨i,g⟩:=aN b;rcases List.mem_cons.1 d with rfl|d
    ·cases k<;>first|(cases e.1;done)|skip
     all_goals (cases c<;>first|rfl|(simp[fits] at i))
    exact h a e.2 g c d
 exact f sh x.cells e b
theorem ady {G G':aW} {sh:List Kd} {x:V} {u:Value} (e:sh.all flatK=true) (c:fV sh x=true) (h:aV G x u):aV G' x u:=by
 have b:=fit_flat e c
 cases x with
 |agg g=>unfold aV at h⊢;obtain⟨a,rfl,h⟩:=h;refine⟨a,rfl,?_⟩;rw[fe] at h⊢;exact h.mono fun y d v f=>j4 (b y d) f
 |_=>exact j4 (b _ rf) h
theorem DD {G G':aW} {sh:List Kd} (b:sh.all flatK=true): ∀(xs:ah) (cells:List Value),cZ G sh xs cells→cZ G' sh xs cells
 |[],_,_=>iy
 |x::xs,cells,h=>by unfold cZ at h⊢;obtain⟨a,⟨u,c,e⟩,d⟩:=h;exact⟨a,⟨u,ady b a c,e⟩,DD b xs _ d⟩
theorem LZ {G G':aW} {sh:List Kd} {xs:ah} {v:Value} (f:sh.all flatK=true) (h:uT G sh xs v) (e: ∀b,v.ownBlock=some b→G' b=G b):uT G' sh xs v:=by
 rcases h with h|⟨b,cap,l,rfl,a,g,c,d⟩
 ·exact .inl h
 exact .inr ⟨b,cap,l,rfl,a,by rw[e b rfl];exact g,c,DD f _ _ d⟩
theorem XY (L e:Nat) (k:List Kd) (ys:ah) (a:Nat) (sh:List Kd) (j:Nat) (xs:ah):QC L e k ys (.sl a sh (some j) xs)=bif L==j then .sl e k (some L) ys else .sl a sh (some j) xs:=rfl
theorem L5 (L e:Nat) (k:List Kd) (ys:ah) (j a:Nat) (sh:List Kd) (xs:ah) (i:Int) (off:Nat):QC L e k ys (.eptr j a sh xs i off)=bif L==j then .eptr L e k ys i off else .eptr j a sh xs i off:=rfl
theorem Ez {g:Gh} {x:V} {v:Value} (h:aU g x v):aU g x.forget v:=by
 unfold V.forget
 cases x.flat
 ·exact jr
 exact h
theorem S9: ∀x:V,x.forget=.nilp→x=.nilp:=by
 intro x h;unfold V.forget at h
 cases a:x.flat<;>rw[a] at h
 ·cases h
 exact h
theorem EA (x:V):x.forget.flat=true:=by
 unfold V.forget
 cases a:x.flat
 ·rfl
 exact a
theorem Inv.forget (h:Inv E B G0 w0 s g a w):Inv E B G0 w0 s.forget g a w:=by
 have t: ∀k,aK s.forget.bx k=(aK s.bx k).map (List.map V.forget):=fun k=>gI _ _ _
 refine⟨eu h.fr fun z _ v o=>Ez o,h.df,h.gok,h.own,⟨fun k G d=>?_,fun k u G A q l=>?_⟩,h.mh,h.hB,h.ext,h.glob,h.g1,NQ (f:=List.map V.forget) h.zb⟩
 ·rw[t] at d
  cases i:aK s.bx k with
  |none=>rw[i] at d;cases d
  |some p=>rw[i] at d;simp only[xV,aT] at d;subst d;obtain⟨b,c,e,D,n,C,x,y,F,r⟩:=h.bxs.1 k p i;exact⟨b,c,e,D,n,C,eu x fun z _ v o=>Ez o,y,F,kP S9 r⟩
 rw[t] at q l
 cases i:aK s.bx k with
 |none=>rw[i] at q;cases q
 |some p=>
  cases j:aK s.bx u with
  |none=>rw[j] at l;cases l
  |some m=>exact h.bxs.2 k u p m i j
theorem PO (s:St):s.forget.Xm=true:=by
 unfold St.Xm St.forget;rw[bF,lM,lM];refine⟨fun x a=>?_,fun p b=>?_⟩
 ·obtain⟨y,_,rfl⟩:=List.mem_map.1 a
  exact EA y
 obtain⟨q,_,rfl⟩:=List.mem_map.1 b;show(q.2.map V.forget).all V.flat=true;rw[lM];intro x a;obtain⟨y,_,rfl⟩:=List.mem_map.1 a;exact EA y
theorem Inv.Hf (h:Inv E B G0 w0 s g a w) {L e b i:Nat} {k:List Kd} {U u:Value} {c:Array Value} {l:List Value} {xs ys:ah} (hO:g.O L=some (U,e,k.length)) (I:U.ownBlock=some b) (hh:w.heap[b]? =some (.cells c e (0,0))) (G4:g.G b=some l) (hi:i<l.length)
  (hown:uT g.G k xs U) (X:ys.length=xs.length) (hk:k.all flatK=true) (hr:cZ g.G k ys (l.set i u)) (hone:u.oneCell'=true) (hn:s.Xm=true) (hL:L<HL):
  ∃g',Inv E B G0 w0 (s.upd L e k ys) g' a (w.setRow b (c.toList.take i++[u]++c.toList.drop (i+1)).toArray):=by
 have Y:B.ok L b:=by
  rcases(h.own.1 L U e k.length hO).2 with t|⟨C,n,cap,cur,l',t,Z,_⟩
  ·rw[t] at I;cases I
  rw[t] at I;simp[Value.ownBlock] at I;subst I;exact Z
 obtain⟨c0,e0,fr0,hc0,ht0⟩:=h.gok b l G4;rw[hh] at hc0;simp only[aT,Obj.cells.injEq] at hc0;obtain⟨rfl,rfl,rfl⟩:=hc0;have hil:i<c.toList.length:=by have:=congrArg List.length ht0;rw[Kc] at this;omega
 have hset:c.toList.take i++[u]++c.toList.drop (i+1)=c.toList.set i u:=by rw[abV,if_pos hil];simp
 rw[hset];let G':aW:=fun j=>if j=b then some (l.set i u) else g.G j
 have H: ∀j,j≠b→G' j=g.G j:=fun j o=>if_neg o
 have hGs:G' b=some (l.set i u):=if_pos rfl;have hnew:=setRow_heap w b c (c.toList.set i u).toArray e (0,0) hh;have J: ∀j,j≠b→(w.setRow b (c.toList.set i u).toArray).heap[j]? =w.heap[j]? :=fun j o=>setRow_other w b j _ o
 have hsz:(w.setRow b (c.toList.set i u).toArray).heap.size=w.heap.size:=by simp[World.setRow]
 have hv0:uT G' k ys U:=by
  rcases hown with⟨t,hx0⟩|⟨C,cap,l',t,hcap,hGl,hll,hE⟩
  ·rw[t] at I;cases I
  rw[t] at I;simp only[Value.ownBlock,aT] at I;subst I;rw[G4] at hGl;simp only[aT] at hGl;subst hGl;exact .inr ⟨C,cap,l.set i u,by rw[t,X],by rw[X];exact hcap,hGs,by rw[abI,X];exact hll,DD hk _ _ hr⟩
 have hlenL: ∀(sh:List Kd) (zs:ah),g.O L=some (U,e,sh.length)→uT g.G sh zs U→zs.length=xs.length:=by
  intro sh zs _ hz;rcases hz with⟨t,hz⟩|⟨C,cap,l',t,_⟩
  ·rw[t] at I;cases I
  rcases hown with⟨R,_⟩|⟨b2,cap2,l2,R,_⟩
  ·rw[R] at I;cases I
  rw[t] at R;simp only[Value.slice.injEq] at R;exact R.2.1
 have K: ∀j v F sz C,j≠L→g.O j=some (v,F,sz)→v.ownBlock=some C→C≠b:=by intro j v F sz C o hOj P N;subst N;exact o (h.own.2 j L v U F e sz k.length C hOj hO P I)
 have hm1:mg g.G1 G':=fun j m o=>by
  obtain⟨m1,q1,q2⟩:=h.g1 j m o;have D:j≠b:=fun e=>by have h1:=h.glob.2 j m1 q1;have h2:=Y.2 hL;omega
  obtain⟨m2,q3,q4⟩:=h.ext.2.1 j m1 q1;exact⟨m2,(H j D).trans q3,q2.trans q4⟩
 have d: ∀(y:V) (v:Value),Li y=true→bQ g y v→bQ {g with G:=G'} (QC L e k ys y) v:=by
  intro y v A t
  cases y with
  |sl F sh ow zs=>
   cases ow with
   |none=>cases A
   |some j=>
    rw[XY];obtain⟨M,p2⟩:=t;by_cases o:L=j
    ·have N:(L==j)=true:=by simpa using o
     rw[N,lC];subst o;rw[hO] at M;simp only[aT,bP] at M;obtain⟨rfl,rfl,_⟩:=M;exact⟨hO,hv0⟩
    have N:(L==j)=false:=by simpa using o
    rw[N,jW];exact⟨M,LZ A p2 fun C P=>H C (K j v F _ C (fun e=>o e.symm) M P)⟩
  |eptr j F sh zs q off=>
   rw[L5];obtain⟨v1,b1,M,p2,p3,p4,p5,p6⟩:=t;by_cases o:L=j
   ·have N:(L==j)=true:=by simpa using o
    rw[N,lC];subst o;have p1':=M;rw[hO] at M;simp only[aT,bP] at M;obtain⟨rfl,rfl,hsl⟩:=M;have hzl:=hlenL sh zs p1' p2;refine⟨U,b1,hO,hv0,p3,by rw[X];omega,p5,?_⟩;rw[p6,hsl]
   have N:(L==j)=false:=by simpa using o
   rw[N,jW];exact⟨v1,b1,M,LZ A p2 fun C P=>H C (K j v1 F _ C (fun e=>o e.symm) M P),p3,p4,p5,p6⟩
  |box j off=>exact t
  |old x=>exact⟨t.1,iA hm1 _ _ t.1,t.2.2⟩
  |any=>show aV G' .any v;unfold aV;trivial
  |bool _=>exact j4 (G:=g.G) rfl t
  |int _ _=>exact j4 (G:=g.G) rfl t
  |str _=>exact j4 (G:=g.G) rfl t
  |nilsl=>exact j4 (G:=g.G) rfl t
  |nilif=>exact j4 (G:=g.G) rfl t
  |nilp=>exact j4 (G:=g.G) rfl t
  |iface _ _=>cases A
  |bxa _ _=>cases A
  |out _ _ _=>cases A
  |oq _ _ _=>cases A
  |agg _=>cases A
  |tup _=>cases A
  |rptr _ _ _=>cases A
  |fn _ _=>cases A
  |slz _ _ _ _ _ _ _ _ _ _=>cases A
  |epz _ _ _ _ _=>cases A
  |keep _ _=>cases A
 have Q: ∀(y:V) (v:Value),y.flat=true→aU g y v→aU {g with G:=G'} (y.upd L e k ys) v:=by
  intro y v A t
  cases y with
  |tup vs=>obtain⟨a,rfl,p⟩:=t;have A:vs.all Li=true:=A;rw[lM] at A;exact⟨a,rfl,eu p fun z hz v t=>d z v (A z hz) t⟩
  |fn f vs=>obtain⟨a,rfl,p⟩:=t;have A:vs.all Li=true:=A;rw[lM] at A;exact⟨a,rfl,eu p fun z hz v t=>d z v (A z hz) t⟩
  |agg S=>obtain⟨a,rfl,p⟩:=iQ.1 t;have A:S.all Eh=true:=A;rw[lM] at A;exact iQ.2 ⟨a,rfl,p.mono fun z hz v t=>j4 (A z hz) t⟩
  |sl F sh ow zs=>
   have h2:=d (.sl F sh ow zs) v A (bf (x:=.sl F sh ow zs) rfl t);refine bJ ?_ h2
   cases ow with
   |none=>cases A
   |some j=>show(QC L e k ys (V.sl F sh (some j) zs)).single=true;rw[XY];cases L==j<;>rfl
  |eptr j F sh zs q off=>have h2:=d (.eptr j F sh zs q off) v A (bf (x:=.eptr j F sh zs q off) rfl t);refine bJ ?_ h2;show(QC L e k ys (V.eptr j F sh zs q off)).single=true;rw[L5];cases L==j<;>rfl
  |any=>exact bJ rfl (d (.any) v rfl (bf (x:=.any) rfl t))
  |bool q=>exact bJ rfl (d (.bool q) v rfl (bf (x:=.bool q) rfl t))
  |int q r=>exact bJ rfl (d (.int q r) v rfl (bf (x:=.int q r) rfl t))
  |str q=>exact bJ rfl (d (.str q) v rfl (bf (x:=.str q) rfl t))
  |nilsl=>exact bJ rfl (d (.nilsl) v rfl (bf (x:=.nilsl) rfl t))
  |nilif=>exact bJ rfl (d (.nilif) v rfl (bf (x:=.nilif) rfl t))
  |nilp=>exact bJ rfl (d (.nilp) v rfl (bf (x:=.nilp) rfl t))
  |iface _ _=>cases A
  |bxa _ _=>cases A
  |out _ _ _=>cases A
  |oq _ _ _=>cases A
  |box q r=>exact bJ rfl (d (.box q r) v rfl (bf (x:=.box q r) rfl t))
  |old q=>exact bJ rfl (d (.old q) v rfl (bf (x:=.old q) rfl t))
  |rptr _ _ _=>cases A
  |slz _ _ _ _ _ _ _ _ _ _=>cases A
  |epz _ _ _ _ _=>cases A
  |keep _ _=>cases A
 unfold St.Xm at hn;rw[bF,lM,lM] at hn;obtain⟨n1,n2⟩:=hn;refine⟨{g with G:=G'},eu h.fr fun y A v t=>Q y v (n1 y A) t,h.df,fun j m o=>?_,⟨fun j v e2 sz o=>?_,h.own.2⟩,⟨fun j ds o=>?_,fun j j' ds ds' o T=>?_⟩,?_,by rw[hsz];exact h.hB,⟨fun j o=>(H j fun e=>o (e▸Y.1)).trans (h.ext.1 j o),fun j m o=>by
  have D:j≠b:=fun e=>by have h1:=h.glob.2 j m o;have h2:=Y.2 hL;omega
  obtain⟨m',h1,h2⟩:=h.ext.2.1 j m o;exact⟨m',by show G' j=_;rw[H j D];exact h1,h2⟩,h.ext.2.2⟩,h.glob,h.g1,NQ (f:=List.map (V.upd L e k ys)) h.zb⟩
 ·by_cases D:j=b
  ·subst D
   have o:G' j=some m:=o;rw[hGs] at o;simp only[aT] at o;subst o;refine⟨_,_,_,hnew,?_⟩;rw[abI,acu];rw[acK,ht0]
  have o:G' j=some m:=o;rw[H j D] at o;obtain⟨c2,e2,fr,hc,ht⟩:=h.gok j m o;exact⟨c2,e2,fr,by rw[J j D];exact hc,ht⟩
 ·obtain⟨q1,q2⟩:=h.own.1 j v e2 sz o
  refine⟨q1,q2.imp id ?_⟩;rintro⟨C,n,cap,cur,m,t,Z,W,hnc,hcm,hcs,hGj,hl⟩;by_cases D:C=b
  ·subst D
   rw[hh] at W;simp only[aT,Obj.cells.injEq] at W;obtain⟨rfl,rfl,_⟩:=W;obtain⟨e9,hCj⟩:=hGj.known G4;subst e9;exact⟨C,n,cap,_,_,t,Z,hnew,hnc,hcm,by simpa using hcs,mZ.mk0 hCj hGs,by simpa using hl⟩
  exact⟨C,n,cap,cur,m,t,Z,by rw[J C D];exact W,hnc,hcm,hcs,hGj.keep rfl (H C D),hl⟩
 ·have o:aK (s.bx.map fun(q,S)=>(q,S.map (V.upd L e k ys))) j=some ds:=o
  rw[gI] at o
  cases hq:aK s.bx j with
  |none=>rw[hq] at o;cases o
  |some S=>
   rw[hq] at o;simp only[xV,aT] at o;subst o;obtain⟨C,c',F,M,p2,p3,p4,p5,p6,p7⟩:=h.bxs.1 j S hq;have hne:C≠b:=fun N=>by subst N;rw[G4] at p6;cases p6
   have hfl:=n2 _ (jS _ _ _ hq);simp only[lM] at hfl;exact⟨C,c',F,M,p2,by rw[J C hne];exact p3,eu p4 fun y A v t=>Q y v (hfl y A) t,p5,by show G' C=none;rw[H C hne];exact p6,kP (upd_nilp _ _ _ _) p7⟩
 ·have o:aK (s.bx.map fun(q,S)=>(q,S.map (V.upd L e k ys))) j=some ds:=o
  have T:aK (s.bx.map fun(q,S)=>(q,S.map (V.upd L e k ys))) j'=some ds':=T;rw[gI] at o T
  cases hq:aK s.bx j with
  |none=>rw[hq] at o;cases o
  |some S=>
   cases hq':aK s.bx j' with
   |none=>rw[hq'] at T;cases T
   |some cs'=>exact h.bxs.2 j j' S cs' hq hq'
 refine h.mh.trans ⟨⟨rfl,rfl,rfl,by rw[hsz];exact kG _,fun j o=>by omega⟩,fun j o=>J j fun e=>o (e▸Y.1)⟩
theorem L6 (L i e:Nat) (sh:List Kd) (k:Nat) (xs:ah):tK L i (.sl e sh (some k) xs)=bif L==k then .sl e sh (some i) xs else .sl e sh (some k) xs:=rfl
theorem EB (L i k e:Nat) (sh:List Kd) (xs:ah) (j:Int) (off:Nat):tK L i (.eptr k e sh xs j off)=bif L==k then .eptr i e sh xs j off else .eptr k e sh xs j off:=rfl
theorem VM (L i k e:Nat) (sh:List Kd) (xs:ah) (b:Option Nat) (j:Int) (c d:Nat) (a:List Kd) (ys:ah):tK L i (.slz k e sh xs b j c d a ys)=.slz (bif L==k then i else k) e sh xs (renO L i b) j c d a ys:=rfl
theorem VN (L i k e a:Nat) (j:Int) (off:Nat):tK L i (.epz k e a j off)=.epz (bif L==k then i else k) e a j off:=rfl
theorem jT {g:Gh} {O':Nat→Option (Value×Nat×Nat)} {C':Nat→Option (List Value)} {L i:Nat} (y:O' i=g.O L) (r: ∀k,k≠L→k≠i→O' k=g.O k) (t:C' i=g.C L) (D: ∀k,k≠L→k≠i→C' k=g.C k) {x:V} {v:Value} (d:jy i x=false) (h:bQ g x v):bQ {g with O:=O',C:=C'} (tK L i x) v:=by
 cases x with
 |sl e sh I xs=>
  cases I with
  |none=>exact h
  |some k=>
   rw[L6];by_cases a:L=k
   ·have:(L==k)=true:=by simpa using a
    rw[this];subst a;exact⟨y.trans h.1,h.2⟩
   have:(L==k)=false:=by simpa using a
   rw[this];have p:k≠i:=fun e=>by subst e;simp[jy] at d
   exact⟨(r k (fun e=>a e.symm) p).trans h.1,h.2⟩
 |eptr k e sh xs j off=>
  rw[EB];obtain⟨z,b,n,m⟩:=h;by_cases a:L=k
  ·have:(L==k)=true:=by simpa using a
   rw[this];subst a;exact⟨z,b,y.trans n,m⟩
  have:(L==k)=false:=by simpa using a
  rw[this];have p:k≠i:=fun e=>by subst e;simp[jy] at d
  exact⟨z,b,(r k (fun e=>a e.symm) p).trans n,m⟩
 |slz k e sh xs A j c B q ys=>
  rw[VM];have d:(i==k||lkO i A)=false:=d;rw[Fz,uD] at d;obtain⟨s,f⟩:=d;obtain⟨l,n,m,u,H⟩:=h;have w:rR {g with O:=O',C:=C'} l sh.length (renO L i A) j c B q ys:=by
   cases A with
   |none=>trivial
   |some L2=>
    have f:(i==L2)=false:=f;rw[uD] at f;obtain⟨F,E,G⟩:=H;by_cases o:L=L2
    ·subst o
     show rR _ l sh.length (bif L==L then some i else some L) j c B q ys;rw[Qf];exact⟨F,y.trans E,G⟩
    show rR _ l sh.length (bif L==L2 then some i else some L2) j c B q ys;rw[beq_eq_false_iff_ne.2 o];exact⟨F,(r L2 (fun e=>o e.symm) (fun e=>f e.symm)).trans E,G⟩
  by_cases a:L=k
  ·subst a
   rw[Qf];exact⟨l,y.trans n,t.trans m,u,w⟩
  rw[beq_eq_false_iff_ne.2 a];exact⟨l,(r k (fun e=>a e.symm) (fun e=>s e.symm)).trans n,(D k (fun e=>a e.symm) (fun e=>s e.symm)).trans m,u,w⟩
 |epz k e J j off=>
  rw[VN];have d:(i==k)=false:=d;rw[uD] at d;obtain⟨z,b,l,n,m,u⟩:=h;by_cases a:L=k
  ·subst a
   rw[Qf];exact⟨z,b,l,y.trans n,t.trans m,u⟩
  rw[beq_eq_false_iff_ne.2 a];exact⟨z,b,l,(r k (fun e=>a e.symm) (fun e=>d e.symm)).trans n,(D k (fun e=>a e.symm) (fun e=>d e.symm)).trans m,u⟩
 |_=>exact h
theorem yA {L i:Nat} {x:V} (h:x.single=true):(tK L i x).single=true:=by
 cases x with
 |sl e sh a xs=>
  cases a with
  |none=>rfl
  |some k=>rw[L6];cases L==k<;>rfl
 |eptr k e sh xs j off=>rw[EB];cases L==k<;>rfl
 |tup _=>cases h
 |fn _ _=>cases h
 |_=>rfl
theorem Jy {g:Gh} {O':Nat→Option (Value×Nat×Nat)} {C':Nat→Option (List Value)} {L i:Nat} (o:O' i=g.O L) (m: ∀k,k≠L→k≠i→O' k=g.O k) (b:C' i=g.C L) (l: ∀k,k≠L→k≠i→C' k=g.C k) {x:V} {v:Value} (d:x.dW i=false) (h:aU g x v):aU {g with O:=O',C:=C'} (x.canon L i) v:=by
 cases x with
 |tup vs=>obtain⟨a,rfl,h⟩:=h;simp only[V.dW,abz] at d;exact⟨a,rfl,eu h fun y s v t=>jT o m b l (by have:=d y s;simpa using this) t⟩
 |fn f c=>obtain⟨a,rfl,h⟩:=h;simp only[V.dW,abz] at d;exact⟨a,rfl,eu h fun y s v t=>jT o m b l (by have:=d y s;simpa using this) t⟩
 |sl e sh u xs=>exact bJ (yA rfl) (jT o m b l d (bf rfl h))
 |eptr k e sh xs j off=>exact bJ (yA (x:=.eptr k e sh xs j off) rfl) (jT (x:=.eptr k e sh xs j off) o m b l d (bf (x:=.eptr k e sh xs j off) rfl h))
 |slz k e sh xs p j c q n ys=>exact bJ (x:=.slz (bif L==k then i else k) e sh xs (renO L i p) j c q n ys) rfl (jT (x:=.slz k e sh xs p j c q n ys) o m b l d (bf (x:=.slz k e sh xs p j c q n ys) rfl h))
 |epz k e r j off=>exact bJ (x:=.epz (bif L==k then i else k) e r j off) rfl (jT (x:=.epz k e r j off) o m b l d (bf (x:=.epz k e r j off) rfl h))
 |_=>simp only[aU,V.dW] at h d⊢;exact jT o m b l d h
theorem Inv.canon (h:Inv E B G0 w0 s g a w) {L i:Nat} (S:L≠i) (hcl:i<HL→L<HL) (hi:s.bK i=true): ∃g',Inv E B G0 w0 (s.canon L i) g' a w:=by
 let O':Nat→Option (Value×Nat×Nat):=fun k=>if k=i then g.O L else if k=L then none else g.O k
 have P:O' i=g.O L:=if_pos rfl;have h2: ∀k,k≠L→k≠i→O' k=g.O k:=fun k d z=>by show(if k=i then g.O L else if k=L then none else g.O k)=_;rw[if_neg z,if_neg d]
 let C':Nat→Option (List Value):=fun k=>if k=i then g.C L else if k=L then none else g.C k
 have A:C' i=g.C L:=if_pos rfl;have D: ∀k,k≠L→k≠i→C' k=g.C k:=fun k d z=>by show(if k=i then g.C L else if k=L then none else g.C k)=_;rw[if_neg z,if_neg d]
 have m: ∀k x,O' k=some x→ ∃j,g.O j=some x∧(j=if k=i then L else k):=by
  intro k x d;have d:(if k=i then g.O L else if k=L then none else g.O k)=some x:=d;split at d
  ·rename_i e;exact⟨L,d,by rw[if_pos e]⟩
  rename_i e;split at d
  ·cases d
  exact⟨k,d,by rw[if_neg e]⟩
 refine⟨{g with O:=O',C:=C'},eu h.fr fun x Z v=>Jy P h2 A D (uj hi x Z),h.df,h.gok,⟨fun k v e F d=>?_,fun k q v v' e e' F Y b d f t hb'=>?_⟩,⟨fun k o d=>?_,fun k q o W d f=>?_⟩,h.mh,h.hB,h.ext,h.glob,h.g1,fun k o q v e F b d f t=>?_⟩
 ·obtain⟨j,M,I⟩:=m k _ d
  have P:=h.own.1 j v e F M;refine⟨P.1,P.2.imp id ?_⟩;rintro⟨b,n,cap,J,l,hv,t,hh,X,T,hcs,u,hl⟩;have hCk:C' k=g.C j:=by
   rw[I];by_cases N:k=i
   ·rw[if_pos N,N];exact A
   rw[if_neg N];have r:k≠L:=fun e9=>by
    subst e9;have d:(if k=i then g.O k else if k=k then none else g.O k)=some (v,e,F):=d;rw[if_neg N,if_pos rfl] at d
    cases d
   exact D k r N
  refine⟨b,n,cap,J,l,hv,⟨t.1,fun d=>t.2 ?_⟩,hh,X,T,hcs,?_,hl⟩
  ·rw[I]
   split
   ·rename_i e;exact hcl (e▸d)
   exact d
  unfold mZ at u⊢;show(match C' k with|none=>g.G b=some l|some l'=>g.G b=none∧l'=l∧J.toList.take l.length=l);rw[hCk];exact u
 ·have r: ∀k x,O' k=some x→k≠L:=by
   intro k x d e;subst e;have d:(if k=i then g.O k else if k=k then none else g.O k)=some x:=d;rw[if_neg S,if_pos rfl] at d
   cases d
  obtain⟨j,M,I⟩:=m k _ d;obtain⟨j',hj',y⟩:=m q _ f;have hjj:=h.own.2 j j' v v' e e' F Y b M hj' t hb';have hk1:=r k _ d;have hk2:=r q _ f;by_cases R:k=i<;>by_cases Q:q=i
  ·rw[R,Q]
  ·rw[if_pos R] at I;rw[if_neg Q] at y;omega
  ·rw[if_neg R] at I;rw[if_pos Q] at y;omega
  rw[if_neg R] at I;rw[if_neg Q] at y;omega
 ·have d:aK (s.bx.map fun(k,o)=>(k,o.map (V.canon L i))) k=some o:=d
  rw[gI] at d
  cases p:aK s.bx k with
  |none=>rw[p] at d;cases d
  |some H=>rw[p] at d;simp only[xV,aT] at d;subst d;obtain⟨b,c,e,t,hBb,hh,hp,ho,hG,hq2⟩:=h.bxs.1 k H p;exact⟨b,c,e,t,hBb,hh,eu hp fun x Z v=>Jy P h2 A D (zM hi k H p x Z),ho,hG,kP (VB _ _) hq2⟩
 ·have d:aK (s.bx.map fun(k,o)=>(k,o.map (V.canon L i))) k=some o:=d
  have f:aK (s.bx.map fun(k,o)=>(k,o.map (V.canon L i))) q=some W:=f;rw[gI] at d f
  cases p:aK s.bx k with
  |none=>rw[p] at d;cases d
  |some H=>
   cases K:aK s.bx q with
   |none=>rw[K] at f;cases f
   |some U=>exact h.bxs.2 k q H U p K
 obtain⟨j,M,_⟩:=m q _ f;have d:aK (s.bx.map fun(k,o)=>(k,o.map (V.canon L i))) k=some o:=d;rw[gI] at d
 cases p:aK s.bx k with
 |none=>rw[p] at d;cases d
 |some H=>exact h.zb k H j v e F b p M t
theorem Inv.less (h:Inv E B G0 w0 s g a w) {fr:ah} {bx:List (Nat×ah)} (m:PW (aU g) fr a.tmps.toList) (i: ∀k c,aK bx k=some c→aK s.bx k=some c):Inv E B G0 w0 ⟨fr,bx⟩ g a w:=
 ⟨m,h.df,h.gok,h.own,⟨fun k c f=>h.bxs.1 k c (i k c f),fun k l c d f j=>h.bxs.2 k l c d (i k c f) (i l d j)⟩,h.mh,h.hB,h.ext,h.glob,h.g1,fun k c L v e n b f=>h.zb k c L v e n b (i k c f)⟩
theorem L8 {g:Gh} (a:List Nat): ∀(xs:ah) (vs:List Value) (i:Nat),PW (aU g) xs vs→PW (aU g) (C8 a xs i) vs
 |[],vs,i,h=>by rw[h.cO];exact .nil
 |x::xs,vs,i,h=>by
  obtain⟨v,t,rfl,c,b⟩:=h.cons_inv;unfold C8;refine .cons ?_ (L8 a xs t (i+1) b)
  cases a.contains i
  ·exact c
  exact jr
theorem EC (q:Nat→Bool): ∀(l:List (Nat×ah)) (k:Nat) (c:ah),aK (l.filter fun(k,_)=>q k) k=some c→aK l k=some c
 |[],k,c,h=>by cases h
 |(j,g)::l,k,c,h=>by
  have b:=EC q l k c;simp only[ab3] at h;unfold aK
  cases d:j==k with
  |true=>
   have e:j=k:=by simpa using d
   subst e;rw[lC]
   cases a:q j with
   |true=>rw[a,if_pos rfl] at h;unfold aK at h;rw[d,lC] at h;exact h
   |false=>
    rw[a,if_neg (by decide)] at h;exfalso;have: ∀(l:List (Nat×ah)),aK (l.filter fun(k,_)=>q k) j=none:=by
     intro l;induction l with
     |nil=>rfl
     |cons p l b=>
      obtain⟨i,m⟩:=p;simp only[ab3];by_cases f:q i=true
      ·rw[if_pos f]
       unfold aK;have:(i==j)=false:=by rw[uD];intro e;subst e;rw[f] at a;cases a
       rw[this,jW];exact b
      rw[if_neg f];exact b
    rw[this l] at h
    cases h
  |false=>
   rw[jW]
   cases a:q j with
   |true=>rw[a,if_pos rfl] at h;unfold aK at h;rw[d,jW] at h;exact b h
   |false=>rw[a,if_neg (by decide)] at h;exact b h
theorem Ik {L i:Nat} (b:i<HL) (h:fP true L i<HL):L<HL:=by
 unfold fP at h;rw[Ke] at h
 cases a:Nat.ble HL L with
 |true=>rw[a,lC] at h;omega
 |false=>
  refine abv fun e=>?_
  rw[ace e] at a
  cases a
theorem KO: ∀(fr:ah) (i:Nat) (b:List Nat) (s:St) (g:Gh),Inv E B G0 w0 s g a w→ ∃g',Inv E B G0 w0 (j3 fr i b s) g' a w:=by
 intro fr;induction fr with
 |nil=>intro i b s g h;exact⟨g,h⟩
 |cons x fr c=>
  intro i b s g h
  cases x with
  |sl e sh l xs=>
   cases l with
   |none=>unfold j3;exact c _ _ _ _ h
   |some L=>
    unfold j3
    cases j:(b.contains L||L==fP true L i) with
    |true=>rw[lC];exact c _ _ _ _ h
    |false=>
     rw[jW]
     cases f:(s.bK (fP true L i)&&Nat.blt i HL) with
     |false=>rw[jW];exact c _ _ _ _ h
     |true=>
      rw[lC];rw[bF] at f;have d:L≠fP true L i:=by intro e;rw[Fz,uD] at j;exact j.2 e
      obtain⟨g',k⟩:=h.canon d (Ik (ko f.2)) f.1;exact c _ _ _ _ k
  |_=>unfold j3;exact c _ _ _ _ h
theorem zO (n L:Nat) (h:Inv E B G0 w0 s g a w): ∃g',Inv E B G0 w0 (Ig n L s) g' a w:=by
 unfold Ig
 cases d:(L==fP true L n||s.fr.any (fun v=>v.dW L)) with
 |true=>exact⟨g,h⟩
 |false=>
  rw[jW]
  cases c:(s.bK (fP true L n)&&Nat.blt n HL) with
  |false=>exact⟨g,h⟩
  |true=>
   rw[lC];rw[bF] at c;have b:L≠fP true L n:=by intro e;rw[Fz,uD] at d;exact d.1 e
   exact h.canon b (Ik (ko c.2)) c.1
theorem VO (b:Nat): ∀(k:ah) (i:Nat) (s:St) (g:Gh),Inv E B G0 w0 s g a w→ ∃g',Inv E B G0 w0 (nX b k i s) g' a w:=by
 intro k;induction k with
 |nil=>intro i s g h;exact⟨g,h⟩
 |cons x k d=>
  intro i s g h
  cases x with
  |sl e sh t xs=>
   cases t with
   |none=>unfold nX;exact d _ _ _ h
   |some L=>
    unfold nX
    cases o:(L==fP true L (b+i)||s.fr.any (fun v=>v.dW L)) with
    |true=>rw[lC];exact d _ _ _ h
    |false=>
     rw[jW]
     cases n:(s.bK (fP true L (b+i))&&Nat.blt (b+i) HL) with
     |false=>rw[jW];exact d _ _ _ h
     |true=>
      rw[lC];rw[bF] at n;have l:L≠fP true L (b+i):=by intro e;rw[Fz,uD] at o;exact o.1 e
      obtain⟨g',f⟩:=h.canon l (Ik (ko n.2)) n.1;exact d _ _ _ f
  |slz L e sh xs p j c u r ys=>
   cases p with
   |none=>unfold nX;obtain⟨g',f⟩:=zO (b+i) L h;exact d _ _ _ f
   |some L2=>unfold nX;obtain⟨g',f⟩:=zO (b+i) L h;obtain⟨q,m⟩:=zO (b+i+5000) L2 f;exact d _ _ _ m
  |_=>unfold nX;exact d _ _ _ h
theorem Ta: ∀(bx:List (Nat×ah)) (s:St) (g:Gh),Inv E B G0 w0 s g a w→ ∃g',Inv E B G0 w0 (F8 bx s) g' a w:=by
 intro bx;induction bx with
 |nil=>intro s g h;exact⟨g,h⟩
 |cons p bx c=>intro s g h;unfold F8;obtain⟨g',b⟩:=VO _ _ 0 s g h;exact c _ _ b
theorem Inv.head (h:Inv E B G0 w0 s g a w) (b:List Nat): ∃g',Inv E B G0 w0 (Ih b s) g' a w:=by unfold Ih;rw[LF];obtain⟨g1,d⟩:=KO (C8 b s.fr 0) 0 [] _ _ (h.less (L8 b _ _ 0 h.fr) fun k e c=>EC (fun k=>!b.contains k||(C8 b s.fr 0).any (V.gM k)) _ _ _ c);exact Ta _ _ _ d
end
theorem kD: ∀{m:List (Nat×Nat)} {k v:Nat},lk m k=some v→(k,v)∈m
 |[],k,v,h=>by cases h
 |(a,b)::m,k,v,h=>by
  unfold lk at h
  cases c:a==k with
  |true=>
   rw[c,lC] at h;simp only[aT] at h;obtain rfl:a=k:=by simpa using c
   subst h;exact rf
  |false=>rw[c,jW] at h;exact uO _ (kD h)
theorem uk: ∀(l:List Nat),qZ l=true↔l.Nodup
 |[]=>by simp[qZ]
 |a::l=>by
  unfold qZ;rw[acf,←uk l]
  cases b:l.contains a with
  |true=>simp at b;simp[b]
  |false=>simp at b;simp[b]
theorem xC: ∀{m:List (Nat×Nat)} {k v:Nat},(m.map (·.1)).Nodup→(k,v)∈m→lk m k=some v
 |[],k,v,_,h=>by cases h
 |(a,b)::m,k,v,d,h=>by
  rw[rA,acf] at d;unfold lk;rcases List.mem_cons.1 h with h|h
  ·simp only[bP] at h
   obtain⟨rfl,rfl⟩:=h;rw[Qf,lC]
  have c:a≠k:=fun e=>d.1 (List.mem_map.2 ⟨_,h,e.symm⟩)
  have:(a==k)=false:=by simpa using c
  rw[this,jW];exact xC d.2 h
theorem adz (m:List (Nat×Nat)):(fG m).map (·.1)=m.map (·.2):=by simp[fG,ac3]
theorem pM {m:List (Nat×Nat)} {a b:Nat}:(a,b)∈fG m↔(b,a)∈m:=by
 unfold fG;rw[ada];constructor
 ·rintro⟨⟨x,y⟩,d,c⟩;simp only[bP] at c;obtain⟨rfl,rfl⟩:=c;exact d
 intro h;exact⟨_,h,rfl⟩
theorem jZ {m:List (Nat×Nat)} {k v:Nat} (a:(m.map (·.2)).Nodup) (h:(k,v)∈m):lk (fG m) v=some k:=xC (by rw[adz];exact a) (pM.2 h)
theorem Br {m:List (Nat×Nat)} {k v b:Nat} (c:(m.map (·.1)).Nodup) (h:(k,v)∈m) (d:(k,b)∈m):v=b:=by have a:=xC c h;rw[xC c d] at a;simp only[aT] at a;exact a.symm
theorem mJ {g g':Gh} {mb ml:List (Nat×Nat)} (d:g'.G=g.G) (s: ∀L n,lk ml L=some n→g'.O n=g.O L) (y: ∀L n,lk ml L=some n→g'.C n=g.C L) (hβ: ∀k n,lk mb k=some n→g'.β n=g.β k) {x:V} {v:Value} (h:bQ g x v):bQ g' (xU mb ml x) v:=by
 cases x with
 |sl e sh E xs=>
  cases E with
  |none=>show aV g'.G _ _;rw[d];exact h
  |some L=>
   show bQ g' (.sl e sh (lk ml L) xs) v;obtain⟨o,j⟩:=h
   cases m:lk ml L with
   |none=>show aV g'.G _ _;rw[d];exact nI j
   |some n=>exact⟨(s L n m).trans o,by rw[d];exact j⟩
 |eptr _ _ _ _ _ _=>show aV g'.G .any v;unfold aV;trivial
 |epz _ _ _ _ _=>show aV g'.G .any v;unfold aV;trivial
 |slz L e sh xs u i c w p ys=>
  show bQ g' (match lk ml L with|some L'=> .slz L' e sh xs (u.bind (lk ml)) i c w p ys|none=> .any) v;obtain⟨l,o,j,t,z⟩:=h
  cases m:lk ml L with
  |none=>show aV g'.G .any v;unfold aV;trivial
  |some n=>
   refine⟨l,(s L n m).trans o,(y L n m).trans j,⟨t.1,t.2.1,by rw[d];exact t.2.2⟩,?_⟩
   cases u with
   |none=>trivial
   |some L2=>
    show rR g' l sh.length (lk ml L2) i c w p ys;obtain⟨D,A,H,B⟩:=z
    cases r:lk ml L2 with
    |none=>trivial
    |some F=>exact⟨D,(s L2 F r).trans A,by rw[d];exact H,B⟩
 |box k off=>
  show bQ g' (match lk mb k with|some k'=> .box k' off|none=> .any) v;obtain⟨b,o,j⟩:=h
  cases m:lk mb k with
  |none=>show aV g'.G .any v;unfold aV;trivial
  |some n=>exact⟨b,(hβ k n m).trans o,j⟩
 |fn f q=>
  cases q with
  |nil=>show aV g'.G _ _;rw[d];exact h
  |cons a c=>show aV g'.G .any v;unfold aV;trivial
 |old x=>
  show bQ g' (bif x.fJ then x else .any) v
  cases x.fJ
  ·show aV g'.G .any v;unfold aV;trivial
  exact SF h.2.2 (by rw[d];exact h.2.1)
 |_=>show aV g'.G _ _;rw[d];exact h
theorem wG {mb ml:List (Nat×Nat)} {x:V} (l:x.single=true) (g: ∀f c,x≠.fn f c) (h: ∀y,x≠.old y:=by intro y e;cases e):(xU mb ml x).single=true:=by
 cases x with
 |sl e sh j xs=>cases j<;>rfl
 |box k off=>show(match lk mb k with|some k'=>V.box k' off|none=>V.any).single=true;cases lk mb k<;>rfl
 |slz L e sh xs b i c d a ys=>show(match lk ml L with|some L'=>V.slz L' e sh xs (b.bind (lk ml)) i c d a ys|none=>V.any).single=true;cases lk ml L<;>rfl
 |tup _=>cases l
 |fn f c=>exact absurd rfl (g f c)
 |old y=>exact absurd rfl (h y)
 |_=>rfl
theorem IR {g g':Gh} {mb ml:List (Nat×Nat)} (b:g'.G=g.G) (j: ∀L n,lk ml L=some n→g'.O n=g.O L) (d: ∀L n,lk ml L=some n→g'.C n=g.C L) (hβ: ∀k n,lk mb k=some n→g'.β n=g.β k) {x:V} {v:Value} (h:aU g x v):aU g' (x.ren mb ml) v:=by
 cases x with
 |tup vs=>obtain⟨a,rfl,h⟩:=h;exact⟨a,rfl,eu h fun y _ v r=>mJ b j d hβ r⟩
 |fn f m=>
  cases m with
  |nil=>obtain⟨a,rfl,h⟩:=h;exact⟨[],by rw[h.cO],.nil⟩
  |cons a c=>exact jr
 |sl e sh q xs=>exact bJ (wG (x:=.sl e sh q xs) rfl (by intro f c e;cases e)) (mJ b j d hβ (bf (x:=.sl e sh q xs) rfl h))
 |box k off=>exact bJ (wG (ml:=ml) (x:=.box k off) rfl (by intro f c e;cases e)) (mJ b j d hβ (bf (x:=.box k off) rfl h))
 |eptr _ _ _ _ _ _=>exact jr
 |epz _ _ _ _ _=>exact jr
 |slz L e sh xs o i c p l ys=>exact bJ (wG (mb:=mb) (x:=.slz L e sh xs o i c p l ys) rfl (by intro f c e;cases e)) (mJ b j d hβ (bf (x:=.slz L e sh xs o i c p l ys) rfl h))
 |old x=>
  show aU g' (bif x.fJ then x else .any) v
  cases x.fJ
  ·exact jr
  exact cK h.2.2 (by rw[b];exact h.2.1)
 |_=>simp only[aU] at h;exact mJ (x:=_) b j d hβ h
theorem iV {a:Nat→Nat→Nat}: ∀(i:Nat) (l:ah) (p:Nat×Nat),p∈qA a i l→ ∃j,p.2=a p.1 j
 |i,[],p,h=>by cases h
 |i,x::l,p,h=>by
  cases x with
  |sl e sh d xs=>
   cases d with
   |none=>exact iV (i+1) l p h
   |some L=>
    rcases List.mem_cons.1 h with h|h
    ·subst h;exact⟨i,rfl⟩
    exact iV (i+1) l p h
  |slz L e sh xs f j c g b ys=>
   cases f with
   |none=>
    rcases List.mem_cons.1 h with h|h
    ·subst h;exact⟨i,rfl⟩
    exact iV (i+1) l p h
   |some L2=>
    rcases List.mem_cons.1 h with h|h
    ·subst h;exact⟨i,rfl⟩
    rcases List.mem_cons.1 h with h|h
    ·subst h;exact⟨i+500,rfl⟩
    exact iV (i+1) l p h
  |_=>exact iV (i+1) l p h
theorem handN_mb {bx:List (Nat×ah)} {j:Nat} {x:V} {p:Nat×Nat} (h:p∈(rM bx j x).1):p.2=HL+j∧ ∃a,aK bx p.1=some a:=by
 cases x with
 |box k off=>
  unfold rM at h;simp only at h;split at h
  ·rename_i a c
   simp only[Ni] at h;subst h;exact⟨rfl,a,c⟩
  cases h
 |sl e sh b xs=>cases b<;>cases h
 |_=>cases h
theorem xD {bx:List (Nat×ah)}: ∀(vs:ah) (j:Nat) {p:Nat×Nat},p∈(eU bx j vs).1→(∃a,j≤a∧p.2=HL+a)∧ ∃d,aK bx p.1=some d
 |[],j,p,h=>by cases h
 |x::vs,j,p,h=>by
  unfold eU at h;rcases List.mem_append.1 h with h|h
  ·obtain⟨c,b⟩:=handN_mb h;exact⟨⟨j,kG _,c⟩,b⟩
  obtain⟨⟨a,c,b⟩,e⟩:=xD vs (j+1) h;exact⟨⟨a,by omega,b⟩,e⟩
theorem handN_ml {bx:List (Nat×ah)} {j:Nat} {x:V} {p:Nat×Nat} (h:p∈(rM bx j x).2):HL≤p.2:=by
 cases x with
 |box k off=>
  unfold rM at h;simp only at h;split at h
  ·obtain⟨i,b⟩:=iV _ _ _ h
   omega
  cases h
 |sl e sh a xs=>
  cases a with
  |none=>cases h
  |some L=>simp only[rM,Ni] at h;subst h;simp only;omega
 |_=>cases h
theorem L9 {bx:List (Nat×ah)}: ∀(vs:ah) (j:Nat) {p:Nat×Nat},p∈(eU bx j vs).2→HL≤p.2
 |[],j,p,h=>by cases h
 |x::vs,j,p,h=>by
  unfold eU at h;rcases List.mem_append.1 h with h|h
  ·exact handN_ml h
  exact L9 vs (j+1) h
theorem zQ {x y:V} (h:x.deep=some y) (j:Nat):frArg j y=y∧y.AQ=false:=by
 cases x with
 |fn f c=>cases c<;>simp[V.deep] at h;subst h;exact⟨rfl,rfl⟩
 |_=>simp[V.deep] at h<;>subst h<;>exact⟨rfl,rfl⟩
theorem yB {bx:List (Nat×ah)}: ∀(a b:ah) (j:Nat),(eU bx j (a++b)).1=(eU bx j a).1++(eU bx (j+a.length) b).1
 |[],b,j=>by simp[eU]
 |x::a,b,j=>by
  have e: ∀v l j,(eU bx j (v::l)).1=(rM bx j v).1++(eU bx (j+1) l).1:=fun _ _ _=>rfl
  rw[Nj,e,e,yB a b (j+1),CJ,dN,show j+1+a.length=j+(a.length+1) by omega]
theorem q8 {bx:List (Nat×ah)} {MB ML:List (Nat×Nat)}: ∀(b a args:ah),gG bx MB ML (b++a)=some args→ ∃A H,args=A++H∧gG bx MB ML b=some A∧gG bx MB ML a=some H
 |[],a,args,h=>⟨[],args,rfl,rfl,h⟩
 |x::b,a,args,h=>by
  rw[Nj] at h;unfold gG at h;split at h
  ·rename_i y ys e c
   simp only[aT] at h;subst h;obtain⟨A,H,rfl,f,d⟩:=q8 b a ys c;refine⟨y::A,H,rfl,?_,d⟩;unfold gG;rw[e,f]
  cases h
theorem wH: ∀(a:ah),∀x∈jO a,∃k,x=.box k HID
 |[],x,h=>by cases h
 |v::a,x,h=>by
  unfold jO at h;rcases List.mem_append.1 h with h|h
  ·split at h
   ·obtain⟨c,_,b⟩:=List.mem_filterMap.1 h
    split at b
    ·rename_i k d
     exact⟨k,(Option.some.inj b).symm⟩
    cases b
   cases h
  exact wH a x h
theorem Oz {bx:List (Nat×ah)} {MB ML:List (Nat×Nat)}: ∀(c H:ah),(∀x∈c,∃k,x=.box k HID)→gG bx MB ML c=some H→ ∀y∈H,qB y=true
 |[],H,_,h,y,b=>by
  simp only[gG,aT] at h;subst h
  cases b
 |x::c,H,e,h,y,b=>by
  obtain⟨k,rfl⟩:=e x rf;unfold gG at h;split at h
  ·rename_i z zs a d
   simp only[aT] at h;subst h;rcases List.mem_cons.1 b with rfl|b
   ·unfold vz at a
    simp only at a;split at a
    ·simp only[aT] at a
     subst a;rfl
    cases a
   exact Oz c zs (fun x h=>e x (uO _ h)) d y b
  cases h
theorem Jz: ∀(A H:ah) (j:Nat),(∀y∈H,qB y=true)→bU j (A++H)=bU j A
 |[],H,j,h=>by
  rw[FD];induction H generalizing j with
  |nil=>rfl
  |cons y H b=>unfold bU;rw[h y rf,lC,b (j+1) fun z c=>h z (uO _ c)];rfl
 |a::A,H,j,h=>by rw[Nj];unfold bU;rw[Jz A H (j+1) h]
theorem hid_bxa {H:ah} (h: ∀y∈H,qB y=true) (a:iN H=false):H=[]:=by
 cases H with
 |nil=>rfl
 |cons y H=>
  have:=h y rf;unfold iN at a;rw[abM,Fz] at a
  cases y with
  |bxa _ _=>cases a.1
  |_=>cases this
theorem Ma {g gi:Gh} {bx:List (Nat×ah)} {MB ML:List (Nat×Nat)} (B:gi.G=g.G) (E: ∀L n,lk ML L=some n→gi.O n=g.O L) (H: ∀L n,lk ML L=some n→gi.C n=g.C L) (hβ: ∀k n,(k,n)∈MB→gi.β n=g.β k):
  ∀(o args:ah) (vs:List Value) (j:Nat),o.any ND=false→gG bx MB ML o=some args→(∀p∈(eU bx j o).1,p∈MB)→(∀k n,lk MB k=some n→(k,n)∈MB)→PW (Ny g) o vs→PW (aU gi) (bU j args) vs
 |[],args,vs,j,_,h,_,_,A=>by simp only[gG,aT] at h;subst h;rw[A.cO];exact .nil
 |x::o,args,vs,j,m,h,N,s,A=>by
  rw[abM,Fz] at m;obtain⟨v,t,rfl,q,P⟩:=A.cons_inv;unfold gG at h;split at h
  ·rename_i y ys d F
   simp only[aT] at h;subst h;have I:qB y=false:=by
    cases x with
    |box k off=>
     unfold vz at d;simp only at d;split at d
     ·simp only[aT] at d
      subst d;exact m.1
     cases d
    |sl e sh K xs=>
     cases K with
     |none=>simp only[vz,V.deep,aT] at d;subst d;rfl
     |some L=>simp only[vz,aT] at d;subst d;rfl
    |fn f c=>
     cases c with
     |nil=>simp only[vz,V.deep,aT] at d;subst d;rfl
     |cons c l=>obtain⟨_,d⟩:=aP (show(bif Nat.blt f yX&&zn (c::l) then some (V.fn f ((c::l).map (xU MB ML))) else none)=some y from d);simp only[aT] at d;subst d;rfl
    |_=>simp[vz,V.deep] at d<;>subst d<;>rfl
   unfold bU;rw[I,jW];refine .cons ?_ (Ma B E H hβ o ys t (j+1) m.2 F (fun p A=>N p (by unfold eU;exact List.mem_append_right _ A)) s P);have hβ': ∀k n,lk MB k=some n→gi.β n=g.β k:=fun k n S=>hβ k n (s k n S)
   have w: ∀z,Ny g z v→(∀f c,z≠.fn f c)→(∀vs,z≠.tup vs)→bQ g z v:=fun z r X Q=>r.elim (fun r=>bf (by cases z<;>first|rfl|exact absurd rfl (Q _)|exact absurd rfl (X _ _)) r) id
   have i:x.deep=some y→aU gi (frArg j y) v:=by intro D;rw[(zQ D j).1];refine cK (jP D) ?_;rw[B];exact q.elim (fun h=>oN h D) (fun h=>Dq h D)
   cases x with
   |box k off=>
    unfold vz at d;simp only at d;split at d
    ·rename_i l J
     simp only[aT] at d;subst d;show aU gi (.box (HL+j) off) v;obtain⟨b,R,T⟩:=w _ q (by intro f c e;cases e) (by intro vs e;cases e);refine d9.2 ⟨b,?_,T⟩;rw[hβ k (HL+j) (N _ (by unfold eU rM;simp only[J];exact acI _ (List.mem_singleton.2 rfl)))];exact R
    cases d
   |sl e sh K xs=>
    cases K with
    |none=>exact i d
    |some L=>have d:some (xU MB ML (.sl e sh (some L) xs))=some y:=d;simp only[aT] at d;subst d;show aU gi (.sl e sh (lk ML L) xs) v;exact bJ rfl (mJ (x:=.sl e sh (some L) xs) B E H hβ' (w _ q (by intro f c e;cases e) (by intro vs e;cases e)))
   |fn f c=>
    cases c with
    |nil=>exact i d
    |cons c l=>
     obtain⟨W,d⟩:=aP (show(bif Nat.blt f yX&&zn (c::l) then some (V.fn f ((c::l).map (xU MB ML))) else none)=some y from d);simp only[aT] at d;subst d;show aU gi (.fn f ((c::l).map (xU MB ML))) v;have q:aU g (.fn f (c::l)) v:=q.elim id fun h=>by have h:aV g.G (.fn f (c::l)) v:=h;unfold aV at h;exact absurd h.2 (by simp)
     obtain⟨a,U,M⟩:=q;exact⟨a,U,eu M fun z _ u r=>mJ B E H hβ' r⟩
   |_=>exact i d
  cases h
theorem sH {bx:List (Nat×ah)} {MB ML:List (Nat×Nat)}: ∀(n args:ah) (j:Nat),gG bx MB ML n=some args→ ∀m b,aK (dU j args) m=some b→ ∃k g,(k,m)∈(eU bx j n).1∧aK bx k=some g∧b=g.map (V.ren MB ML)
 |[],args,j,h,m,b,l=>by
  simp only[gG,aT] at h;subst h
  cases l
 |x::n,args,j,h,m,b,l=>by
  unfold gG at h;split at h
  ·rename_i y ys d q
   simp only[aT] at h;subst h;have i:aK (dU (j+1) ys) m=some b→ ∃k g,(k,m)∈(eU bx j (x::n)).1∧aK bx k=some g∧b=g.map (V.ren MB ML):=by intro l;obtain⟨k,g,t,s⟩:=sH n ys (j+1) q m b l;exact⟨k,g,by unfold eU;exact List.mem_append_right _ t,s⟩
   have a:x.deep=some y→ ∃k g,(k,m)∈(eU bx j (x::n)).1∧aK bx k=some g∧b=g.map (V.ren MB ML):=by
    intro r;have:=(zQ r j).2;refine i ?_
    cases y with
    |bxa _ _=>cases this
    |_=>exact l
   cases x with
   |box k off=>
    unfold vz at d;simp only at d;split at d
    ·rename_i g o
     simp only[aT] at d;subst d;unfold dU aK at l
     cases p:HL+j==m with
     |true=>
      rw[p,lC] at l;simp only[aT] at l;obtain rfl:HL+j=m:=by simpa using p
      exact⟨k,g,by unfold eU rM;simp only[o];exact acI _ (List.mem_singleton.2 rfl),o,l.symm⟩
     |false=>rw[p,jW] at l;exact i l
    cases d
   |sl e sh u xs=>
    cases u with
    |none=>exact a d
    |some L=>have d:some (xU MB ML (.sl e sh (some L) xs))=some y:=d;simp only[aT] at d;subst d;exact i l
   |fn f c=>
    cases c with
    |nil=>exact a d
    |cons c g=>obtain⟨_,d⟩:=aP (show(bif Nat.blt f yX&&zn (c::g) then some (V.fn f ((c::g).map (xU MB ML))) else none)=some y from d);simp only[aT] at d;subst d;exact i l
   |_=>exact a d
  cases h
theorem zR {bx:List (Nat×ah)} {MB ML:List (Nat×Nat)}: ∀(m args:ah) (j:Nat) (bs:List (ah)),gG bx MB ML m=some args→ ∀(i:Nat) k l g,(eU bx j m).1[i]? =some (k,l)→bs[i]? =some g→aK (fK j args bs) l=some g
 |[],args,j,bs,h,i,k,l,g,d,_=>by simp[eU] at d
 |x::m,args,j,bs,h,i,k,l,g,d,n=>by
  unfold gG at h;split at h
  ·rename_i y ys b o
   simp only[aT] at h;subst h;unfold eU at d;have plain:(rM bx j x).1=[]→fK j (y::ys) bs=fK (j+1) ys bs→aK (fK j (y::ys) bs) l=some g:=by intro q u;rw[q] at d;rw[u];exact zR m ys (j+1) bs o i k l g d n
   have a:x.deep=some y→(rM bx j x).1=[]→aK (fK j (y::ys) bs) l=some g:=by
    intro r q;have:=(zQ r j).2;refine plain q ?_
    cases y with
    |bxa _ _=>cases this
    |_=>rfl
   cases x with
   |box A off=>
    unfold vz at b;simp only at b;split at b
    ·rename_i t p
     simp only[aT] at b;subst b;unfold rM at d;simp only[p] at d
     cases bs with
     |nil=>simp at n
     |cons c0 bs=>
      cases i with
      |zero=>simp only[Nj,FD,Nh,aT,bP] at d n;obtain⟨rfl,rfl⟩:=d;subst n;unfold fK aK;rw[Qf,lC]
      |succ i=>
       simp only[Nj,FD,abF] at d n;have w:=GR d;obtain⟨⟨z,B,s⟩,_⟩:=xD m (j+1) w;unfold fK aK;have:(HL+j==l)=false:=by rw[uD];simp only at s;omega
       rw[this,jW];exact zR m ys (j+1) bs o i k l g d n
    cases b
   |sl e sh v xs=>
    cases v with
    |none=>exact a b rfl
    |some L=>have b:some (xU MB ML (.sl e sh (some L) xs))=some y:=b;simp only[aT] at b;subst b;exact plain rfl rfl
   |fn f c=>
    cases c with
    |nil=>exact a b rfl
    |cons c g=>obtain⟨_,b⟩:=aP (show(bif Nat.blt f yX&&zn (c::g) then some (V.fn f ((c::g).map (xU MB ML))) else none)=some y from b);simp only[aT] at b;subst b;exact plain rfl rfl
   |_=>exact a b rfl
  cases h
theorem DF {E:Env} {B:Own} {G0:aW} {d:World} {a:Act} {w:World}: ∀(l:List Nat) (s:St) (g:Gh),Inv E B G0 d s g a w→
  ∃g',g'.G=g.G∧g'.β=g.β∧(∀k,k∈l→g'.O k=none)∧(∀k,k∉l→g'.O k=g.O k)∧g'.G1=g.G1∧g'.C=g.C∧Inv E B G0 d (qC s l) g' a w
 |[],s,g,h=>⟨g,rfl,rfl,(fun k b=>absurd b (by simp)),(fun _ _=>rfl),rfl,rfl,h⟩
 |L::l,s,g,h=>by
  obtain⟨g',m,f,i,e,j,n,o⟩:=DF l (s.kill L) _ (h.kill L);refine⟨g',m,f,fun k b=>?_,fun k b=>?_,j,n,o⟩
  ·by_cases c:k∈l
   ·exact i k c
   rw[e k c];rcases List.mem_cons.1 b with rfl|b
   ·exact if_pos rfl
   exact absurd b c
  rw[ZA,not_or] at b;rw[e k b.2];exact if_neg b.1
theorem pZ: ∀(l:List Nat) (s:St) (k:Nat),(∃a,aK (qC s l).bx k=some a)↔ ∃a,aK s.bx k=some a
 |[],s,k=>Iff.rfl
 |L::l,s,k=>by
  unfold qC;rw[pZ l,oO]
  cases aK s.bx k<;>simp
theorem JA (k:Nat) (b:ah): ∀(l:List (Nat×ah)) (j:Nat),(∃a,aK (yg l k b) j=some a)↔ ∃a,aK l j=some a
 |[],j=>Iff.rfl
 |(i,a)::l,j=>by
  unfold yg
  cases c:i==k with
  |true=>
   rw[lC];unfold aK;obtain rfl:i=k:=by simpa using c
   cases i==j<;>simp
  |false=>
   rw[jW];unfold aK
   cases i==j with
   |true=>simp
   |false=>exact JA k b l j
theorem JB {mb ml:List (Nat×Nat)}: ∀(l:List (Nat×Nat)) (bs:List (ah)) (bx:List (Nat×ah)),bs.length=l.length→(l.map (·.1)).Nodup→(∀p∈l,∃old,aK bx p.1=some old)→ ∀k,
  (∃(i:Nat) (r:Nat) (m:ah),l[i]? =some (k,r)∧bs[i]? =some m∧aK (Lj mb ml l bs bx) k=some (m.map (V.ren mb ml)))∨((∀p∈l,p.1≠k)∧aK (Lj mb ml l bs bx) k=aK bx k)
 |[],bs,bx,_,_,_,k=> .inr ⟨(fun p g=>absurd g (by simp)),by cases bs<;>rfl⟩
 |(a,b)::l,[],bx,n,_,_,k=>by simp at n
 |(a,b)::l,c::bs,bx,n,s,t,k=>by
  rw[rA,acf] at s;obtain⟨old,d⟩:=t (a,b) rf;have d:aK bx a=some old:=d;have f:=fun j=>pY bx a j (c.map (V.ren mb ml)) old d
  unfold Lj;rcases JB l bs (yg bx a (c.map (V.ren mb ml))) (by simpa using n) s.2 (fun p g=>(JA _ _ bx p.1).2 (t p (uO _ g))) k with⟨i,r,m,q,h,u⟩|⟨q,h⟩
  ·exact .inl ⟨i+1,r,m,by simpa using q,by simpa using h,u⟩
  by_cases o:k=a
  ·subst o
   refine .inl ⟨0,b,c,rfl,rfl,?_⟩;rw[h,f k,if_pos rfl]
  refine .inr ⟨fun p g=>?_,?_⟩
  ·rcases List.mem_cons.1 g with rfl|g
   ·exact fun e=>o e.symm
   exact q p g
  rw[h,f k,if_neg o]
theorem qN: ∀(l:List (Nat×Nat)) (a:List Nat),((pu a l).map (·.1)).Nodup∧ ∀p∈pu a l,p∈l∧p.1∉a
 |[],a=>⟨List.nodup_nil,(fun p b=>absurd b (by simp[pu]))⟩
 |(L,n)::l,a=>by
  unfold pu
  cases f:a.contains L with
  |true=>rw[lC];obtain⟨d,c⟩:=qN l a;exact⟨d,fun p b=>⟨uO _ (c p b).1,(c p b).2⟩⟩
  |false=>
   rw[jW];obtain⟨d,c⟩:=qN l (L::a);simp at f;refine⟨?_,fun p b=>?_⟩
   ·rw[rA,acf]
    refine⟨fun h=>?_,d⟩;obtain⟨p,b,i⟩:=List.mem_map.1 h;exact(c p b).2 (by rw[i];exact rf)
   rcases List.mem_cons.1 b with rfl|b
   ·exact⟨rf,f⟩
   obtain⟨g,j⟩:=c p b;exact⟨uO _ g,fun e=>j (uO _ e)⟩
theorem Mb {any:Bool} {d:Nat} {x:V}: ∀(mb:List (Nat×Nat)) (bs:List (ah)) (p:Nat×Nat),p∈Ht any d x mb bs→ ∃i,p.2=fP any p.1 i
 |[],bs,p,h=>by
  have h:p∈qA (fun L i=>fP any L (match i with|0=>d|_=>d+1000*i)) 0 (CY x):=by cases bs<;>exact h
  obtain⟨j,a⟩:=iV _ _ _ h;exact⟨_,a⟩
 |(k,b)::mb,[],p,h=>by have h:p∈qA (fun L i=>fP any L (match i with|0=>d|_=>d+1000*i)) 0 (CY x):=h;obtain⟨j,a⟩:=iV _ _ _ h;exact⟨_,a⟩
 |(k,b)::mb,c::bs,p,h=>by
  unfold Ht at h;rcases List.mem_append.1 h with h|h
  ·obtain⟨j,a⟩:=iV _ _ _ h
   exact⟨_,a⟩
  exact Mb mb bs p h
section
variable {E:Env} {B:Own} {G0:aW} {w0:World} {s:St} {g:Gh} {a:Act} {w:World}
def yu (g:Gh) (w:World) (mb ml:List (Nat×Nat)):Own where
 m:=fun b=>(∃k a,(k,a)∈mb∧g.β k=some b)∨(∃L n v e c,(L,n)∈ml∧g.O L=some (v,e,c)∧v.ownBlock=some b)∨w.heap.size≤b
 n:=w.heap.size
 β:=fun a=>match lk (fG mb) a with|some k=>g.β k|none=>none
 df:=[]
def qF (g:Gh) (mb ml:List (Nat×Nat)):Gh where
 G:=g.G
 O:=fun n=>match lk (fG ml) n with|some L=>g.O L|none=>none
 β:=fun a=>match lk (fG mb) a with|some k=>g.β k|none=>none
 G1:=g.G
 C:=fun n=>match lk (fG ml) n with|some L=>g.C L|none=>none
theorem ED: ∀{l:List (Nat×Nat)},yj l=false→ ∀{L n:Nat},(L,n)∈l→L<HL
 |[],_,L,n,h=>by cases h
 |(a,b)::l,h,L,n,c=>by
  unfold yj at h;rw[Fz] at h;rcases List.mem_cons.1 c with c|c
  ·simp only[bP] at c
   rw[c.1];refine abv fun e=>?_
   rw[ace e] at h
   cases h.1
  exact ED h.2 c
theorem EE {mb ml:List (Nat×Nat)} (h:o8 mb ml=true):(mb.map (·.1)).Nodup∧(mb.map (·.2)).Nodup∧(ml.map (·.1)).Nodup∧(ml.map (·.2)).Nodup:=by unfold o8 at h;simp only[bF,uk] at h;exact⟨h.1.1.1,h.1.1.2,h.1.2,h.2⟩
theorem wI {bx:List (Nat×ah)} {a args:ah} {mb ml:List (Nat×Nat)} (h:o9 bx 0 a=some (args,mb,ml)):mb=(eU bx 0 (a++jO a)).1∧ml=(eU bx 0 (a++jO a)).2∧gG bx mb ml (a++jO a)=some args∧a.any ND=false:=by
 unfold o9 at h
 cases b:a.any ND with
 |true=>rw[b] at h;cases h
 |false=>
  rw[b,jW] at h;unfold XO at h;split at h
  ·rename_i x c
   simp only[aT,bP] at h;obtain⟨rfl,rfl,rfl⟩:=h;exact⟨rfl,rfl,c,rfl⟩
  cases h
theorem hand_m (h:Inv E B G0 w0 s g a w) {mb ml:List (Nat×Nat)} (u: ∀p∈mb,∃i,aK s.bx p.1=some i): ∀b,(yu g w mb ml).m b→B.m b:=by
 rintro b (⟨k,A,x,c⟩|⟨L,n,v,e,q,hL,z,c⟩|c)
 ·obtain⟨i,y⟩:=u _ x
  obtain⟨t,_,_,j,r,_⟩:=h.bxs.1 k i y;rw[c] at j;simp only[aT] at j;rw[j];exact r
 ·rcases(h.own.1 L v e q z).2 with f|⟨t,n,cap,o,l,f,d,_⟩
  ·rw[f] at c;cases c
  rw[f] at c;simp only[Value.ownBlock,aT] at c;rw[←c];exact d.1
 exact h.hB.2 b c
theorem p8 (h:Inv E B G0 w0 s g a w) {f args:ah} {vs:List Value} {mb ml:List (Nat×Nat)} (F:PW (Ny g) f vs) (ho:o9 s.bx 0 f=some (args,mb,ml)) (hn:o8 mb ml=true):
  Inv E (yu g w mb ml) g.G w ⟨bU 0 args,dU 0 args⟩ (qF g mb ml) ⟨vs.toArray,[]⟩ w:=by
 obtain⟨n1,n2,n3,n4⟩:=EE hn;obtain⟨Q,e2,K,S⟩:=wI ho;have hm: ∀p∈mb,(∃j,p.2=HL+j)∧ ∃J,aK s.bx p.1=some J:=fun p F=>by rw[Q] at F;obtain⟨⟨j,_,hj⟩,hc⟩:=xD (f++jO f) 0 F;exact⟨⟨j,hj⟩,hc⟩
 have t: ∀p∈ml,HL≤p.2:=fun p F=>by rw[e2] at F;exact L9 (f++jO f) 0 F
 have hO: ∀L n,lk ml L=some n→(qF g mb ml).O n=g.O L:=fun L n t=>by show(match lk (fG ml) n with|some L=>g.O L|none=>none)=_;rw[jZ n4 (kD t)]
 have hC: ∀L n,lk ml L=some n→(qF g mb ml).C n=g.C L:=fun L n t=>by show(match lk (fG ml) n with|some L=>g.C L|none=>none)=_;rw[jZ n4 (kD t)]
 have hC2: ∀L n,(L,n)∈ml→(qF g mb ml).C n=g.C L:=fun L n t=>by show(match lk (fG ml) n with|some L=>g.C L|none=>none)=_;rw[jZ n4 t]
 have hβ: ∀k n,(k,n)∈mb→(qF g mb ml).β n=g.β k:=fun k n t=>by show(match lk (fG mb) n with|some L=>g.β L|none=>none)=_;rw[jZ n2 t]
 have d: ∀n x,(qF g mb ml).O n=some x→ ∃L,(L,n)∈ml∧g.O L=some x:=fun n x q=>by
  have q:(match lk (fG ml) n with|some L=>g.O L|none=>none)=some x:=q;split at q
  ·rename_i L hL;exact⟨L,pM.1 (kD hL),q⟩
  cases q
 refine⟨?_,rfl,h.gok,⟨fun n v e N M=>?_,fun n n' v v' e e' N sz' b o z i hb'=>?_⟩,⟨fun D u r=>?_,fun k D J u hk r i=>?_⟩,.refl _ _,⟨kG _,fun b i=> .inr (.inr i)⟩,⟨fun _ _=>rfl,.refl _,fun _ _=>rfl⟩,⟨h.oZ,fun b l i=>fD h.gok i⟩,.refl _,fun D u n v e N b r M i hβb=>?_⟩
 ·show PW (aU (qF g mb ml)) (bU 0 args) vs.toArray.toList
  rw[acu];obtain⟨A,H,rfl,hA,hH⟩:=q8 f (jO f) args K;rw[Jz A H 0 (Oz (jO f) H (wH f) hH)];exact Ma (g:=g) (gi:=qF g mb ml) rfl hO hC hβ f A vs 0 S hA (fun p F=>by rw[Q,yB];exact acI _ F) (fun k n=>kD) F
 ·obtain⟨L,hL,q⟩:=d n _ M
  obtain⟨o,z⟩:=h.own.1 L v e N q;refine⟨o,z.imp id ?_⟩;rintro⟨b,m,cap,X,l,R,i,hh,Z,U,hcs,I,Y⟩;refine⟨b,m,cap,X,l,R,⟨.inr (.inl ⟨L,n,v,e,N,hL,q,by rw[R];rfl⟩),fun hlt=>?_⟩,hh,Z,U,hcs,by unfold mZ at I⊢;rw[hC2 L n hL];exact I,Y⟩;have:=t _ hL;simp only at this;omega
 ·obtain⟨L,hL,q⟩:=d n _ o
  obtain⟨L',hL',T⟩:=d n' _ z;have:=h.own.2 L L' v v' e e' N sz' b q T i hb';subst this;exact Br n3 hL hL'
 ·obtain⟨k,J,o,z,rfl⟩:=sH (f++jO f) args 0 K D u r
  rw[←Q] at o;obtain⟨b,c,e,i,hBb,hh,W,P,hG,hq9⟩:=h.bxs.1 k J z;exact⟨b,c,e,(hβ k D o).trans i,.inl ⟨k,D,o,i⟩,hh,eu W fun y _ v K=>IR (g:=g) (g':=qF g mb ml) rfl hO hC (fun k n t=>hβ k n (kD t)) K,P,hG,kP (IG _ _) hq9⟩
 ·obtain⟨k1,cs1,o,z,_⟩:=sH (f++jO f) args 0 K k J hk
  obtain⟨k2,cs2,h3,h4,_⟩:=sH (f++jO f) args 0 K D u r;rw[←Q] at o h3;rw[hβ k1 k o,hβ k2 D h3] at i;have:=h.bxs.2 k1 k2 cs1 cs2 z h4 i;subst this;exact Br n1 o h3
 obtain⟨L,hL,q⟩:=d n _ M;obtain⟨k,J,o,z,_⟩:=sH (f++jO f) args 0 K D u r;rw[←Q] at o;rw[hβ k D o] at hβb;exact h.zb k J L v e N b z q i hβb
theorem DI (h:Inv E B G0 w0 s g a w) {as args:ah} {mb ml:List (Nat×Nat)} (ho:o9 s.bx 0 as=some (args,mb,ml)) (hn:o8 mb ml=true) {d:Option Nat} {x:V} {bs:List (ah)} {s':St} (hs:pz s d mb ml x bs=some s')
  {g1:Gh} {v:Value} {w':World} (P:Inv E (yu g w mb ml) g.G w ⟨[x],fK 0 args bs⟩ g1 ⟨#[v],[]⟩ w'):
  ∃g2,Inv E B G0 w0 s' g2 (a.put d v) w':=by
 obtain⟨n1,n2,n3,n4⟩:=EE hn;obtain⟨e1,e2,hv,hnoh⟩:=wI ho;have hm: ∀p∈mb,(∃j,p.2=HL+j)∧ ∃N,aK s.bx p.1=some N:=fun p hp=>by rw[e1] at hp;obtain⟨⟨j,_,hj⟩,hc⟩:=xD (as++jO as) 0 hp;exact⟨⟨j,hj⟩,hc⟩
 unfold pz at hs;have hfst:=qN (Ht (yj ml) (dOr d) x mb bs) [];have hcls: ∀p∈pu [] (Ht (yj ml) (dOr d) x mb bs),∃i,p.2=fP (yj ml) p.1 i:=fun p hp=>Mb mb bs p (hfst.2 p hp).1
 have n6:=hfst.1;clear hfst;generalize pu [] (Ht (yj ml) (dOr d) x mb bs)=Ki at hs hcls n6;unfold XP at hs;obtain⟨hc,hs⟩:=aP hs;rw[bF,uk,iJ] at hc;obtain⟨n5,hlen⟩:=hc;simp only[aT] at hs;obtain⟨ga,ga1,ga2,ga3,ga4,ga5,ga6,ha⟩:=DF (ml.map (·.1)) s g h;obtain⟨gb,gb1,gb2,gb3,gb4,gb5,gb6,hb⟩:=DF (Ki.map (·.2)) _ ga ha;have z: ∀L x,gb.O L=some x→g.O L=some x∧(∀n,(L,n)∉ml)∧ ∀n,(n,L)∉Ki:=by
  intro L x hL;by_cases r:L∈Ki.map (·.2)
  ·rw[gb3 L r] at hL;cases hL
  rw[gb4 L r] at hL;by_cases M:L∈ml.map (·.1)
  ·rw[ga3 L M] at hL;cases hL
  rw[ga4 L M] at hL;exact⟨hL,fun n hn=>M (List.mem_map.2 ⟨_,hn,rfl⟩),fun n hn=>r (List.mem_map.2 ⟨_,hn,rfl⟩)⟩
 have hbxm: ∀k N b,aK s.bx k=some N→(∀p∈mb,p.1≠k)→g.β k=some b→ ¬(yu g w mb ml).m b:=by
  intro k N b t hne f;obtain⟨b1,c1,_,F,_,q3,_,_,q6,_⟩:=h.bxs.1 k N t;rw[f] at F;simp only[aT] at F;subst F;rintro(⟨k2,q,r,M⟩|⟨L,n,v,e,J,hL,hO,hb''⟩|h3)
  ·obtain⟨_,cs2,hc2⟩:=hm _ r
   exact hne _ r (h.bxs.2 k2 k cs2 N hc2 t (M.trans f.symm))
  ·exact h.zb k N L v e J b t hO hb'' f
  have:=(Array.getElem?_eq_some_iff.1 q3).1;omega
 have S: ∀L v e J b,g.O L=some (v,e,J)→(∀n,(L,n)∉ml)→v.ownBlock=some b→ ¬(yu g w mb ml).m b:=by
  intro L v e J b hO hne f;rcases(h.own.1 L v e J hO).2 with hv|⟨b2,_,_,_,l,hv,_,hh,_,_,_,hG,_⟩
  ·rw[hv] at f;cases f
  have o:=f;rw[hv] at o;simp only[Value.ownBlock,aT] at o;subst o;rintro(⟨k2,q,r,M⟩|⟨L2,n,v2,e2,sz2,Q,hO2,o⟩|h3)
  ·obtain⟨_,cs2,hc2⟩:=hm _ r
   exact h.zb k2 cs2 L v e J b2 hc2 hO f M
  ·have:=h.own.2 L L2 v v2 e e2 J sz2 b2 hO hO2 f o
   subst this;exact hne _ Q
  have:=(Array.getElem?_eq_some_iff.1 hh).1;omega
 have hmM:=hand_m h (ml:=ml) fun p hp=>(hm p hp).2
 let O2:Nat→Option (Value×Nat×Nat):=fun L=>match lk (fG Ki) L with|some n=>g1.O n|none=>gb.O L
 let C2:Nat→Option (List Value):=fun L=>match lk (fG Ki) L with|some n=>g1.C n|none=>gb.C L
 let g2:Gh:=⟨g1.G,O2,g.β,g.G1,C2⟩
 have Y: ∀L x,gb.O L=some x→C2 L=gb.C L:=by
  intro L x hL;have r:=(z L x hL).2.2;show(match lk (fG Ki) L with|some n=>g1.C n|none=>gb.C L)=_
  cases hq:lk (fG Ki) L with
  |some n=>exact absurd (pM.1 (kD hq)) (r n)
  |none=>rfl
 have X: ∀n L,(n,L)∈Ki→C2 L=g1.C n:=by intro n L hL;show(match lk (fG Ki) L with|some n=>g1.C n|none=>gb.C L)=_;rw[jZ n5 hL]
 have hO2old: ∀L x,gb.O L=some x→O2 L=some x:=by
  intro L x hL;have r:=(z L x hL).2.2;show(match lk (fG Ki) L with|some n=>g1.O n|none=>gb.O L)=_
  cases hq:lk (fG Ki) L with
  |some n=>exact absurd (pM.1 (kD hq)) (r n)
  |none=>exact hL
 have hO2new: ∀n L,lk Ki n=some L→O2 L=g1.O n:=by intro n L hL;show(match lk (fG Ki) L with|some n=>g1.O n|none=>gb.O L)=_;rw[jZ n5 (kD hL)]
 have I: ∀L x,O2 L=some x→(∃n,(n,L)∈Ki∧g1.O n=some x)∨gb.O L=some x:=by
  intro L x hL;have hL:(match lk (fG Ki) L with|some n=>g1.O n|none=>gb.O L)=some x:=hL;split at hL
  ·rename_i n hq;exact .inl ⟨n,pM.1 (kD hq),hL⟩
  exact .inr hL
 have hext:Ext gb g2:=by
  refine⟨?_,hO2old,fun L v e J b hL f=>?_,fun k b t=>?_,by rw[gb5,ga5],fun L x hL=>Y L x hL⟩
  ·rw[gb1,ga1];exact P.ext.2.1
  ·obtain⟨F,q2,_⟩:=z L _ hL
   show g1.G b=gb.G b;rw[gb1,ga1];exact P.ext.1 b (S L v e J b F q2 f)
  rw[gb2,ga2] at t;exact t
 have hβ1: ∀k q,lk (fG mb) q=some k→g2.β k=g1.β q:=by
  intro k q t;have Z:=pM.1 (kD t);obtain⟨⟨j,hj⟩,_⟩:=hm _ Z;simp only at hj;rw[P.ext.2.2 q (by omega)];show g.β k=(match lk (fG mb) q with|some k=>g.β k|none=>none)
  rw[t]
 have ZK: ∀(y:V) (u:Value),aU g1 y u→aU g2 (y.ren (fG mb) Ki) u:=fun y u hy=>IR (g:=g1) (g':=g2) rfl (fun n L hL=>hO2new n L hL) (fun n L hL=>X n L (kD hL)) (fun q k t=>hβ1 k q t) hy
 have H: ∀k N,aK (qC (qC s (ml.map (·.1))) (Ki.map (·.2))).bx k=some N→ ∃cs0,aK s.bx k=some cs0:=fun k N t=>(pZ _ _ _).1 ((pZ _ _ _).1 ⟨N,t⟩)
 have W:=JB (mb:=fG mb) (ml:=Ki) mb bs (qC (qC s (ml.map (·.1))) (Ki.map (·.2))).bx hlen n1 (fun p hp=>(pZ _ _ _).2 ((pZ _ _ _).2 (hm p hp).2));have R: ∀(i:Nat) k q N,mb[i]? =some (k,q)→bs[i]? =some N→aK (fK 0 args bs) q=some N:=fun i k q N r M=>zR (as++jO as) args 0 bs hv i k q N (by rw[←e1];exact r) M
 have hboxG: ∀k q b,(k,q)∈mb→g.β k=some b→g1.G b=none:=by
  intro k q b t f;obtain⟨i,hi⟩:=Zx t;have hib:i<bs.length:=by rw[hlen];exact(List.getElem?_eq_some_iff.1 hi).1
  obtain⟨b2,_,_,F,_,_,_,_,q6,_⟩:=P.bxs.1 q _ (R i k q _ hi (iK hib));rw[←hβ1 k q (jZ n2 t)] at F;have F:g.β k=some b2:=F;rw[f] at F;simp only[aT] at F;rw[F];exact q6
 have hbig:Inv E B G0 w0 ⟨(qC (qC s (ml.map (·.1))) (Ki.map (·.2))).fr,Lj (fG mb) Ki mb bs (qC (qC s (ml.map (·.1))) (Ki.map (·.2))).bx⟩ g2 a w':=by
  refine⟨hb.fr.mono fun y _ u=>rU hext,h.df,P.gok,⟨fun L v e J hL=>?_,fun L L' v v' e e' J sz' b hL hL' U o=>?_⟩,⟨fun k N t=>?_,fun k q N cs' t hk' hbe=>?_⟩,h.mh.trans (P.mh.mono hmM),F9 h.hB P.mh.mh.size,⟨fun b hbm=>(P.ext.1 b fun e=>hbm (hmM b e)).trans (h.ext.1 b hbm),h.ext.2.1.trans P.ext.2.1,h.ext.2.2⟩,h.glob,h.g1,fun k N L v e J b t hL f hβb=>?_⟩
  ·rcases I L _ hL with⟨n,hn',hL⟩|hL
   ·obtain⟨F,q2⟩:=P.own.1 n v e J hL
    refine⟨F,q2.imp id ?_⟩;rintro⟨b,m,cap,cur,l,D,K,hh,hnc,hcm,hcs,hG,hl⟩;refine⟨b,m,cap,cur,l,D,⟨hmM b K.1,fun hlt=>?_⟩,hh,hnc,hcm,hcs,by unfold mZ at hG⊢;rw[show g2.C L=g1.C n from X n L hn'];exact hG,hl⟩;obtain⟨i,hi⟩:=hcls _ hn';simp only at hi;by_cases hnl:n<HL
    ·exact FZ h.hB.1 (K.2 hnl)
    have hany:yj ml=false:=by
     cases hq:yj ml with
     |false=>rfl
     |true=>rw[hq] at hi;unfold fP at hi;rw[ace (Nat.le_of_not_lt hnl),Bool.and_self,lC] at hi;omega
    rcases K.1 with⟨k2,q,r,M⟩|⟨L2,n2',v2,e2,sz2,Q,hO2,o⟩|h3
    ·exfalso
     obtain⟨i2,hi2⟩:=Zx r;have hib:i2<bs.length:=by rw[hlen];exact(List.getElem?_eq_some_iff.1 hi2).1
     refine P.zb q _ n v e J b (R i2 k2 q _ hi2 (iK hib)) hL (by rw[D];rfl) ?_;rw[←hβ1 k2 q (jZ n2 r)];exact M
    ·have h5:=ED hany Q
     rcases(h.own.1 L2 v2 e2 sz2 hO2).2 with hv2|⟨b3,_,_,_,_,hv2,hok2,_⟩
     ·rw[hv2] at o;cases o
     rw[hv2] at o;simp only[Value.ownBlock,aT] at o;rw[←o];exact hok2.2 h5
    exact FZ h.hB.1 h3
   obtain⟨r1,r2,_⟩:=z L _ hL;obtain⟨F,q2⟩:=h.own.1 L v e J r1;refine⟨F,q2.imp id ?_⟩;rintro⟨b,m,cap,cur,l,D,K,hh,hnc,hcm,hcs,hG,hl⟩;have A:=S L v e J b r1 r2 (by rw[D];rfl);exact⟨b,m,cap,cur,l,D,K,by rw[P.mh.row b A];exact hh,hnc,hcm,hcs,hG.keep (show C2 L=g.C L by rw[Y L _ hL,gb6,ga6]) (P.ext.1 b A),hl⟩
  ·rcases I L _ hL with⟨n,hn1,hL1⟩|hL1<;>rcases I L' _ hL' with⟨n',hn2,Q⟩|Q
   ·have:=P.own.2 n n' v v' e e' J sz' b hL1 Q U o
    subst this;exact Br n6 hn1 hn2
   ·exfalso
    obtain⟨r1,r2,_⟩:=z L' _ Q;have A:=S L' v' e' sz' b r1 r2 o;rcases(P.own.1 n v e J hL1).2 with D|⟨b3,_,_,_,_,D,K,_⟩
    ·rw[D] at U;cases U
    rw[D] at U;simp only[Value.ownBlock,aT] at U;rw[←U] at A;exact A K.1
   ·exfalso
    obtain⟨r1,r2,_⟩:=z L _ hL1;have A:=S L v e J b r1 r2 U;rcases(P.own.1 n' v' e' sz' Q).2 with D|⟨b3,_,_,_,_,D,K,_⟩
    ·rw[D] at o;cases o
    rw[D] at o;simp only[Value.ownBlock,aT] at o;rw[←o] at A;exact A K.1
   exact h.own.2 L L' v v' e e' J sz' b (z L _ hL1).1 (z L' _ Q).1 U o
  ·rcases W k with⟨i,q,c0,r,M,h3⟩|⟨r,M⟩
   ·rw[h3] at t
    simp only[aT] at t;subst t;have Z:=GR r;obtain⟨_,cs0,hcs0⟩:=hm _ Z;obtain⟨b,_,_,p1,p2,_⟩:=h.bxs.1 k cs0 hcs0;obtain⟨b2,c,e,F,_,q3,q4,q5,q6,q7⟩:=P.bxs.1 q c0 (R i k q c0 r M);rw[←hβ1 k q (jZ n2 Z)] at F;have F:g.β k=some b2:=F;rw[p1] at F;simp only[aT] at F;subst F;exact⟨b,c,e,p1,p2,q3,eu q4 fun y _ u=>ZK y u,q5,q6,kP (IG _ _) q7⟩
   rw[M] at t;obtain⟨cs0,hcs0⟩:=H k N t;obtain⟨b,c,e,F,q2,q3,q4,q5,q6,q7⟩:=hb.bxs.1 k N t;rw[gb2,ga2] at F;rw[gb1,ga1] at q6;have A:=hbxm k cs0 b hcs0 r F;exact⟨b,c,e,F,q2,by rw[P.mh.row b A];exact q3,q4.mono fun y _ u=>rU hext,q5,by show g1.G b=none;rw[P.ext.1 b A];exact q6,q7⟩
  ·have T: ∃c0,aK s.bx k=some c0:=by
    rcases W k with⟨i,k1,c0,r,_⟩|⟨_,M⟩
    ·exact(hm _ (GR r)).2
    rw[M] at t;exact H k N t
   have hk0': ∃c0,aK s.bx q=some c0:=by
    rcases W q with⟨i,k1,c0,r,_⟩|⟨_,M⟩
    ·exact(hm _ (GR r)).2
    rw[M] at hk';exact H q cs' hk'
   obtain⟨c0,T⟩:=T;obtain⟨c0',hk0'⟩:=hk0';exact h.bxs.2 k q c0 c0' T hk0' hbe
  have hβb:g.β k=some b:=hβb;have T: ∃c0,aK s.bx k=some c0:=by
   rcases W k with⟨i,k1,c0,r,_⟩|⟨_,M⟩
   ·exact(hm _ (GR r)).2
   rw[M] at t;exact H k N t
  obtain⟨c0,T⟩:=T;rcases I L _ hL with⟨n,hn',hL⟩|hL
  ·rcases W k with⟨i,q,c1,r,M,_⟩|⟨r,_⟩
   ·refine P.zb q c1 n v e J b (R i k q c1 r M) hL f ?_
    rw[←hβ1 k q (jZ n2 (GR r))];exact hβb
   have A:=hbxm k c0 b T r hβb;rcases(P.own.1 n v e J hL).2 with hv|⟨b2,_,_,_,_,hv,K,_⟩
   ·rw[hv] at f;cases f
   rw[hv] at f;simp only[Value.ownBlock,aT] at f;subst f;exact A K.1
  exact h.zb k c0 L v e J b T (z L _ hL).1 f hβb
 rw[←hs];exact⟨g2,hbig.put d (ZK x v P.fr.head)⟩
end
section
variable {E:Env} {B:Own} {G0:aW} {w0:World} {s s':St} {g:Gh} {a:Act} {w:World} {bx:List (Nat×ah)} {o:Oper} {eff:Eff}
theorem Inv.still (h:Inv E B G0 w0 s g a w) {w':World} (f:Below w.heap.size w w'):Inv E B G0 w0 s g a w':=by
 have k:New w w' g.G g.G:=⟨f,fun _ _=>rfl,fun b l d=>by obtain⟨c,e,fr,j,i⟩:=h.gok b l d;exact⟨c,e,fr,by rw[f.block b (fD h.gok d)];exact j,i⟩⟩
 exact(h.new k).1
theorem Inv.zlabel (h:Inv E B G0 w0 s g a w) {d e:Nat} {sh:List Kd} {xs:ah} {u:Value} {l:List Value} (hd:s.bK d=true) (hz:zq g.G w (B.ok d) e sh.length xs.length u l)
  (J: ∀L v e i b,g.O L=some (v,e,i)→L≠d→v.ownBlock=some b→u.ownBlock≠some b) (hnb: ∀k t b,aK s.bx k=some t→u.ownBlock=some b→g.β k≠some b):
  ∃g',g'.G=g.G∧Inv E B G0 w0 s g' a w∧g'.O d=some (u,e,sh.length)∧g'.C d=some l∧(∀L,L≠d→g'.O L=g.O L):=by
 let O':Nat→Option (Value×Nat×Nat):=fun L=>if L=d then some (u,e,sh.length) else g.O L
 let C':Nat→Option (List Value):=fun L=>if L=d then some l else g.C L
 have f: ∀L,L≠d→O' L=g.O L:=fun L hL=>if_neg hL
 have A: ∀L,L≠d→C' L=g.C L:=fun L hL=>if_neg hL
 obtain⟨h0,T,hf⟩:=hz;refine⟨{g with O:=O',C:=C'},rfl,⟨h.fr.mono fun x W v=>NP f A (uj hd x W),h.df,h.gok,⟨?_,?_⟩,⟨fun k t N=>?_,h.bxs.2⟩,h.mh,h.hB,h.ext,h.glob,h.g1,?_⟩,if_pos rfl,if_pos rfl,f⟩
 ·intro L v p i hL
  by_cases Um:L=d
  ·subst Um
   have hL:(if L=L then some (u,e,sh.length) else g.O L)=some (v,p,i):=hL;rw[if_pos rfl] at hL;simp only[aT,bP] at hL;obtain⟨rfl,rfl,rfl⟩:=hL;refine⟨h0,?_⟩;rcases hf with⟨hu,_⟩|⟨b,cap,y,Y,j,P,K,r,H,ht,X⟩
   ·exact .inl hu
   exact .inr ⟨b,_,cap,y,l,Y,j,P,K,r,H,mZ.mk1 (if_pos rfl) X ht,T⟩
  have hL:O' L=some (v,p,i):=hL;rw[f L Um] at hL;obtain⟨q1,q2⟩:=h.own.1 L v p i hL;refine⟨q1,q2.imp id ?_⟩;rintro⟨b,n,cap,y,l,Y,j,P,U,r,H,M,hl⟩;exact⟨b,n,cap,y,l,Y,j,P,U,r,H,M.keep (A L Um) rfl,hl⟩
 ·intro L L' v S R Q i o b D q j I
  have D:O' L=some (v,R,i):=D;have q:O' L'=some (S,Q,o):=q;by_cases hL:L=d<;>by_cases m:L'=d
  ·rw[hL,m]
  ·subst hL
   have F:(if L=L then some (u,e,sh.length) else g.O L)=some (v,R,i):=D;rw[if_pos rfl] at F;simp only[aT,bP] at F;rw[f L' m] at q;exact absurd (by rw[F.1];exact j) (J L' S Q o b q m I)
  ·subst m
   have z:(if L'=L' then some (u,e,sh.length) else g.O L')=some (S,Q,o):=q;rw[if_pos rfl] at z;simp only[aT,bP] at z;rw[f L hL] at D;exact absurd (by rw[z.1];exact I) (J L v R i b D hL j)
  rw[f L hL] at D;rw[f L' m] at q;exact h.own.2 L L' v S R Q i o b D q j I
 ·obtain⟨b,c,p,j,Z,P,hp,ho,X,hq⟩:=h.bxs.1 k t N
  exact⟨b,c,p,j,Z,P,hp.mono fun x W v=>NP f A (zM hd k t N x W),ho,X,hq⟩
 intro k t L v p i b N hL j hβ;have hL:O' L=some (v,p,i):=hL;by_cases Um:L=d
 ·subst Um
  have hL:(if L=L then some (u,e,sh.length) else g.O L)=some (v,p,i):=hL;rw[if_pos rfl] at hL;simp only[aT,bP] at hL;obtain⟨rfl,rfl,rfl⟩:=hL;exact hnb k t b N j hβ
 rw[f L Um] at hL;exact h.zb k t L v p i b N hL j hβ
theorem Inv.grow (h:Inv E B G0 w0 s g a w) {w':World} {o:Option Nat} (d:w.grownBy w' o) (S: ∀b,o=some b→g.G b=none) (N: ∀L v e t b,g.O L=some (v,e,t)→v.ownBlock=some b→some b≠o) (hβ: ∀k r b,aK s.bx k=some r→g.β k=some b→some b≠o) (T: ∀b,o=some b→B.m b):
  Inv E B G0 w0 s g a w':=by
 refine⟨h.fr,h.df,fun b l j=>?_,⟨fun L v e t hL=>?_,h.own.2⟩,⟨fun k r D=>?_,h.bxs.2⟩,?_,F9 h.hB d.size,h.ext,h.glob,h.g1,h.zb⟩
 ·obtain⟨c,e,fr,M,H⟩:=h.gok b l j
  refine⟨c,e,fr,?_,H⟩;rw[d.block b (fD h.gok j) (fun J=>by rw[S b J.symm] at j;cases j)];exact M
 ·obtain⟨Q,I⟩:=h.own.1 L v e t hL
  refine⟨Q,I.imp id ?_⟩;rintro⟨b,n,cap,y,l,F,f,p,z,u,A,q,j⟩;have i:=(Array.getElem?_eq_some_iff.1 p).1;exact⟨b,n,cap,y,l,F,f,by rw[d.block b i (N L v e t b hL (by rw[F];rfl))];exact p,z,u,A,q,j⟩
 ·obtain⟨b,c,e,f,x,p,P,R,C,K⟩:=h.bxs.1 k r D
  have i:=(Array.getElem?_eq_some_iff.1 p).1;exact⟨b,c,e,f,x,by rw[d.block b i (hβ k r b D f)];exact p,P,R,C,K⟩
 exact h.mh.trans ⟨⟨d.os,d.tape,d.output,d.size,fun b f=>by omega⟩,fun b f=>d.block b (abv fun e=>f (h.hB.2 b e)) fun U=>f (T b U.symm)⟩
theorem adA {L e:Nat} {sh:List Kd} {xs:ah} {i:Int} {c L3 F:Nat} {o:List Kd} {ys:ah} {S u:Value} {l:List Value} (P:g.O L=some (S,e,sh.length)) (T:g.C L=some l) (Y:i.toNat*sh.length+c<l.length) (X:zG g sh xs S (l.set (i.toNat*sh.length+c) u))
  (Z:g.O L3=some (u,F,o.length)) (J:uT g.G o ys u) {y:V} {v:Value} (h:aU g y v):aU {g with C:=fun k=>if k=L then some (l.set (i.toNat*sh.length+c) u) else g.C k} (y.CU L e sh xs i c L3 F o ys) v:=by
 have one: ∀{y:V} {v:Value},bQ g y v→bQ {g with C:=fun k=>if k=L then some (l.set (i.toNat*sh.length+c) u) else g.C k} (Xr L e sh xs i c L3 F o ys y) v:=by
  intro y v h
  cases y with
  |slz k q n m E s D p d r=>
   show bQ _ (bif L==k then V.slz L e sh xs (some L3) i c F o ys else .slz k q n m E s D p d r) v;obtain⟨M,w,B,H,I⟩:=h;by_cases A:L=k
   ·subst A
    rw[Qf];rw[P] at w;simp only[aT,bP] at w;obtain⟨rfl,_,_⟩:=w;refine⟨_,P,if_pos rfl,X,u,Z,J,fun y hy R=>?_⟩;rw[ab7 Y] at R;exact(Option.some.inj R).symm
   rw[beq_eq_false_iff_ne.2 A];exact⟨M,w,(if_neg (fun W=>A W.symm)).trans B,H,I⟩
  |epz k q t s j=>
   obtain⟨N,b,M,w,B,H,I,Q⟩:=h;by_cases A:k=L
   ·subst A
    rw[T] at B;simp only[aT] at B;subst B;exact⟨N,b,_,w,if_pos rfl,H,by rw[abI];exact I,Q⟩
   exact⟨N,b,M,w,(if_neg A).trans B,H,I,Q⟩
  |sl q n o' m=>cases o'<;>exact h
  |_=>exact h
 cases y with
 |tup vs=>obtain⟨a,rfl,h⟩:=h;exact⟨a,rfl,eu h fun z _ v K=>one K⟩
 |fn f vs=>obtain⟨a,rfl,h⟩:=h;exact⟨a,rfl,eu h fun z _ v K=>one K⟩
 |slz k q n m E s D p d r=>
  have U:=one (y:=.slz k q n m E s D p d r) (bf (x:=.slz k q n m E s D p d r) rfl h);refine bJ ?_ U;show(bif L==k then V.slz L e sh xs (some L3) i c F o ys else .slz k q n m E s D p d r).single=true
  cases L==k<;>rfl
 |epz k q t s j=>exact bJ (x:=.epz k q t s j) rfl (one (y:=.epz k q t s j) (bf (x:=.epz k q t s j) rfl h))
 |_=>simp only[aU] at h⊢;exact one h
theorem Inv.Hg (h:Inv E B G0 w0 s g a w) {L e b:Nat} {sh:List Kd} {xs:ah} {i:Int} {c L3 S:Nat} {q:List Kd} {ys:ah} {v0 u:Value} {d:Array Value} {l:List Value} (U:g.O L=some (v0,e,sh.length)) (hC:g.C L=some l) (R:v0.ownBlock=some b) (hh:w.heap[b]? =some (.cells d e (0,0)))
  (hp:i.toNat*sh.length+c<l.length) (hz:zG g sh xs v0 (l.set (i.toNat*sh.length+c) u)) (h3:g.O L3=some (u,S,q.length)) (ho3:uT g.G q ys u):
  ∃g',Inv E B G0 w0 (s.CU L e sh xs i c L3 S q ys) g' a (w.setRow b (d.toList.take (i.toNat*sh.length+c)++[u]++d.toList.drop (i.toNat*sh.length+c+1)).toArray):=by
 obtain⟨H,n,cap,hv0,hn,Q,ht,hcs,hln,G4,hok⟩:=z_row h.own U hC R;rw[hh] at Q;simp only[aT,Obj.cells.injEq] at Q;obtain⟨rfl,_⟩:=Q;have N: ∀(y:V) (v:Value),aU g y v→aU {g with C:=fun k=>if k=L then some (l.set (i.toNat*sh.length+c) u) else g.C k} (y.CU L e sh xs i c L3 S q ys) v:=fun y v hy=>adA U hC hp hz h3 ho3 hy
 generalize i.toNat*sh.length+c=p at hp hz N⊢;have hil:p<d.toList.length:=by have:=congrArg List.length ht;rw[Kc] at this;omega
 have hset:d.toList.take p++[u]++d.toList.drop (p+1)=d.toList.set p u:=by rw[abV,if_pos hil];simp
 rw[hset];have hnew:=setRow_heap w b d (d.toList.set p u).toArray e (0,0) hh;have r: ∀j,j≠b→(w.setRow b (d.toList.set p u).toArray).heap[j]? =w.heap[j]? :=fun j o=>setRow_other w b j _ o
 have W:(w.setRow b (d.toList.set p u).toArray).heap.size=w.heap.size:=by simp[World.setRow]
 have Y: ∀k,aK (s.CU L e sh xs i c L3 S q ys).bx k=(aK s.bx k).map (List.map (V.CU L e sh xs i c L3 S q ys)):=fun k=>gI _ _ _
 refine⟨_,eu h.fr fun y _ v hy=>N y v hy,h.df,fun j m o=>?_,⟨fun j v e' sz o=>?_,h.own.2⟩,⟨fun k cs t=>?_,fun k k' cs cs' t K=>?_⟩,?_,by rw[W];exact h.hB,h.ext,h.glob,h.g1,NQ (f:=List.map (V.CU L e sh xs i c L3 S q ys)) h.zb⟩
 ·have hjb:j≠b:=fun x=>by subst x;have o:g.G j=some m:=o;rw[G4] at o;cases o
  obtain⟨c2,e3,fr,hc,ht2⟩:=h.gok j m o;exact⟨c2,e3,fr,by rw[r j hjb];exact hc,ht2⟩
 ·obtain⟨q1,q2⟩:=h.own.1 j v e' sz o
  refine⟨q1,q2.imp id ?_⟩;rintro⟨z,n',I,H,m,hv,hB',A,X,T,D,F,hl⟩;by_cases M:j=L
  ·subst M
   have o:g.O j=some (v,e',sz):=o;rw[U] at o;simp only[aT,bP] at o;obtain⟨rfl,rfl,rfl⟩:=o;rw[hv] at R;simp only[Value.ownBlock,aT] at R;subst R;rw[hh] at A;simp only[aT,Obj.cells.injEq] at A;obtain⟨rfl,_⟩:=A;obtain⟨_,x,ht9⟩:=F.nested hC;subst x;refine⟨z,n',I,_,_,hv,hB',hnew,X,T,by simpa using D,mZ.mk1 (if_pos rfl) G4 ?_,by rw[abI];exact hl⟩;rw[abI,acu,acK,ht]
  have J:z≠b:=fun x=>M (h.own.2 j L v v0 e' e sz _ z o U (by rw[hv];rfl) (by rw[x];exact R))
  exact⟨z,n',I,H,m,hv,hB',by rw[r z J];exact A,X,T,D,F.keep (if_neg M) rfl,hl⟩
 ·rw[Y] at t
  cases P:aK s.bx k with
  |none=>rw[P] at t;cases t
  |some ds=>
   rw[P] at t;simp only[xV,aT] at t;subst t;obtain⟨z,c',e',p1,p2,p3,p4,p5,p6,p7⟩:=h.bxs.1 k ds P;have J:z≠b:=fun x=>h.zb k ds L v0 e _ b P U R (by rw[←x];exact p1)
   exact⟨z,c',e',p1,p2,by rw[r z J];exact p3,eu p4 fun y _ v hy=>N y v hy,p5,p6,kP (adj _ _ _ _ _ _ _ _ _ _) p7⟩
 ·rw[Y] at t K
  cases P:aK s.bx k with
  |none=>rw[P] at t;cases t
  |some ds=>
   cases Z:aK s.bx k' with
   |none=>rw[Z] at K;cases K
   |some ds'=>exact h.bxs.2 k k' ds ds' P Z
 exact h.mh.trans ⟨⟨rfl,rfl,rfl,by rw[W];exact kG _,fun j o=>by omega⟩,fun j o=>r j fun x=>o (x▸hok.1)⟩
theorem Inv.W9 (h:Inv E B G0 w0 s g a w) (L:Nat): ∃g',Inv E B G0 w0 (s.W9 L) g' a w:=by
 have hlk: ∀k,aK (s.W9 L).bx k=(aK s.bx k).map (List.map (V.W9 L)):=fun k=>gI _ _ _
 have T: ∀g':Gh,(∀(y:V) (v:Value),aU g y v→aU g' (y.W9 L) v)→g'.β=g.β→g'.O=g.O→xX g'.G w→Qv B g' w→(∀k cs b,aK s.bx k=some cs→g.β k=some b→g'.G b=none)→((∀b,¬B.m b→g'.G b=g.G b)∧mg g.G g'.G)→mg g'.G1 G0→Inv E B G0 w0 (s.W9 L) g' a w:=by
  intro g' htr hβ hO hg ho hbx hx hg1;refine⟨eu h.fr fun y _ v D=>htr y v D,h.df,hg,ho,⟨fun k cs d=>?_,fun k k' cs cs' d hk'=>?_⟩,h.mh,h.hB,⟨fun b hb=>(hx.1 b hb).trans (h.ext.1 b hb),h.ext.2.1.trans hx.2,by rw[hβ];exact h.ext.2.2⟩,h.glob,hg1,by rw[hβ,hO];exact NQ (f:=List.map (V.W9 L)) h.zb⟩
  ·rw[hlk] at d
   cases hq:aK s.bx k with
   |none=>rw[hq] at d;cases d
   |some ds=>rw[hq] at d;simp only[xV,aT] at d;subst d;obtain⟨R,c',p,X,p2,p3,p4,p5,p6,p7⟩:=h.bxs.1 k ds hq;exact⟨R,c',p,by rw[hβ];exact X,p2,p3,eu p4 fun y _ v D=>htr y v D,p5,hbx k ds R hq X,kP (unz_nilp _) p7⟩
  rw[hlk] at d hk'
  cases hq:aK s.bx k with
  |none=>rw[hq] at d;cases d
  |some ds=>
   cases hq':aK s.bx k' with
   |none=>rw[hq'] at hk';cases hk'
   |some ds'=>rw[hβ];exact h.bxs.2 k k' ds ds' hq hq'
 have lift: ∀g':Gh,(∀(y:V) (v:Value),bQ g y v→bQ g' (unzV L y) v)→ ∀(y:V) (v:Value),aU g y v→aU g' (y.W9 L) v:=by
  intro g' one y v D
  cases y with
  |tup vs=>obtain⟨a,rfl,h⟩:=D;exact⟨a,rfl,eu h fun z _ v hv=>one z v hv⟩
  |fn f vs=>obtain⟨a,rfl,h⟩:=D;exact⟨a,rfl,eu h fun z _ v hv=>one z v hv⟩
  |slz k p t r W M c' N I Q=>
   have h2:=one (.slz k p t r W M c' N I Q) v (bf (x:=.slz k p t r W M c' N I Q) rfl D);refine bJ ?_ h2;show(bif L==k then V.sl p t (some L) r else .slz k p t r W M c' N I Q).single=true
   cases L==k<;>rfl
  |epz k p o M u=>
   have h2:=one (.epz k p o M u) v (bf (x:=.epz k p o M u) rfl D);refine bJ ?_ h2;show(bif L==k then V.any else .epz k p o M u).single=true
   cases L==k<;>rfl
  |_=>simp only[aU] at D⊢;exact one _ v D
 by_cases hex: ∃v e sz l,g.O L=some (v,e,sz)∧g.C L=some l
 ·obtain⟨v0,e,sz,l,hO,hC⟩:=hex
  have S:=(h.own.1 L v0 e sz hO).2;rcases S with hv|⟨b,n,cap,cur,l',hv,hok,hh,hnc,hcm,hcs,S,hl⟩
  ·
   refine⟨{g with C:=fun k=>if k=L then none else g.C k},T _ (lift _ fun y v D=>?_) rfl rfl h.gok ⟨fun j v p o A=>?_,h.own.2⟩ (fun k cs b d hb=>?_) ⟨fun _ _=>rfl,.refl _⟩ h.g1⟩
   ·cases y with
    |slz k p t r W M c' N I Q=>
     show bQ _ (bif L==k then V.sl p t (some L) r else .slz k p t r W M c' N I Q) v;obtain⟨l',H,J,K,q4⟩:=D;by_cases d:L=k
     ·subst d
      rw[Qf];refine⟨H,?_⟩;rcases K.1 with q5|⟨b,cap,q5⟩
      ·exact .inl q5
      rw[hO] at H;simp only[aT,bP] at H;rw[←H.1,hv] at q5;cases q5
     rw[beq_eq_false_iff_ne.2 d];exact⟨l',H,(if_neg (fun P=>d P.symm)).trans J,K,q4⟩
    |epz k p o M u=>
     show bQ _ (bif L==k then V.any else .epz k p o M u) v;by_cases d:L=k
     ·subst d
      rw[Qf];show aV g.G .any v;unfold aV;trivial
     rw[beq_eq_false_iff_ne.2 d];obtain⟨v1,b,l',H,J,K⟩:=D;exact⟨v1,b,l',H,(if_neg (fun P=>d P.symm)).trans J,K⟩
    |sl p t o' r=>cases o'<;>exact D
    |_=>exact D
   ·obtain⟨H,J⟩:=h.own.1 j v p o A
    by_cases Z:j=L
    ·subst Z
     have A:g.O j=some (v,p,o):=A;rw[hO] at A;simp only[aT,bP] at A;exact⟨H,.inl (by rw[←A.1];exact hv)⟩
    refine⟨H,J.imp id ?_⟩;rintro⟨R,n',cap',cur',m,U,hB',Y,hnc,hcm,hcs',S,hl⟩;exact⟨R,n',cap',cur',m,U,hB',Y,hnc,hcm,hcs',S.keep (if_neg Z) rfl,hl⟩
   obtain⟨R,_,_,X,_,_,_,_,p6,_⟩:=h.bxs.1 k cs d;rw[hb] at X;simp only[aT] at X;rw[X];exact p6
  obtain⟨G4,P,ht⟩:=S.nested hC;subst P;have q: ∀j,j≠b→upd g.G b l j=g.G j:=fun j A=>gT _ _ _ _ A
  have F:mg g.G (upd g.G b l):=fun j m A=>by
   have hjb:j≠b:=fun P=>by subst P;rw[G4] at A;cases A
   exact⟨m,by rw[q j hjb];exact A,Uh _⟩
  have hown: ∀{sh:List Kd} {xs:ah} {k p o:Nat} {v:Value},g.O k=some (v,p,o)→uT g.G sh xs v→uT (upd g.G b l) sh xs v:=by
   intro sh xs k p o v d ho;refine Bo ho F fun R hb'=>?_
   refine q R fun P=>?_
   subst P;rcases ho with⟨hq,_⟩|⟨b2,_,l2,hq,_,hG2,_⟩
   ·rw[hq] at hb';cases hb'
   rw[hq] at hb';simp only[Value.ownBlock,aT] at hb';subst hb';rw[G4] at hG2;cases hG2
  have hlink: ∀{C':Nat→Option (List Value)} {l2:List Value} {sz2:Nat} {W:Option Nat} {i:Int} {c e2:Nat} {sh2:List Kd} {ys:ah},rR g l2 sz2 W i c e2 sh2 ys→rR {g with G:=upd g.G b l,C:=C'} l2 sz2 W i c e2 sh2 ys:=by
   intro C' l2 sz2 W i c e2 sh2 ys hq
   cases W with
   |none=>trivial
   |some L2=>obtain⟨v2,H,J,K⟩:=hq;exact⟨v2,H,hown H J,K⟩
  refine⟨{g with G:=upd g.G b l,C:=fun k=>if k=L then none else g.C k},T _ (lift _ fun y v D=>?_) rfl rfl (fun j m A=>?_) ⟨fun j v p o A=>?_,h.own.2⟩ (fun k cs R d hb=>?_) ⟨fun j A=>q j fun P=>A (P▸hok.1),F⟩ h.g1⟩
  ·cases y with
   |slz k p t r W M c' N I Q=>
    show bQ _ (bif L==k then V.sl p t (some L) r else .slz k p t r W M c' N I Q) v;obtain⟨l',H,J,K,q4⟩:=D;by_cases d:L=k
    ·subst d
     rw[Qf];have q1':=H;rw[hO] at q1';simp only[aT,bP] at q1';obtain⟨rfl,rfl,rfl⟩:=q1';rw[hC] at J;simp only[aT] at J;subst J;refine⟨H,.inr ?_⟩;rcases K.1 with⟨q5,_⟩|⟨b2,cap2,q5⟩
     ·rw[hv] at q5;cases q5
     have q6:=q5;rw[hv] at q6;simp only[Value.slice.injEq,aT,Addr.mk.injEq] at q6;obtain⟨⟨rfl,_,_⟩,hn2,rfl⟩:=q6;exact⟨b,cap,l,q5,by omega,upd_same _ _ _,K.2.1,iT F _ _ _ _ K.2.2 (Uh _)⟩
    rw[beq_eq_false_iff_ne.2 d];exact⟨l',H,(if_neg (fun P=>d P.symm)).trans J,⟨K.1,K.2.1,iT F _ _ _ _ K.2.2 (Uh _)⟩,hlink q4⟩
   |epz k p o M u=>
    show bQ _ (bif L==k then V.any else .epz k p o M u) v;by_cases d:L=k
    ·subst d
     rw[Qf];show aV (upd g.G b l) .any v;unfold aV;trivial
    rw[beq_eq_false_iff_ne.2 d];obtain⟨v1,b1,l',H,J,K⟩:=D;exact⟨v1,b1,l',H,(if_neg (fun P=>d P.symm)).trans J,K⟩
   |sl p t o' r=>
    cases o' with
    |none=>exact iA F _ _ D
    |some k=>exact⟨D.1,hown D.1 D.2⟩
   |eptr k p t r M u=>obtain⟨v1,b1,H,J,K⟩:=D;exact⟨v1,b1,H,hown H J,K⟩
   |box k off=>exact D
   |old x=>exact⟨D.1,iA F _ _ D.2.1,D.2.2⟩
   |_=>exact iA F _ _ D
  ·by_cases hjb:j=b
   ·subst hjb
    have A:upd g.G j l j=some m:=A;rw[upd_same] at A;simp only[aT] at A;subst A;exact⟨cur,e,(0,0),hh,ht⟩
   have A:upd g.G b l j=some m:=A;rw[q j hjb] at A;exact h.gok j m A
  ·obtain⟨H,J⟩:=h.own.1 j v p o A
   refine⟨H,J.imp id ?_⟩;rintro⟨R,n',cap',cur',m,U,hB',Y,hnc',hcm',hcs',hrow',hl'⟩;by_cases Z:j=L
   ·subst Z
    have A:g.O j=some (v,p,o):=A;rw[hO] at A;simp only[aT,bP] at A;obtain⟨rfl,rfl,rfl⟩:=A;rw[hv] at U;simp only[Value.slice.injEq,aT,Addr.mk.injEq] at U;obtain⟨⟨rfl,_,_⟩,rfl,rfl⟩:=U;rw[hh] at Y;simp only[aT,Obj.cells.injEq] at Y;obtain⟨rfl,_⟩:=Y;exact⟨b,n,cap,cur,l,hv,hB',hh,hnc,hcm,hcs,mZ.mk0 (if_pos rfl) (upd_same _ _ _),hl⟩
   have hne:R≠b:=fun P=>Z (h.own.2 j L v v0 p e o _ R A hO (by rw[U];rfl) (by rw[hv,P];rfl))
   exact⟨R,n',cap',cur',m,U,hB',Y,hnc',hcm',hcs',hrow'.keep (if_neg Z) (q R hne),hl'⟩
  obtain⟨b2,_,_,X,_,_,_,_,p6,_⟩:=h.bxs.1 k cs d;rw[hb] at X;simp only[aT] at X;subst X;have hne:R≠b:=fun P=>h.zb k cs L v0 e sz b d hO (by rw[hv];rfl) (by rw[←P];exact hb)
  show upd g.G b l R=none;rw[q R hne];exact p6
 ·
  refine⟨g,T g (lift g fun y v D=>?_) rfl rfl h.gok h.own (fun k cs b d hb=>?_) ⟨fun _ _=>rfl,.refl _⟩ h.g1⟩
  ·cases y with
   |slz k p t r W M c' N I Q=>
    show bQ _ (bif L==k then V.sl p t (some L) r else .slz k p t r W M c' N I Q) v;obtain⟨l',H,J,K,q4⟩:=D;by_cases d:L=k
    ·subst d;exact absurd ⟨_,_,_,_,H,J⟩ hex
    rw[beq_eq_false_iff_ne.2 d];exact⟨l',H,J,K,q4⟩
   |epz k p o M u=>
    show bQ _ (bif L==k then V.any else .epz k p o M u) v;obtain⟨v1,b,l',H,J,K⟩:=D;by_cases d:L=k
    ·subst d;exact absurd ⟨_,_,_,_,H,J⟩ hex
    rw[beq_eq_false_iff_ne.2 d];exact⟨v1,b,l',H,J,K⟩
   |_=>exact D
  obtain⟨R,_,_,X,_,_,_,_,p6,_⟩:=h.bxs.1 k cs d;rw[hb] at X;simp only[aT] at X;rw[X];exact p6
theorem Rm: ∀(l:List Nat) (s:St) (g:Gh),Inv E B G0 w0 s g a w→ ∃g',Inv E B G0 w0 (unzL s l) g' a w
 |[],s,g,h=>⟨g,h⟩
 |L::l,s,g,h=>by obtain⟨g',b⟩:=h.W9 L;exact Rm l _ g' b
theorem Bt (h:Inv E B G0 w0 s g a w) (P:Program) (ops:List Oper): ∃g',Inv E B G0 w0 (preZ P ops s) g' a w:=by
 unfold preZ
 cases(s.bx.any (fun(_,cs)=>cs.any isZ)&&ops.any (wantsU P)) with
 |true=>exact Rm _ _ _ h
 |false=>exact⟨g,h⟩
end
section
variable {E:Env} {B:Own} {G0:aW} {w0:World} {s s':St} {g:Gh} {a:Act} {w:World} {bx:List (Nat×ah)} {o:Oper} {eff:Eff}
theorem BOk.sub {P:Program} {bx c:List (Nat×ah)} (h:BOk P B g c w) (f: ∀k a,aK bx k=some a→aK c k=some a):BOk P B g bx w:=
 ⟨fun k a d=>h.1 k a (f k a d),fun k i a b d e=>h.2 k i a b (f k a d) (f i b e)⟩
theorem JC {G:aW} {w:World} {B:Nat→Prop} {x:V} {v:Value} {g:Gh} (b:g.G=G) (a:tH x=false) (h:nR G w B x v):bQ g x v:=by
 subst b
 cases x with
 |sl e sh c xs=>
  cases c with
  |none=>exact h
  |some L=>cases a
 |box k off=>simp only[nR] at h;unfold aV at h;exact h.elim
 |eptr _ _ _ _ _ _=>simp only[nR] at h;unfold aV at h;exact h.elim
 |old _=>simp only[nR] at h;unfold aV at h;exact h.elim
 |slz _ _ _ _ _ _ _ _ _ _=>simp only[nR] at h;unfold aV at h;exact h.elim
 |epz _ _ _ _ _=>simp only[nR] at h;unfold aV at h;exact h.elim
 |_=>exact h
theorem EF: ∀(d:Nat) (l:ah),l.countP tH=0→ ∀b,gN d b l=l
 |d,[],_,b=>by cases b<;>rfl
 |d,x::l,h,b=>by
  rw[abG] at h;have c:tH x=false:=by
   cases f:tH x with
   |false=>rfl
   |true=>rw[f] at h;simp at h
  rw[c] at h;have a:=EF d l (by simpa using h) b
  cases x with
  |sl e sh g xs=>
   cases g with
   |none=>cases b<;>simp only[gN,a]
   |some L=>cases c
  |_=>cases b<;>simp only[gN,a]
theorem adB (h:Inv E B G0 w0 s g a w) {d:Nat} {r:V} {v:Value} {b0:Nat} (T:s.bK d=true) (K:B.n≤b0∧ ∀b,b0≤b→B.m b) (Q: ∀L v e H b,g.O L=some (v,e,H)→v.ownBlock=some b→b<b0) (i:fQ g.G w (b0≤ ·) r v):
  ∃g',Inv E B G0 w0 s g' a w∧aU g' (r.QS d) v:=by
 have j: ∀{e sh xs u},iP g.G w (b0≤ ·) e sh xs u→iP g.G w (B.ok d) e sh xs u:=by rintro e sh xs u ⟨p,o⟩;refine⟨p,o.imp id ?_⟩;rintro⟨b,cap,F,l,P,N,I⟩;exact⟨b,cap,F,l,P,⟨K.2 b N,fun _=>FZ K.1 N⟩,I⟩
 have oG: ∀{e sh xs u},iP g.G w (b0≤ ·) e sh xs u→ ∀L v e H b,g.O L=some (v,e,H)→L≠d→v.ownBlock=some b→u.ownBlock≠some b:=by
  rintro e sh xs u ⟨p,o⟩ L v Y H b hL _ N S;have h3:=Q L v Y H b hL N;rcases o with⟨rfl,_⟩|⟨b',cap,F,l,rfl,hb',_⟩
  ·cases S
  simp[Value.ownBlock] at S;omega
 cases r with
 |tup vs=>
  obtain⟨us,rfl,J,z⟩:=i;have R: ∀(xs:ah) (us:List Value),PW (nR g.G w (b0≤ ·)) xs us→xs.countP tH≤1→ ∃g',g'.G=g.G∧Inv E B G0 w0 s g' a w∧PW (bQ g') (gN d true xs) us:=by
   intro xs;induction xs with
   |nil=>intro us J _;exact⟨g,rfl,h,by rw[J.cO];exact .nil⟩
   |cons x xs X=>
    intro us J z;obtain⟨u,t,rfl,p,o⟩:=J.cons_inv;rw[abG] at z
    cases C:tH x with
    |true=>
     rw[C] at z;have U:xs.countP tH=0:=by rw[if_pos rfl] at z;omega
     cases x with
     |sl e sh M ys=>
      cases M with
      |none=>cases C
      |some L=>have p:iP g.G w (b0≤ ·) e sh ys u:=p;obtain⟨g',D,q,A⟩:=h.label (e:=e) (sh:=sh) (xs:=ys) (u:=u) T (j p) (oG p);refine⟨g',D,q,?_⟩;show PW (bQ g') (V.sl e sh (some d) ys::gN d false xs) (u::t);rw[EF d xs U];refine .cons A (o.mono fun y Z v P=>JC D ?_ P);have:=List.countP_eq_zero.1 U y Z;simpa using this
     |_=>cases C
    |false=>
     rw[C] at z;obtain⟨g',D,q,A⟩:=X t o (by simpa using z);refine⟨g',D,q,?_⟩;have W:gN d true (x::xs)=x::gN d true xs:=by
      cases x with
      |sl e sh M ys=>cases M with
       |none=>rfl
       |some L=>cases C
      |_=>rfl
     rw[W];exact .cons (JC D C p) A
  obtain⟨g',_,q,A⟩:=R vs us J z;exact⟨g',q,us,rfl,A⟩
 |sl e sh M xs=>
  cases M with
  |none=>exact⟨g,h,i⟩
  |some L=>have i:iP g.G w (b0≤ ·) e sh xs v:=i;obtain⟨g',D,q,A⟩:=h.label (e:=e) (sh:=sh) (xs:=xs) (u:=v) T (j i) (oG i);exact⟨g',q,A⟩
 |box k off=>simp only[fQ,nR] at i;unfold aV at i;exact i.elim
 |eptr _ _ _ _ _ _=>simp only[fQ,nR] at i;unfold aV at i;exact i.elim
 |old _=>simp only[fQ,nR] at i;unfold aV at i;exact i.elim
 |slz _ _ _ _ _ _ _ _ _ _=>simp only[fQ,nR] at i;unfold aV at i;exact i.elim
 |epz _ _ _ _ _=>simp only[fQ,nR] at i;unfold aV at i;exact i.elim
 |fn f c=>simp only[fQ,nR] at i;have o:=i;unfold aV at o;obtain⟨_,rfl⟩:=o;exact⟨g,h,cK rfl i⟩
 |_=>exact⟨g,h,i⟩
theorem unl_deep {x y:V} (h:x.deep=some y):y.xW=y:=by
 cases x with
 |fn f c=>cases c<;>simp[V.deep] at h;subst h;rfl
 |_=>simp[V.deep] at h<;>subst h<;>rfl
theorem JD {g:Gh} {bx:List (Nat×ah)} {MB ML:List (Nat×Nat)}: ∀(m args:ah) (vs:List Value),jO m=[]→gG bx MB ML m=some args→iN args=false→PW (Ny g) m vs→PW (aV g.G) (args.map V.xW) vs
 |[],args,vs,_,h,_,q=>by simp only[gG,aT] at h;subst h;rw[q.cO];exact .nil
 |x::m,args,vs,i,h,n,q=>by
  unfold jO at i;obtain⟨d,i⟩:=List.append_eq_nil_iff.1 i;obtain⟨v,t,rfl,s,u⟩:=q.cons_inv;unfold gG at h;split at h
  ·rename_i y ys b p
   simp only[aT] at h;subst h;unfold iN at n;rw[abM,Fz] at n;rw[rA];refine .cons ?_ (JD m ys t i p n.2 u);have a:x.deep=some y→aV g.G y.xW v:=by intro o;rw[unl_deep o];exact s.elim (fun h=>oN h o) (fun h=>Dq h o)
   cases x with
   |box k off=>
    unfold vz at b;simp only at b;split at b
    ·simp only[aT] at b
     subst b
     cases n.1
    cases b
   |sl e sh z xs=>
    cases z with
    |none=>exact a b
    |some L=>have b:some (xU MB ML (.sl e sh (some L) xs))=some y:=b;simp only[aT] at b;subst b;have w:bQ g (.sl e sh (some L) xs) v:=s.elim (fun h=>bf rfl h) id;exact nI w.2
   |fn f c=>
    cases c with
    |nil=>exact a b
    |cons c r=>
     obtain⟨l,_⟩:=aP (show(bif Nat.blt f yX&&zn (c::r) then some (V.fn f ((c::r).map (xU MB ML))) else none)=some y from b);rw[bF] at l;have j:=l.2;unfold zn at j;rw[K8,bF] at j;have j:=j.1;simp only at d;split at j
     ·rw[List.filterMap_cons] at d
      cases d
     cases j
   |_=>exact a b
  cases h
theorem BZ {G:aW} {x:V} {u v:Value} (h:nG x=some u) (a:aV G x v):v=u:=by
 cases x with
 |bool b=>simp only[nG,aT] at h;unfold aV at a;rw[a,h]
 |int k n=>simp only[nG,aT] at h;unfold aV at a;rw[a,h]
 |_=>cases h
theorem B5 {G:aW}: ∀(xs:ah) (us vs:List Value),nH xs=some us→PW (aV G) xs vs→vs=us
 |[],us,vs,h,c=>by simp only[nH,aT] at h;rw[c.cO,h]
 |x::xs,us,vs,h,c=>by
  obtain⟨v,t,rfl,g,d⟩:=c.cons_inv;unfold nH at h;split at h
  ·rename_i a b f e
   simp only[aT] at h;rw[←h,BZ f g,B5 xs b t e d]
  cases h
theorem EG {G:aW} {x:V} {u v:Value} (h:dn x=some u) (b:aV G x v):v=u:=by
 unfold dn at h;split at h
 ·rename_i t g
  split at h
  ·rename_i l e
   simp only[aT] at h;unfold aV at b;obtain⟨z,rfl,c⟩:=b;unfold aV at c;obtain⟨a,rfl,d⟩:=c;rw[fe] at d;rw[B5 g l a e d,h]
  cases h
 ·rename_i t y _
  split at h
  ·rename_i z c
   simp only[aT] at h;unfold aV at b;obtain⟨q,rfl,f⟩:=b;rw[BZ c f,h]
  cases h
 cases h
theorem PR {g:Gh} {x:V} {u v:Value} (h:dn x=some u) (a:aU g x v):v=u:=by
 cases x with
 |iface t y=>exact EG (G:=g.G) h a
 |_=>cases h
theorem eff_pan (h:Inv E B G0 w0 s g a w) (r:Does E.P a.eval o B w g s.bx eff) {v:V} (j:NN E s eff v s') {next:Act→World→Prop} {Q:Exit→Act→World→Prop}
  (l: ∀g' w' u,Inv E B G0 w0 s' g' a w'→dn v=some u→Q (.panic [{v:=u,recovered:=false}]) a w'):o.wp E.P a w next Q:=by
 unfold Oper.wp;obtain⟨⟨u,b⟩,j⟩:=j
 cases eff with
 |call f args mb ml=>
  obtain⟨vs,A,n,t,d,i⟩:=r;rw[n];rcases j with⟨bs,p,c⟩|⟨p,rfl⟩
  rotate_left
  ·refine Calls.mono (p (yu g w mb ml) (qF g mb ml) w vs rfl (p8 h t d i)) ?_
   rintro e w' ⟨q,rfl,k,x⟩;exact l _ _ _ (h.still x) k
  refine Calls.mono (p (yu g w mb ml) (qF g mb ml) w vs rfl (p8 h t d i)) ?_;rintro e w' ⟨g1,q,rfl,k⟩;obtain⟨C,y⟩:=DI h d i c k;have m:=PR b k.fr.head;subst m;exact l _ _ _ y b
 |qi z=>obtain⟨q,n,m⟩:=r;obtain⟨rfl,rfl⟩:=j;rw[n];have:=EG b m;subst this;exact l _ _ _ h b
 |_=>exact j.elim
theorem Ga (h:Inv E B G0 w0 s g a w) (hd:Does E.P a.eval o B w g bx eff) (hs: ∀k cs,aK bx k=some cs→aK s.bx k=some cs) {dr:Bool} (hsb:dr=false→bx=s.bx) (hr:Ij E dr s o.dst eff s') {next:Act→World→Prop} {Q:Exit→Act→World→Prop}
  (M: ∀g' a' w',Inv E B G0 w0 s' g' a' w'→(∃u,a'=a.put o.dst u)→next a' w'):o.wp E.P a w next Q:=by
 unfold Oper.wp
 cases eff with
 |val v=>obtain⟨u,K,Z⟩:=hd;have T:s'=s.put o.dst v:=hr;subst T;rw[K];exact M g _ _ (h.put o.dst Z) ⟨u,rfl⟩
 |newSl e sh xs=>obtain⟨u,w',G',K,hn,Z⟩:=hd;obtain⟨F,_⟩:=h.new hn;rw[K];have T:s'=s.put o.dst (.sl e sh none xs):=hr;subst T;exact M _ _ _ (F.put o.dst (v:=.sl e sh none xs) Z) ⟨u,rfl⟩
 |own e sh xs=>
  obtain⟨u,w',G',K,hn,hf⟩:=hd;obtain⟨k,I,R,Y,rfl⟩:=hr;obtain⟨F,_⟩:=h.new hn;rw[K];have hf':iP G' w' (B.ok k) e sh xs u:=by refine⟨hf.1,hf.2.imp id ?_⟩;rintro⟨b,cap,D,l,z,m,N⟩;exact⟨b,cap,D,l,z,⟨h.hB.2 b m,fun _=>FZ h.hB.1 m⟩,N⟩
  have h1':=F.put (some k) (v:=.any) (u:=u) jr;obtain⟨g',hg,hi,Z⟩:=h1'.label (e:=e) (sh:=sh) (xs:=xs) (u:=u) R hf' (by
   intro L v X U b hL _ m p;have h3:=vN h.gok h.own hL m;rcases hf.2 with⟨rfl,_⟩|⟨b',cap,D,l,rfl,hb',_⟩
   ·cases p
   simp[Value.ownBlock] at p;omega)
  have:=hi.put (some k) (v:=.sl e sh (some k) xs) (u:=u) Z;rw[show(s.put (some k) .any).put (some k) (.sl e sh (some k) xs)=s.put (some k) (.sl e sh (some k) xs) by simp[St.put],show(a.put (some k) u).put (some k) u=a.put (some k) u by simp[Act.put]] at this;rw[Oper.upon_value];rw[I] at M⊢;exact M _ _ _ this ⟨u,rfl⟩
 |app L e sh xs=>
  obtain⟨v0,u,w',G',Ul,K,W,hG1,hmore,hGk,hf,p⟩:=hd;obtain⟨k,I,R,Y,rfl⟩:=hr;have F:=h.kill L;rw[K];have hrow: ∀b,v0.ownBlock=some b→B.ok L b:=by
   intro b m;rcases(h.own.1 L v0 e sh.length Ul).2 with z|⟨b',n,cap,D,l,z,hB',_⟩
   ·rw[z] at m;cases m
   rw[z] at m;simp[Value.ownBlock] at m;subst m;exact hB'
  have C: ∀L' v X U b,(if L'=L then none else g.O L')=some (v,X,U)→v.ownBlock=some b→b<w.heap.size∧some b≠v0.ownBlock:=by
   intro L' v X U b q m;split at q
   ·cases q
   rename_i hne;refine⟨vN h.gok h.own q m,fun T=>hne ?_⟩;exact h.own.2 L' L v v0 _ _ _ _ b q Ul m T.symm
  have hext:Ext {g with O:=fun k=>if k=L then none else g.O k} {g with O:=(fun k=>if k=L then none else g.O k),G:=G'}:=
   ⟨hmore,fun _ _ h=>h,fun L' v X U b q m=>by obtain⟨h2,h3⟩:=C L' v X U b q m;exact hG1 b h2 h3,fun _ _ h=>h,rfl,fun _ _ _=>rfl⟩
  have h2:Inv E B G0 w0 (s.kill L) {g with O:=(fun k=>if k=L then none else g.O k),G:=G'} a w':=by
   refine⟨F.fr.mono fun x _ v=>rU hext,F.df,hGk,⟨fun L' v X U q=>?_,F.own.2⟩,⟨fun j cs hj=>?_,F.bxs.2⟩,?_,F9 h.hB W.size,⟨fun b m=>?_,h.ext.2.1.trans hmore,h.ext.2.2⟩,F.glob,F.g1,F.zb⟩
   ·obtain⟨p1,p2⟩:=F.own.1 L' v X U q
    refine⟨p1,p2.imp id ?_⟩;rintro⟨b,n,cap,D,l,z,m,hh,hnc,hcm,hcs,G4,hl⟩;obtain⟨q1,q2⟩:=C L' v X U b q (by rw[z];rfl);exact⟨b,n,cap,D,l,z,m,by rw[W.block b q1 q2];exact hh,hnc,hcm,hcs,G4.keep rfl (hG1 b q1 q2),hl⟩
   ·obtain⟨b,c,e2,m,hBb,hh,hp,ho,G4,hq⟩:=F.bxs.1 j cs hj
    have hlt:=(Array.getElem?_eq_some_iff.1 hh).1;have hne:some b≠v0.ownBlock:=by
     intro T;have hj:aK (s.kill L).bx j=some cs:=hj;rw[oO] at hj
     cases hq9:aK s.bx j with
     |none=>rw[hq9] at hj;cases hj
     |some ds=>exact h.zb j ds L v0 e sh.length b hq9 Ul T.symm m
    exact⟨b,c,e2,m,hBb,by rw[W.block b hlt hne];exact hh,hp.mono fun x _ v=>rU hext,ho,by show G' b=_;rw[hG1 b hlt hne];exact G4,hq⟩
   ·refine h.mh.trans ⟨⟨W.os,W.tape,W.output,W.size,fun b m=>by omega⟩,fun b m=>W.block b (abv fun e=>m (h.hB.2 b e)) fun T=>m (hrow b T.symm).1⟩
   have hlt:b<w.heap.size:=abv fun e=>m (h.hB.2 b e)
   have hne:some b≠v0.ownBlock:=fun T=>m (hrow b T.symm).1
   exact(hG1 b hlt hne).trans (h.ext.1 b m)
  have hf2:iP G' w' (B.ok (fP true L k)) e sh xs u:=by refine⟨hf.1,hf.2.imp id ?_⟩;rintro⟨b,cap,D,l,z,m,N⟩;exact⟨b,cap,D,l,z,⟨m.1,fun hlt=>m.2 (Ik Y hlt)⟩,N⟩
  obtain⟨g',hg,hi,Z⟩:=h2.label (e:=e) (sh:=sh) (xs:=xs) (u:=u) R hf2 (by
   intro L' v X U b q _ m J;obtain⟨q1,q2⟩:=C L' v X U b q m;rcases p with p|p
   ·rw[J] at p;exact q2 p
   have:=p b J;omega)
  have:=hi.put (some k) (v:=.sl e sh (some (fP true L k)) xs) (u:=u) Z;rw[Oper.upon_value];rw[I] at M⊢;exact M _ _ _ this ⟨u,rfl⟩
 |nW e cs=>obtain⟨c,K,hp,ho,hq⟩:=hd;obtain⟨k,I,R,hk3,Y,rfl⟩:=hr;rw[K];obtain⟨g',hi⟩:=h.nW (e:=e) Y R hp ho hk3 hq;rw[Oper.upon_value];rw[I] at M⊢;exact M _ _ _ hi ⟨_,rfl⟩
 |put k off cs=>obtain⟨b,c,e,us,old,m,hl,hh,hp,K,z,ho,hle⟩:=hd;obtain⟨old',hl',hq,rfl⟩:=hr;rw[hs k old hl] at hl';simp only[aT] at hl';subst hl';rw[K];have F:=h.store (off:=off) (vs:=cs) (us:=us) m (hs k old hl) hh hp z ho hle hq;exact M _ _ _ (F.put o.dst (v:=.tup []) (u:=undef) ⟨[],rfl,.nil⟩) ⟨_,rfl⟩
 |call f args mb ml=>
  obtain⟨vs,as,K,hp,hof,hnh⟩:=hd;rw[K];rcases hr with⟨hbx,hr⟩|⟨hdr,x,bs,hc,hback⟩|⟨hdr,x,hc,rfl⟩
  ·have hpl:PW (aV g.G) (args.map V.xW) vs:=by
    obtain⟨T,e2,z,_⟩:=wI hof;obtain⟨A,H,rfl,hA,hH⟩:=q8 as (jO as) args z;have hbx2:iN A=false∧iN H=false:=by unfold iN at hbx⊢;rw[List.any_append,Fz] at hbx;exact hbx
    have hH0:=hid_bxa (Oz (jO as) H (wH as) hH) hbx2.2;subst hH0;have hh0:jO as=[]:=by
     cases hq:jO as with
     |nil=>rfl
     |cons x t=>rw[hq] at hH;unfold gG at hH;split at hH<;>simp at hH
    rw[FC];exact JD as A vs hh0 hA hbx2.1 hp
   have key: ∀r,aj E f (args.map V.xW) r→(∀v w' G',New w w' g.G G'→fQ G' w' (w.heap.size≤ ·) r v→next (a.put o.dst v) w')→o.upon E.P a next Q (.ok (.enter f vs.toArray) w):=by intro r hc hn;refine Calls.mono (hc g.G w vs h.gok h.oZ hpl) ?_;rintro e w' ⟨v,G',rfl,F,h2⟩;exact hn v w' G' F h2
   rcases hr with⟨k,r,I,R,hk3,hc,rfl⟩|⟨r,I,hc,rfl⟩
   ·refine key r hc fun v w' G' hn hres=>?_
    obtain⟨F,_⟩:=h.new hn;obtain⟨g',hi,Z⟩:=adB F (d:=k) (r:=r) (v:=v) (b0:=w.heap.size) R h.hB (fun L v e U b hL m=>vN h.gok h.own hL m) hres;have:=hi.put (some k) Z;rw[I] at M⊢;exact M _ _ _ this ⟨v,rfl⟩
   refine key r hc fun v w' G' hn hres=>?_
   obtain⟨F,_⟩:=h.new hn;have:=F.put none (v:=.any) (u:=v) jr;rw[I] at M⊢;exact M _ _ _ this ⟨v,rfl⟩
  ·rw[hsb hdr] at hof
   refine Calls.mono (hc (yu g w mb ml) (qF g mb ml) w vs rfl (p8 h hp hof hnh)) ?_;rintro e w' ⟨g1,v,rfl,hx⟩;obtain⟨g2,hi⟩:=DI h hof hnh hback hx;exact M _ _ _ hi ⟨v,rfl⟩
  rw[hsb hdr] at hof;refine Calls.mono (hc (yu g w mb ml) (qF g mb ml) w vs rfl (p8 h hp hof hnh)) ?_;rintro e w' ⟨v,rfl,⟨hx,z⟩,m⟩;refine M _ _ _ ((h.still m).put o.dst (v:=x) (u:=v) ?_) ⟨v,rfl⟩
  cases x with
  |tup vs=>
   cases vs with
   |nil=>exact⟨[],z,.nil⟩
   |cons _ _=>cases hx
  |bool b=>exact jk (g:=⟨fun _=>none,fun _=>none,fun _=>none,fun _=>none,fun _=>none⟩) rfl z
  |int k n=>exact jk (g:=⟨fun _=>none,fun _=>none,fun _=>none,fun _=>none,fun _=>none⟩) rfl z
  |str l=>exact jk (g:=⟨fun _=>none,fun _=>none,fun _=>none,fun _=>none,fun _=>none⟩) rfl z
  |_=>cases hx
 |qi v=>exact hr.elim
 |pick b x y=>
  obtain⟨u,K,Z⟩:=hd;rw[K]
  cases b with
  |true=>have T:s'=s.put o.dst x:=hr;subst T;exact M _ _ _ (h.put o.dst Z) ⟨u,rfl⟩
  |false=>have T:s'=s.put o.dst y:=hr;subst T;exact M _ _ _ (h.put o.dst Z) ⟨u,rfl⟩
 |Hf L e k ys=>obtain⟨v0,b,c,l,i,u,xs,F,h2,h3,h4,h5,h6,h7,h8,h9,h10,K⟩:=hd;obtain⟨r1,rfl⟩:=hr;rw[K];obtain⟨g',hi⟩:=h.forget.Hf F h2 h3 h4 h5 h6 h7 h8 h9 h10 (PO s) r1;exact M g' _ _ (hi.put o.dst (v:=.tup []) (u:=undef) ⟨[],rfl,.nil⟩) ⟨_,rfl⟩
 |alts i vs=>obtain⟨j,v,F,h2,rfl⟩:=hr;obtain⟨u,K,Z⟩:=hd j v F h2;rw[K];exact M g _ _ (h.put o.dst Z) ⟨u,rfl⟩
 |ownz e sh xs c e2 S=>
  obtain⟨u,w',l,K,m,hz,hE,hk0,hlk⟩:=hd;obtain⟨k,I,R,hk3,Y,rfl⟩:=hr;rw[K];have hkH:k<HL:=by unfold dz at Y;omega
  have F:=(h.still m).put (some k) (v:=.any) (u:=u) jr;have hnew: ∀b,u.ownBlock=some b→w.heap.size≤b:=by
   intro b p;rcases hz.2.2 with⟨rfl,_⟩|⟨b',cap,D,rfl,hb',_⟩
   ·cases p
   simp[Value.ownBlock] at p;omega
  have hz':zq g.G w' (B.ok k) e sh.length xs.length u l:=by refine⟨hz.1,hz.2.1,hz.2.2.imp id ?_⟩;rintro⟨b,cap,D,z,hb',N⟩;exact⟨b,cap,D,z,⟨h.hB.2 b hb',fun _=>FZ h.hB.1 hb'⟩,N⟩
  obtain⟨g1,hg1,hi1,ho1,hc1,_⟩:=F.zlabel (d:=k) (e:=e) (sh:=sh) (xs:=xs) (u:=u) (l:=l) R hz' (by
   intro L v X U b hL _ hb' p;have:=vN h.gok h.own hL hb';have:=hnew b p;omega) (by
   intro j cs b hj p hβ;have hj:aK s.bx j=some cs:=hj;obtain⟨b',_,_,p1,_,p3,_⟩:=h.bxs.1 j cs hj;rw[hβ] at p1;simp only[aT] at p1;subst p1;have:=(Array.getElem?_eq_some_iff.1 p3).1;have:=hnew b p;omega)
  obtain⟨g2,hg2,hi2,hs2,hx2⟩:=hi1.U4 (d:=dz k) (e:=e2) (sh:=S) (xs:=[]) (u:=.slice none 0 0) hk3 ⟨hk0,.inl ⟨rfl,rfl⟩⟩ (by intro L v X U b _ _ _ hq;cases hq);have hkd:k≠dz k:=by unfold dz;omega
  have Z:aU g2 (.slz k e sh xs (some (dz k)) 0 c e2 S []) u:=by
   refine nJ.2 ⟨l,(hx2 k hkd).1.trans ho1,(hx2 k hkd).2.trans hc1,⟨?_,hz.2.1,by rw[hg2,hg1];exact hE⟩,_,hs2.1,hs2.2,fun y _ hy=>hlk y ?_⟩
   ·rcases hz.2.2 with⟨z,hn⟩|⟨b,cap,D,z,_⟩
    ·exact .inl ⟨z,Zw hn⟩
    exact .inr ⟨b,cap,z⟩
   simpa using hy
  have:=hi2.put (some k) (v:=.slz k e sh xs (some (dz k)) 0 c e2 S []) (u:=u) Z;rw[show(s.put (some k) .any).put (some k) (.slz k e sh xs (some (dz k)) 0 c e2 S [])=s.put (some k) (.slz k e sh xs (some (dz k)) 0 c e2 S []) by simp[St.put],show(a.put (some k) u).put (some k) u=a.put (some k) u by simp[Act.put]] at this;rw[Oper.upon_value];rw[I] at M⊢;exact M _ _ _ this ⟨u,rfl⟩
 |appz L e sh xs i c e2 S=>
  obtain⟨v0,u,w',l,Ul,K,W,hG0,hz,hE,p,hk0,hlk⟩:=hd;obtain⟨k,I,R,hk3,Y,rfl⟩:=hr;rw[K];have hkH:k<HL:=by unfold dz at Y;omega
  have hrow: ∀b,v0.ownBlock=some b→B.ok L b:=by
   intro b m;rcases(h.own.1 L v0 e sh.length Ul).2 with z|⟨b',n,cap,D,l,z,hB',_⟩
   ·rw[z] at m;cases m
   rw[z] at m;simp[Value.ownBlock] at m;subst m;exact hB'
  have C: ∀L' v X U b,(if L'=L then none else g.O L')=some (v,X,U)→v.ownBlock=some b→b<w.heap.size∧some b≠v0.ownBlock:=by
   intro L' v X U b q m;split at q
   ·cases q
   rename_i hne;refine⟨vN h.gok h.own q m,fun T=>hne ?_⟩;exact h.own.2 L' L v v0 _ _ _ _ b q Ul m T.symm
  have hbox: ∀j cs b,aK (s.kill L).bx j=some cs→g.β j=some b→b<w.heap.size∧some b≠v0.ownBlock:=by
   intro j cs b hj hβ;rw[oO] at hj
   cases hq9:aK s.bx j with
   |none=>rw[hq9] at hj;cases hj
   |some ds=>obtain⟨b',_,_,p1,_,p3,_⟩:=h.bxs.1 j ds hq9;rw[hβ] at p1;simp only[aT] at p1;subst p1;exact⟨(Array.getElem?_eq_some_iff.1 p3).1,fun T=>h.zb j ds L v0 e sh.length b hq9 Ul T.symm hβ⟩
  have F:=(h.kill L).grow W hG0 (fun L' v X U b q m=>(C L' v X U b q m).2) (fun j cs b hj m=>(hbox j cs b hj m).2) (fun b m=>(hrow b m).1);have hz':zq g.G w' (B.ok (fP true L k)) e sh.length xs.length u l:=by refine⟨hz.1,hz.2.1,hz.2.2.imp id ?_⟩;rintro⟨b,cap,D,z,m,N⟩;exact⟨b,cap,D,z,⟨m.1,fun hlt=>m.2 (Ik hkH hlt)⟩,N⟩
  obtain⟨g1,hg1,hi1,ho1,hc1,_⟩:=F.zlabel (d:=fP true L k) (e:=e) (sh:=sh) (xs:=xs) (u:=u) (l:=l) R hz' (by
   intro L' v X U b q _ m J;obtain⟨q1,q2⟩:=C L' v X U b q m;rcases p with p|p
   ·rw[J] at p;exact q2 p
   ·have:=p b J;omega) (by
   intro j cs b hj J hβ;obtain⟨q1,q2⟩:=hbox j cs b hj hβ;rcases p with p|p
   ·rw[J] at p;exact q2 p
   have:=p b J;omega)
  obtain⟨g2,hg2,hi2,hs2,hx2⟩:=hi1.U4 (d:=dz k) (e:=e2) (sh:=S) (xs:=[]) (u:=.slice none 0 0) hk3 ⟨hk0,.inl ⟨rfl,rfl⟩⟩ (by intro L v X U b _ _ _ hq;cases hq);have hkd:fP true L k≠dz k:=by
   unfold fP dz;rw[Ke];unfold dz at Y
   cases Nat.ble HL L
   ·show k≠k+500000000;omega
   show HL+k≠k+500000000;unfold HL;omega
  have Z:aU g2 (.slz (fP true L k) e sh xs (some (dz k)) i c e2 S []) u:=by
   refine nJ.2 ⟨l,(hx2 _ hkd).1.trans ho1,(hx2 _ hkd).2.trans hc1,⟨?_,hz.2.1,by rw[hg2,hg1];exact hE⟩,_,hs2.1,hs2.2,fun y h0 hy=>hlk y h0 hy⟩;rcases hz.2.2 with⟨z,hn⟩|⟨b,cap,D,z,_⟩
   ·exact .inl ⟨z,Zw hn⟩
   exact .inr ⟨b,cap,z⟩
  have:=hi2.put (some k) (v:=.slz (fP true L k) e sh xs (some (dz k)) i c e2 S []) (u:=u) Z;rw[Oper.upon_value];rw[I] at M⊢;exact M _ _ _ this ⟨u,rfl⟩
 |Hg L e sh xs i c L3 e2 S ys=>obtain⟨v0,b,D,l,u,F,h2,h3,h4,h5,h6,h7,h8,h9,K⟩:=hd;have T:s'=(s.CU L e sh xs i c L3 e2 S ys).put o.dst (.tup []):=hr;subst T;rw[K];obtain⟨g',hi⟩:=h.Hg F h2 h3 h4 h5 h7 h8 h9;exact M g' _ _ (hi.put o.dst (v:=.tup []) (u:=undef) ⟨[],rfl,.nil⟩) ⟨_,rfl⟩
def ku (ops:List Oper) (s:St) (o:Oper):Option Bool:=
 match o.guard with
 |none=>some true
 |some (j,a)=>match ops[j]? with
  |none=>none
  |some c=>match c.dst with
   |none=>none
   |some d=>match slot s.fr d with
    | .bool b=>some (b==a)
    | .tup []=>some false
    |_=>none
theorem XZ (h:PW (aU g) s.fr a.tmps.toList) {d:Nat} {x:V} (e:slot s.fr d=x) (b:x≠.any):d<s.fr.length∧ ∃u,a.tmps[d]? =some u∧aU g x u:=by
 unfold slot at e;have f:d<s.fr.length:=by
  refine abv fun c=>b ?_
  rw[←e,l7,abC c];rfl
 obtain⟨u,j,i⟩:=h.get (getD_some f);rw[e] at i;exact⟨f,u,by simpa using j,i⟩
theorem iE {ops:Array Oper} (h:PW (aU g) s.fr a.tmps.toList) {b:Bool} (f:ku ops.toList s o=some b):Region.wanted o (yielded ops a.tmps)=b:=by
 unfold ku at f;unfold Region.wanted;split at f
 ·rename_i m
  rw[m];simp only[aT] at f;exact f
 rename_i j r m;rw[m];simp only;split at f
 ·cases f
 rename_i t n;split at f
 ·cases f
 rename_i d q;have i:ops[j]? =some t:=by simpa using n
 split at f
 ·rename_i c p
  obtain⟨_,u,l,k⟩:=XZ h p (by intro e;cases e);rw[dH] at k;subst k;simp only[aT] at f;subst f;simp[yielded,i,q,l]
 ·rename_i p
  obtain⟨_,u,l,k⟩:=XZ h p (by intro e;cases e);obtain⟨us,rfl,v⟩:=k;simp only[aT] at f;subst f;simp[yielded,i,q,l]
 cases f
def wZ (E:Env) (ops:List Oper) (bx:Option (List (Nat×ah))) (s:St) (o:Oper) (a:St):Prop:=
 (ku ops s o=some true∧ ∃eff,Kh E s.fr (match bx with|some b=>b|none=>s.bx) o=some (true,eff)∧(bx.isSome&&NG eff)=false∧Ij E bx.isSome s o.dst eff a)∨(ku ops s o=some false∧a=s.put o.dst (.tup []))
inductive Trace (E:Env) (ops:List Oper) (bx:Option (List (Nat×ah))):List Oper→St→St→Prop
 |nil (s:St):Trace E ops bx [] s s
 |cons {o:Oper} {l:List Oper} {s s1 s':St} (h:wZ E ops bx s o s1) (t:Trace E ops bx l s1 s'):Trace E ops bx (o::l) s s'
theorem lY {α:Type} {c:Bool} {x y:Option α} {r:α} (h:sel c x y=some r):(c=true∧x=some r)∨(c=false∧y=some r):=by
 cases c
 ·exact .inr ⟨rfl,h⟩
 exact .inl ⟨rfl,h⟩
theorem set_same {fr:ah} {d:Nat} {x:V} (h:slot fr d=x):fr.set d x=fr:=by
 by_cases a:d<fr.length
 ·unfold slot at h
  rw[l7,iK a] at h;simp only[yU] at h;rw[←h];exact List.set_getElem_self a
 exact List.set_eq_of_length_le (by omega)
theorem Mc {β:Type}: ∀(l:ah) (k:ah→β),NH l k=k l
 |[],_=>rfl
 |v::l,k=>by unfold NH;exact Mc l _
theorem pf_eq {α:Type} (K:St→Option α):pf K=K:=by
 funext s
 unfold pf;rw[Mc]
inductive zu (E:Env) (ops:List Oper):List Oper→St→V→St→Prop
 |here {o:Oper} {l:List Oper} {s s':St} {eff:Eff} {v:V} (hw:ku ops s o=some true) (ho:Kh E s.fr s.bx o=some (true,eff)) (h:NN E s eff v s'):zu E ops (o::l) s v s'
 |next {o:Oper} {l:List Oper} {s s1 s':St} {v:V} (h:wZ E ops none s o s1) (t:zu E ops l s1 v s'):zu E ops (o::l) s v s'
theorem evOp_rel {α:Type} {call:Caller α} (j:lS E call) {bx:Option (List (Nat×ah))} {K:St→Option α} {KP:V→St→Option α} {r:α} (h:evOp E call bx o s K KP=some r):
  (∃eff a,(Kh E s.fr (match bx with|some b=>b|none=>s.bx) o=some (true,eff)∧(bx.isSome&&NG eff)=false∧Ij E bx.isSome s o.dst eff a)∧K a=some r)∨
  (bx=none∧ ∃eff v a,Kh E s.fr s.bx o=some (true,eff)∧NN E s eff v a∧KP v a=some r):=by
 unfold evOp at h;split at h
 ·cases h
 rename_i c eff g
 cases e:bx.isSome&&NG eff with
 |true=>rw[e] at h;cases h
 |false=>
 rw[e,jW] at h;rcases lY h with⟨rfl,h⟩|⟨_,h⟩
 ·rcases effK_rel j h with⟨a,f,d⟩|⟨i,v,a,f,d⟩
  ·exact .inl ⟨eff,a,⟨g,e,f⟩,d⟩
  cases bx with
  |some b=>cases i
  |none=>exact .inr ⟨rfl,eff,v,a,g,f,d⟩
 cases h
theorem lG {α:Type} {call:Caller α} (y:lS E call) {ops:List Oper} {bx:Option (List (Nat×ah))} {KP:V→St→Option α}: ∀(l:List Oper) (s:St) (K:St→Option α) (r:α),rP E call ops bx KP l s K=some r→
  (∃a,Trace E ops bx l s a∧K a=some r)∨(bx=none∧ ∃v a,zu E ops l s v a∧KP v a=some r)
 |[],s,K,r,h=> .inl ⟨s,.nil s,h⟩
 |o::l,s,K,r,h=>by
  have k: ∀(n:ku ops s o=some false),rP E call ops bx KP l (s.put o.dst (.tup [])) K=some r→(∃a,Trace E ops bx (o::l) s a∧K a=some r)∨(bx=none∧ ∃v a,zu E ops (o::l) s v a∧KP v a=some r):=by
   intro n h;rcases lG y l _ K r h with⟨a,q,t⟩|⟨g,v,a,q,t⟩
   ·exact .inl ⟨a,.cons (.inr ⟨n,rfl⟩) q,t⟩
   subst g;exact .inr ⟨rfl,v,a,.next (.inr ⟨n,rfl⟩) q,t⟩
  have take: ∀(n:ku ops s o=some true),evOp E call bx o s (fun s=>rP E call ops bx KP l s K) KP=some r→(∃a,Trace E ops bx (o::l) s a∧K a=some r)∨(bx=none∧ ∃v a,zu E ops (o::l) s v a∧KP v a=some r):=by
   intro n h;rcases evOp_rel y h with⟨eff,B,w,x⟩|⟨g,eff,v,a,w,A,x⟩
   ·rcases lG y l B K r x with⟨a,q,t⟩|⟨g,v,a,q,t⟩
    ·exact .inl ⟨a,.cons (.inl ⟨n,eff,w⟩) q,t⟩
    subst g;exact .inr ⟨rfl,v,a,.next (.inl ⟨n,eff,w⟩) q,t⟩
   subst g;exact .inr ⟨rfl,v,a,.here n w A,x⟩
  unfold rP at h;simp only[pf_eq] at h;split at h
  ·rename_i p
   exact take (by unfold ku;rw[p]) h
  rename_i j m p;unfold guardV at h;split at h
  ·cases h
  rename_i C i;split at h
  ·cases h
  rename_i d u;split at h
  ·rename_i b g
   have z: ∀c,b=c→(⟨s.fr.set d (.bool c),s.bx⟩:St)=s:=by intro c e;subst e;rw[set_same g]
   rcases lY h with⟨f,h⟩|⟨f,h⟩
   ·rw[z true f] at h
    cases m with
    |true=>exact take (by unfold ku;simp[p,i,u,g,f]) h
    |false=>exact k (by unfold ku;simp[p,i,u,g,f]) h
   rw[z false f] at h
   cases m with
   |true=>exact k (by unfold ku;simp[p,i,u,g,f]) h
   |false=>exact take (by unfold ku;simp[p,i,u,g,f]) h
  ·rename_i g
   exact k (by unfold ku;simp[p,i,u,g]) h
  cases h
theorem vT (hE:uQ E) {ops:Array Oper} {Q:Exit→Act→World→Prop}: ∀(l:List Oper) (i:Nat) (s b:St) (g:Gh) (a:Act) (w:World),ops.toList.drop i=l→Trace E ops.toList none l s b→Inv E B G0 w0 s g a w→
  (∀g' f w',Inv E B G0 w0 b g' f w'→Q .normal f w')→wpOps E.P ops Q (List.range' i l.length) a w
 |[],i,s,b,g,a,w,j,c,h,e=>by cases c;exact e g a w h
 |o::l,i,s,b,g,a,w,j,c,h,e=>by
  cases c with
  |cons t c=>
   rename_i r;have x:ops[i]? =some o:=by have:=congrArg (fun l=>l[0]?) j;simpa using this
   have d:ops.toList.drop (i+1)=l:=by rw[←Zz,j];rfl
   rw[dN,ac8];unfold wpOps;rw[x];simp only;rcases t with⟨m,eff,p,_,q⟩|⟨m,rfl⟩
   ·rw[if_pos (iE h.fr m)]
    refine .inl ?_;have k:=mI (ac:=a) (B:=B) (w:=w) (g:=g) hE rfl h.gok h.own h.bxs h.hB h.m1 (fun y=>gD h.fr h.oZ y) p;exact Ga h k (fun _ _ h=>h) (fun _=>rfl) q fun g' f w' n _=>vT hE l (i+1) r b g' f w' d c n e
   rw[if_neg (by rw[iE h.fr m];decide)];exact vT hE l (i+1) _ b g _ w d c (h.put o.dst (v:=.tup []) (u:=undef) ⟨[],rfl,.nil⟩) e
theorem xE (hE:uQ E) {ops:Array Oper} {Q:Exit→Act→World→Prop} {v:V}: ∀(l:List Oper) (i:Nat) (s c:St) (g:Gh) (a:Act) (w:World),ops.toList.drop i=l→zu E ops.toList l s v c→Inv E B G0 w0 s g a w→
  (∀g' k w' u,Inv E B G0 w0 c g' k w'→dn v=some u→Q (.panic [{v:=u,recovered:=false}]) k w')→wpOps E.P ops Q (List.range' i l.length) a w
 |[],i,s,c,g,a,w,m,d,h,j=>by cases d
 |o::l,i,s,c,g,a,w,m,d,h,j=>by
  have A:ops[i]? =some o:=by have:=congrArg (fun l=>l[0]?) m;simpa using this
  have f:ops.toList.drop (i+1)=l:=by rw[←Zz,m];rfl
  rw[dN,ac8];unfold wpOps;rw[A];simp only
  cases d with
  |here e p q=>rw[if_pos (iE h.fr e)];refine .inl ?_;have b:=mI (ac:=a) (B:=B) (w:=w) (g:=g) hE rfl h.gok h.own h.bxs h.hB h.m1 (fun y=>gD h.fr h.oZ y) p;exact eff_pan h b q fun g' w' u n t=>j g' a w' u n t
  |next z d=>
   rename_i x;rcases z with⟨e,eff,p,_,r⟩|⟨e,rfl⟩
   ·rw[if_pos (iE h.fr e)]
    refine .inl ?_;have b:=mI (ac:=a) (B:=B) (w:=w) (g:=g) hE rfl h.gok h.own h.bxs h.hB h.m1 (fun y=>gD h.fr h.oZ y) p;exact Ga h b (fun _ _ h=>h) (fun _=>rfl) r fun g' k w' n _=>xE hE l (i+1) x c g' k w' f d n j
   rw[if_neg (by rw[iE h.fr e];decide)];exact xE hE l (i+1) _ c g _ w f d (h.put o.dst (v:=.tup []) (u:=undef) ⟨[],rfl,.nil⟩) j
end
structure tu where
 d:Nat
 v:V
 bx:Option (ah)
def tu.app (c:tu) (s:St):St:=⟨s.fr.set c.d c.v,match c.bx with|some cs=>(c.d,cs)::s.bx|none=>s.bx⟩
def bT (sel:Nat→Bool):List tu→Nat→St→St
 |[],_,s=>s
 |c::l,k,s=>bT sel l (k+1) (if sel k=true then c.app s else s)
structure Alike (s s':St):Prop where
 fr:s.fr=s'.fr
 bx: ∀k,aK s.bx k=aK s'.bx k
theorem Alike.refl (s:St):Alike s s:=⟨rfl,fun _=>rfl⟩
theorem Alike.trans {a b c:St} (h:Alike a b) (k:Alike b c):Alike a c:=⟨h.fr.trans k.fr,fun j=>(h.bx j).trans (k.bx j)⟩
theorem Alike.app {a b:St} (h:Alike a b) (c:tu):Alike (c.app a) (c.app b):=by
 refine⟨by simp[tu.app,h.fr],fun k=>?_⟩;unfold tu.app
 cases c.bx with
 |none=>exact h.bx k
 |some d=>simp only[aK];rw[h.bx k]
theorem Alike.comm (s:St) {c a:tu} (h:c.d≠a.d):Alike (c.app (a.app s)) (a.app (c.app s)):=by
 refine⟨by simp[tu.app,List.set_comm _ _ (fun e=>h e.symm)],fun k=>?_⟩;unfold tu.app
 cases j:c.bx<;>cases g:a.bx<;>simp only[aK]
 by_cases f:c.d=k
 ·have b:(c.d==k)=true:=by simpa using f
  have i:(a.d==k)=false:=by rw[uD];intro e;exact h (f.trans e.symm)
  rw[b,i];rfl
 have b:(c.d==k)=false:=by simpa using f
 rw[b];rfl
theorem EH (sel:Nat→Bool): ∀(l:List tu) (k:Nat) (s a:St),Alike s a→Alike (bT sel l k s) (bT sel l k a)
 |[],_,_,_,h=>h
 |c::l,k,s,a,h=>by
  unfold bT;refine EH sel l (k+1) _ _ ?_;split
  ·exact h.app c
  exact h
theorem Md (sel:Nat→Bool) (c:tu): ∀(l:List tu) (k:Nat) (s:St),(∀c'∈l,c'.d≠c.d)→Alike (c.app (bT sel l k s)) (bT sel l k (c.app s))
 |[],_,_,_=> .refl _
 |c'::l,k,s,h=>by
  unfold bT;refine(Md sel c l (k+1) _ fun x a=>h x (uO _ a)).trans (EH sel l (k+1) _ _ ?_);split
  ·exact Alike.comm s fun e=>h c' rf e.symm
  exact .refl _
theorem qO (sel a:Nat→Bool): ∀(l:List tu) (k:Nat) (s:St),(∀i,k≤i→i<k+l.length→sel i=a i)→bT sel l k s=bT a l k s
 |[],_,_,_=>rfl
 |c::l,k,s,h=>by unfold bT;rw[h k (kG _) (by simp)];exact qO sel a l (k+1) _ fun i d b=>h i (by omega) (by simp;omega)
theorem JE (sel:Nat→Bool) (i:Nat): ∀(l:List tu) (k:Nat) (s:St) (c:tu),k≤i→l[i-k]? =some c→sel i=false→(l.map (·.d)).Nodup→
  Alike (c.app (bT sel l k s)) (bT (fun j=>if j=i then true else sel j) l k s)
 |[],k,s,c,m,a,_,_=>by simp at a
 |c'::l,k,s,c,m,a,f,b=>by
  simp only[rA,acf] at b;by_cases e:i=k
  ·subst e
   simp only[WZ,Nh,aT] at a;subst a;unfold bT;rw[f,if_neg (by decide),if_pos rfl,if_pos rfl];refine(Md sel c' l (i+1) s fun x g e=>b.1 (e▸acR g)).trans ?_;rw[qO sel (fun j=>if j=i then true else sel j) l (i+1) _ fun j o _=>by
    have:j≠i:=by omega
    simp[this]]
   exact .refl _
  unfold bT;have n: ¬k=i:=fun h=>e h.symm
  rw[if_neg n];refine JE sel i l (k+1) _ c (by omega) ?_ f b.2;rw[show i-k=(i-(k+1))+1 by omega] at a;simpa using a
theorem Me (sel:Nat→Bool): ∀(l:List tu) (k:Nat) (s:St),(bT sel l k s).fr.length=s.fr.length
 |[],_,_=>rfl
 |c::l,k,s=>by
  unfold bT;rw[Me sel l (k+1)];split
  ·simp[tu.app]
  rfl
theorem EI {fr:ah} {d t:Nat} {v:V} (h:t≠d):slot (fr.set d v) t=slot fr t:=by unfold slot;rw[l7,l7,List.getElem?_set_ne (fun e=>h e.symm)]
theorem Tc {fr:ah} {d:Nat} {v:V} (h:d<fr.length):slot (fr.set d v) d=v:=by unfold slot;rw[l7,ab7 h];rfl
theorem nO (sel:Nat→Bool) (t:Nat): ∀(l:List tu) (k:Nat) (s:St),(∀c∈l,c.d≠t)→slot (bT sel l k s).fr t=slot s.fr t
 |[],_,_,_=>rfl
 |c::l,k,s,h=>by
  unfold bT;rw[nO sel t l (k+1) _ fun x a=>h x (uO _ a)];split
  ·exact EI fun e=>h c rf e.symm
  rfl
theorem p9 (sel:Nat→Bool) (j:Nat): ∀(l:List tu) (k:Nat) (s:St) (c:tu),k≤j→l[j-k]? =some c→(l.map (·.d)).Nodup→c.d<s.fr.length→slot (bT sel l k s).fr c.d=if sel j=true then c.v else slot s.fr c.d
 |[],k,s,c,i,a,_,_=>by simp at a
 |c'::l,k,s,c,i,a,f,g=>by
  simp only[rA,acf] at f;unfold bT;by_cases e:j=k
  ·subst e
   simp only[WZ,Nh,aT] at a;subst a;rw[nO sel c'.d l (j+1) _ fun x h e=>f.1 (e▸acR h)];split
   ·exact Tc g
   rfl
  rw[show j-k=(j-(k+1))+1 by omega] at a;have b:l[j-(k+1)]? =some c:=by simpa using a
  rw[p9 sel j l (k+1) _ c (by omega) b f.2 (by split<;>simpa[tu.app] using g)];split
  ·rfl
  split
  ·refine EI fun m=>f.1 ?_
   rw[←m];exact acR (GR b)
  rfl
section
variable {E:Env} {B:Own} {G0:aW} {w0:World}
theorem Inv.alike {s l:St} {g:Gh} {a:Act} {w:World} (h:Inv E B G0 w0 s g a w) (k:Alike s l):Inv E B G0 w0 l g a w:=
 ⟨by rw[←k.fr];exact h.fr,h.df,h.gok,h.own,⟨fun j d c=>h.bxs.1 j d ((k.bx j).trans c),fun j m d i c f=>h.bxs.2 j m d i ((k.bx j).trans c) ((k.bx m).trans f)⟩,h.mh,h.hB,h.ext,h.glob,h.g1,fun j d L v e n b c=>h.zb j d L v e n b ((k.bx j).trans c)⟩
end
theorem adC {P:Program} {r j:Operand→V} {bx:List (Nat×ah)} {o:Oper} (h: ∀x∈o.op.operands.toList,r x=j x):Uk P r bx o=Uk P j bx o:=by
 have s: ∀l:List Operand,(∀x∈l,r x=j x)→l.map r=l.map j:=fun l k=>abf k
 unfold Uk;simp only
 cases a:o.op with
 |move x=>simp only;rw[h x (by simp[a,Op.operands])]
 |assign x=>simp only;rw[h x (by simp[a,Op.operands])]
 |pick c x y=>simp only;rw[h c (by simp[a,Op.operands]),h x (by simp[a,Op.operands]),h y (by simp[a,Op.operands])]
 |alloc t=>rfl
 |box t x=>simp only;rw[h x (by simp[a,Op.operands])]
 |build t e=>
  simp only;have:(e.toList.map fun(i,x)=>(i,r x))=e.toList.map fun(i,x)=>(i,j x):=by
   refine abf fun p A=>?_
   obtain⟨i,x⟩:=p;simp only;rw[h x (by rw[a];simp only[Op.operands];simp;exact⟨i,by simpa using A⟩)]
  rw[this]
 |buildSlice t n e=>
  simp only;have:(e.toList.map fun(i,x)=>(i,r x))=e.toList.map fun(i,x)=>(i,j x):=by
   refine abf fun p A=>?_
   obtain⟨i,x⟩:=p;simp only;rw[h x (by rw[a];simp only[Op.operands];simp;exact⟨i,by simpa using A⟩)]
  rw[this]
 |load t x=>simp only;rw[h x (by simp[a,Op.operands])]
 |store t x y=>simp only;rw[h x (by simp[a,Op.operands]),h y (by simp[a,Op.operands])]
 |nilCheck x=>simp only;rw[h x (by simp[a,Op.operands])]
 |binOp op t x y H=>simp only;rw[h x (by simp[a,Op.operands]),h y (by simp[a,Op.operands])]
 |makeInterface t x=>simp only;rw[h x (by simp[a,Op.operands])]
 |typeAssert x I t b=>
  cases b with
  |true=>simp only;rw[h x (by simp[a,Op.operands])]
  |false=>rfl
 |panic x=>simp only;rw[h x (by simp[a,Op.operands])]
 |unOp op t x=>simp only;rw[h x (by simp[a,Op.operands])]
 |convert G D x=>simp only;rw[h x (by simp[a,Op.operands])]
 |makeFunc fn first w=>
  cases fn with
  |func f=>simp only;rw[s w.toList fun x v=>h x (by rw[a];simp only[Op.operands];simp;right;simpa using v),s first.toList fun x v=>h x (by rw[a];simp only[Op.operands];simp;left;simpa using v)]
  |_=>rfl
 |makeSlice t l c=>simp only;rw[h l (by simp[a,Op.operands]),h c (by simp[a,Op.operands])]
 |slice t x C B mx=>
  cases mx with
  |some m=>rfl
  |none=>
   simp only;rw[h x (by simp[a,Op.operands])];have F:C.map r=C.map j:=by
    cases C with
    |none=>rfl
    |some y=>simp only[xV];rw[h y (by simp[a,Op.operands])]
   have E:B.map r=B.map j:=by
    cases B with
    |none=>rfl
    |some y=>simp only[xV];rw[h y (by simp[a,Op.operands])]
   rw[F,E]
 |fieldAddr t x f=>simp only;rw[h x (by simp[a,Op.operands])]
 |field t x f=>simp only;rw[h x (by simp[a,Op.operands])]
 |indexAddr t x i=>simp only;rw[h x (by simp[a,Op.operands]),h i (by simp[a,Op.operands])]
 |index t x i=>simp only;rw[h x (by simp[a,Op.operands]),h i (by simp[a,Op.operands])]
 |extract x i=>simp only;rw[h x (by simp[a,Op.operands])]
 |call c=>
  obtain⟨callee,args,g⟩:=c;have d: ∀x∈args.toList,r x=j x:=fun x v=>h x (by rw[a];cases callee<;>simp only[Op.operands,Call.operands]<;>simp<;>(try right)<;>simpa using v)
  cases callee with
  |value f=>simp only;rw[h f (by rw[a];simp[Op.operands,Call.operands]),s args.toList d]
  |invoke q m=>rfl
  |builtin b=>
   simp only;have two: ∀(f:V→V→Kg),(match args.toList with|[x,y]=>f (r x) (r y)|_=>none)=(match args.toList with|[x,y]=>f (j x) (j y)|_=>none):=by
    intro f
    cases k:args.toList with
    |nil=>rfl
    |cons x l=>
     cases l with
     |nil=>rfl
     |cons y l=>
      cases l with
      |nil=>simp only;rw[d x (by rw[k];simp),d y (by rw[k];simp)]
      |cons z l=>rfl
   cases b<;>simp only
   ·
    cases k:args.toList with
    |nil=>rfl
    |cons x l=>
     cases l with
     |nil=>rfl
     |cons y l=>
      cases l with
      |nil=>simp only;rw[d x (by rw[k];simp),d y (by rw[k];simp)]
      |cons z l=>rfl
   ·
    cases k:args.toList with
    |nil=>cases g.toList with
     |nil=>rfl
     |cons t g=>cases g<;>rfl
    |cons x l=>
     cases l with
     |nil=>
      cases g.toList with
      |nil=>rfl
      |cons t g=>
       cases g with
       |nil=>simp only;rw[d x (by rw[k];simp)]
       |cons u g=>rfl
     |cons y l=>cases g.toList with
      |nil=>rfl
      |cons t g=>cases g<;>rfl
   ·
    cases k:args.toList with
    |nil=>cases g.toList with
     |nil=>rfl
     |cons t g=>cases g<;>rfl
    |cons x l=>
     cases l with
     |nil=>
      cases g.toList with
      |nil=>rfl
      |cons t g=>
       cases g with
       |nil=>simp only;rw[d x (by rw[k];simp)]
       |cons u g=>rfl
     |cons y l=>cases g.toList with
      |nil=>rfl
      |cons t g=>cases g<;>rfl
   ·exact two (wU true)
   exact two (wU false)
 |_=>rfl
theorem adD {E:Env} {fr b:ah} {bx:List (Nat×ah)} {o:Oper} (h: ∀x∈o.op.operands.toList,nk E fr x=nk E b x):Kh E fr bx o=Kh E b bx o:=by
 unfold Kh;simp only;have e: ∀f:V→V,∀bx:List (Nat×ah),Uk E.P (fun x=>f (nk E fr x)) bx o=Uk E.P (fun x=>f (nk E b x)) bx o:=fun f bx=>adC fun x c=>by rw[h x c]
 have a:(o.op.operands.toList.any fun x=>(nk E fr x).QR)=o.op.operands.toList.any fun x=>(nk E b x).QR:=by
  rw[uF,Nk,Nk];constructor
  ·rintro⟨x,c,d⟩;exact⟨x,c,by rw[←h x c];exact d⟩
  rintro⟨x,c,d⟩;exact⟨x,c,by rw[h x c];exact d⟩
 rw[a,e V.old0 [],e V.Ef bx,e (fun x=>x) bx]
theorem VP {E:Env} {fr a:ah} {l:List Operand} (h: ∀t∈tmpsOf l,slot fr t=slot a t): ∀x∈l,nk E fr x=nk E a x:=by
 intro x b
 cases x with
 |tmp t=>exact h t (by unfold tmpsOf;rw[List.mem_filterMap];exact⟨_,b,rfl⟩)
 |_=>rfl
section
variable {E:Env} {B:Own} {G0:aW} {w0:World}
theorem Inv.drew {s:St} {g:Gh} {a:Act} {w:World} (h:Inv E B G0 w0 s g a w):Inv E B G0 w0 s g a {w with drawn:=w.drawn+1}:=
 ⟨h.fr,h.df,h.gok,h.own,h.bxs,⟨⟨h.mh.mh.os,h.mh.mh.tape,h.mh.mh.output,h.mh.mh.size,h.mh.mh.block⟩,h.mh.row⟩,h.hB,h.ext,h.glob,h.g1,h.zb⟩
theorem step_chg {ops:List Oper} {bx:List (Nat×ah)} {s u:St} {o:Oper} {d:Nat} (B:o.dst=some d) (h:wZ E ops (some bx) s o u):
  ∃c:tu,c.d=d∧u=c.app s∧ ∀S:St,ku ops S o=ku ops s o→Kh E S.fr bx o=Kh E s.fr bx o→S.bK d=true→S.mq d=true→wZ E ops (some bx) S o (c.app S):=by
 rcases h with⟨A,eff,K,a,l⟩|⟨A,rfl⟩
 ·simp only[Option.isSome_some,Ke] at a
  have g: ∀c:tu,c.d=d→u=c.app s→(∀S:St,S.bK d=true→S.mq d=true→Ij E true S o.dst eff (c.app S))→_:=fun c F w M=>
   (⟨c,F,w,fun S p G q z=> .inl ⟨p.trans A,eff,G.trans K,by simpa using a,M S q z⟩⟩: ∃c:tu,c.d=d∧u=c.app s∧ ∀S:St,ku ops S o=ku ops s o→Kh E S.fr bx o=Kh E s.fr bx o→S.bK d=true→S.mq d=true→wZ E ops (some bx) S o (c.app S))
  rw[B] at l g
  cases eff with
  |val v=>exact g ⟨d,v,none⟩ rfl l fun S _ _=>rfl
  |newSl e sh xs=>exact g ⟨d,.sl e sh none xs,none⟩ rfl l fun S _ _=>rfl
  |own e sh xs=>obtain⟨k,n,_,m,rfl⟩:=l;simp only[aT] at n;subst n;exact g ⟨d,.sl e sh (some d) xs,none⟩ rfl rfl fun S q _=>⟨d,rfl,S8 q,m,rfl⟩
  |app L e sh xs=>cases a
  |nW e I=>obtain⟨k,n,_,H,m,rfl⟩:=l;simp only[aT] at n;subst n;exact g ⟨d,.box d 0,some I⟩ rfl rfl fun S _ z=>⟨d,rfl,z,H,m,rfl⟩
  |put k off I=>cases a
  |call f args mb ml=>
   rcases l with⟨D,l⟩|⟨C,_⟩|⟨C,_⟩
   ·rcases l with⟨k,r,n,_,m,N,rfl⟩|⟨r,n,_⟩
    ·simp only[aT] at n
     subst n;exact g ⟨d,r.QS d,none⟩ rfl rfl fun S q _=> .inl ⟨D,.inl ⟨d,r,rfl,q,m,N,rfl⟩⟩
    cases n
   ·cases C
   cases C
  |qi v=>exact l.elim
  |pick b x y=>
   cases b with
   |true=>exact g ⟨d,x,none⟩ rfl l fun S _ _=>rfl
   |false=>exact g ⟨d,y,none⟩ rfl l fun S _ _=>rfl
  |Hf L e k ys=>cases a
  |ownz e sh xs c J t=>cases a
  |appz L e sh xs i c J t=>cases a
  |Hg L e sh xs i c L3 J t ys=>cases a
  |alts i vs=>obtain⟨j,v,F,w,rfl⟩:=l;exact g ⟨d,v,none⟩ rfl rfl fun S _ _=>⟨j,v,F,w,rfl⟩
 rw[B];exact⟨⟨d,.tup [],none⟩,rfl,rfl,fun S p _ _ _=> .inr ⟨p.trans A,by rw[B];rfl⟩⟩
theorem JF {ops:List Oper} {bx:List (Nat×ah)}: ∀(l:List Oper) (s p:St),(∀o∈l,∃d,o.dst=some d)→Trace E ops (some bx) l s p→
  ∃a:List tu,a.length=l.length∧(∀(i:Nat) o c,l[i]? =some o→a[i]? =some c→o.dst=some c.d∧
   ∃n,Alike n (bT (fun j=>decide (j<i)) a 0 s)∧n=bT (fun j=>decide (j<i)) a 0 s∧ ∀S:St,ku ops S o=ku ops n o→Kh E S.fr bx o=Kh E n.fr bx o→S.bK c.d=true→S.mq c.d=true→wZ E ops (some bx) S o (c.app S))∧
   p=bT (fun _=>true) a 0 s
 |[],s,p,_,h=>by cases h;exact⟨[],rfl,fun i o c h=>by simp at h,rfl⟩
 |o::l,s,p,A,h=>by
  cases h with
  |cons I D=>
   rename_i L;obtain⟨d,w⟩:=A o rf;obtain⟨c,v,rfl,m⟩:=step_chg w I;obtain⟨a,q,y,t⟩:=JF l _ p (fun x K=>A x (uO _ K)) D;have e: ∀(sel:Nat→Bool) (b:Nat→Bool) (k:Nat),(∀j,sel (j+1)=b j)→ ∀(a:List tu) (k:Nat) (s:St),bT sel a (k+1) s=bT b a k s:=by
    intro sel b _ r a;induction a with
    |nil=>intro k s;rfl
    |cons c a z=>intro k s;unfold bT;rw[r k,z]
   refine⟨c::a,by simp[q],?_,?_⟩
   ·intro i J C g f
    cases i with
    |zero=>
     simp only[Nh,aT] at g f;subst g;subst f;have u:bT (fun j=>decide (j<0)) (c::a) 0 s=s:=by
      have: ∀(a:List tu) (k:Nat) (s:St),bT (fun j=>decide (j<0)) a k s=s:=by
       intro a;induction a with
       |nil=>intro k s;rfl
       |cons c a z=>intro k s;unfold bT;rw[z];simp
      exact this _ _ _
     exact⟨by rw[w,v],s,by rw[u];exact .refl _,u.symm,by rw[v];exact m⟩
    |succ i=>
     simp only[abF] at g f;obtain⟨G,n,B,H,F⟩:=y i J C g f;have u:bT (fun j=>decide (j<i+1)) (c::a) 0 s=bT (fun j=>decide (j<i)) a 0 (c.app s):=by rw[bT];rw[if_pos (by simp)];exact e _ _ 0 (fun j=>by simp) a 0 _
     exact⟨G,n,by rw[u];exact B,by rw[u];exact H,F⟩
   rw[t,bT,if_pos rfl];exact(e (fun _=>true) (fun _=>true) 0 (fun j=>rfl) a 0 _).symm
theorem Mf {l:List Nat} (h:l.Nodup) {i j:Nat} (d:i<l.length) (c:j<l.length) (e:l[i]=l[j]):i=j:=by
 have b:=List.pairwise_iff_getElem.1 h;rcases Nat.lt_trichotomy i j with a|a|a
 ·exact absurd e (b i j d c a)
 ·exact a
 exact absurd e.symm (b j i c d a)
theorem Bc {α:Type} {l:List α} {p:α×Nat→Bool} (h:l.zipIdx.all p=true): ∀(i:Nat) (x:α),l[i]? =some x→p (x,i)=true:=by intro i x a;rw[lM] at h;exact h (x,i) (List.mem_zipIdx_iff_getElem?.2 a)
def Closed (ops:List Oper) (sel:Nat→Bool):Prop:=∀(j:Nat) o,ops[j]? =some o→sel j=true→ ∀e∈o.after,Region.binds .any e=true→sel e.on=true
theorem l5 {ops:List Oper} {sel:Nat→Bool} (c:Closed ops sel): ∀(n j i:Nat),waits ops n j i=true→sel j=true→sel i=true
 |0,_,_,h,_=>by cases h
 |n+1,j,i,h,g=>by
  unfold waits at h;split at h
  ·rename_i o d
   rw[Nk] at h;obtain⟨e,f,h⟩:=h;rw[bF,Kn,iJ] at h;have b:=c j o d g e (by simpa using f) h.1;rcases h.2 with a|a
   ·rw[←a];exact b
   exact l5 c n e.on i a b
  cases h
theorem B6 (sel:Nat→Bool): ∀(l:List tu) (k:Nat) (s:St) (p:Nat×ah),p∈(bT sel l k s).bx→p∈s.bx∨ ∃(j:Nat) (c:tu) (a:ah),l[j]? =some c∧sel (k+j)=true∧c.bx=some a∧p=(c.d,a)
 |[],k,s,p,h=> .inl h
 |c::l,k,s,p,h=>by
  unfold bT at h;rcases B6 sel l (k+1) _ p h with h|⟨j,f,a,n,e,g,m⟩
  ·split at h
   ·rename_i i
    unfold tu.app at h
    cases b:c.bx with
    |none=>rw[b] at h;exact .inl h
    |some a=>
     rw[b] at h;simp only[ZA] at h;rcases h with rfl|h
     ·exact .inr ⟨0,c,a,rfl,by simpa using i,b,rfl⟩
     exact .inl h
   exact .inl h
  exact .inr ⟨j+1,f,a,by simpa using n,by rw[show k+(j+1)=k+1+j by omega];exact e,g,m⟩
theorem PS (l:List tu): ∀(k:Nat) (s:St),(∀p∈s.bx,p∈(bT (fun _=>true) l k s).bx)∧ ∀(j:Nat) (c:tu) (a:ah),l[j]? =some c→c.bx=some a→(c.d,a)∈(bT (fun _=>true) l k s).bx:=by
 induction l with
 |nil=>intro k s;exact⟨fun p h=>h,fun j c a h=>by simp at h⟩
 |cons c l m=>
  intro k s;unfold bT;rw[if_pos rfl];obtain⟨f,i⟩:=m (k+1) (c.app s);refine⟨fun p e=>f p ?_,fun j n a b g=>?_⟩
  ·unfold tu.app
   cases c.bx with
   |none=>exact e
   |some a=>exact uO _ e
  cases j with
  |zero=>simp only[Nh,aT] at b;subst b;refine f _ ?_;unfold tu.app;rw[g];exact rf
  |succ j=>exact i j n a (by simpa using b) g
theorem qa {b:Bool} (h:b=false):aL b=true:=by subst h;rfl
theorem adE {ops:List Oper} {f:St} {a:List tu} {sel:Nat→Bool} (C:a.length=ops.length) (I: ∀(i:Nat) o c,ops[i]? =some o→a[i]? =some c→o.dst=some c.d) (U:(a.map (·.d)).Nodup) (hfr: ∀c∈a,c.d<f.fr.length)
  (k:lD ops f=true) (q:wW ops (bT (fun _=>true) a 0 f)=true) (R:Closed ops sel) {i:Nat} {c:tu} (T:a[i]? =some c) (n:sel i=false):
  (bT sel a 0 f).bK c.d=true∧(bT sel a 0 f).mq c.d=true:=by
 have M:i<ops.length:=by rw[←C];exact(List.getElem?_eq_some_iff.1 T).1
 have S:=iK M;have P:=I i _ c S T;unfold lD at k;rw[lM] at k;have k:=k _ (GV M);rw[P] at k;simp only[bF] at k;obtain⟨w,y⟩:=k;unfold wW at q;simp only at q;have q:=Bc q i _ S;simp only[P,bF] at q;obtain⟨K,E⟩:=q;have H: ∀t,t<f.fr.length→(slot (bT sel a 0 f).fr t).dW c.d=false∧(slot (bT sel a 0 f).fr t).gM c.d=false:=by
  intro t B;have h0:(slot f.fr t).dW c.d=false∧(slot f.fr t).gM c.d=false:=by
   have D:slot f.fr t∈f.fr:=by unfold slot;rw[l7,iK B];exact GV B
   exact⟨uj w _ D,IP y _ D⟩
  by_cases O: ∃u∈a,u.d=t
  ·obtain⟨u,D,rfl⟩:=O
   obtain⟨j,v⟩:=Zx D;have Y:j<ops.length:=by rw[←C];exact(List.getElem?_eq_some_iff.1 v).1
   have L:=iK Y;rw[p9 sel j a 0 f u (Ko _) (by simpa using v) U B];split
   ·rename_i g
    have b:=Bc K j _ L;simp only[I j _ u L v] at b;rw[p9 (fun _=>true) j a 0 f u (Ko _) (by simpa using v) U B,if_pos rfl] at b;simp only[Kn,bF,iJ] at b;rcases b with(b|b)|b
    ·subst b;rw[n] at g;cases g
    ·exact⟨fO b.1,fO b.2⟩
    have:=l5 R _ _ _ b g;rw[n] at this;cases this
   exact h0
  rw[nO sel t a 0 f fun u D e=>O ⟨u,D,e⟩];exact h0
 have m: ∀x∈(bT sel a 0 f).fr,x.dW c.d=false∧x.gM c.d=false:=by intro x l;obtain⟨t,B,rfl⟩:=acr l;have h:=H t (by rw[Me] at B;exact B);unfold slot at h;rw[l7,iK B] at h;exact h
 have F: ∀p∈(bT sel a 0 f).bx,p.1≠c.d∧ ∀x∈p.2,x.dW c.d=false∧x.gM c.d=false:=by
  intro p z;rcases B6 sel a 0 f p z with z|⟨j,u,ds,v,g,X,rfl⟩
  ·unfold St.bK at w
   unfold St.mq at y;simp only[bF,lM] at w y;have h1:=w.2 p z;have b:=y.2 p z;refine⟨fun e=>?_,fun x l=>⟨fO (h1 x l),fO (b.2 x l)⟩⟩;have:=fO b.1;rw[uD] at this;exact this e
  rw[T4] at g;have W:u.d≠c.d:=by
   intro e;have:i=j:=by
    have hil:i<(a.map (·.d)).length:=by rw[kS];exact(List.getElem?_eq_some_iff.1 T).1
    have G:j<(a.map (·.d)).length:=by rw[kS];exact(List.getElem?_eq_some_iff.1 v).1
    refine Mf U hil G ?_;simp only[aco];rw[(List.getElem?_eq_some_iff.1 T).2,(List.getElem?_eq_some_iff.1 v).2,e]
   subst this;rw[n] at g;cases g
  refine⟨W,?_⟩;have D:=(PS a 0 f).2 j u ds v X;rw[lM] at E;have b:=E _ D;simp only[Kn,lM,Nk,bF,iJ] at b;rcases b with b|⟨⟨Z,J⟩,V,Q,hw⟩
  ·exact fun x l=>⟨fO (b x l).1,fO (b x l).2⟩
  exfalso;have s:=List.mem_zipIdx_iff_getElem?.1 V;simp only at s Q hw;have hj'L:J<ops.length:=(List.getElem?_eq_some_iff.1 s).1;have A:J<a.length:=by omega
  have r:=I J Z _ s (iK A);rw[Q] at r;simp only[aT] at r;have:j=J:=by
   have G:j<(a.map (·.d)).length:=by rw[kS];exact(List.getElem?_eq_some_iff.1 v).1
   have N:J<(a.map (·.d)).length:=by rw[kS];exact A
   refine Mf U G N ?_;simp only[aco];rw[(List.getElem?_eq_some_iff.1 v).2,r]
  subst this;have:=l5 R _ _ _ hw g;rw[n] at this;cases this
 unfold St.bK St.mq;simp only[bF,lM];exact⟨⟨fun x l=>qa (m x l).1,fun p z x l=>qa ((F p z).2 x l).1⟩,⟨fun x l=>qa (m x l).2,fun p z=>⟨qa (by rw[uD];exact(F p z).1),fun x l=>qa ((F p z).2 x l).2⟩⟩⟩
end
end Nt.Ev
