/-
  From operations to states: what an operation's effect leaves true.
-/
import Derived.Test.YtcmockbdkppglaaDoorMAA
set_option linter.all false
namespace Nt.Ev
open Go Go.RowKit
def nZ:V→Bool
 | .sl _ _ (some _) _=>true
 |_=>false
def jO (G:aI) (w:World) (B:Nat→Prop):V→Value→Prop
 | .sl e sh (some _) xs,v=>gq G w B e sh xs v
 |x,v=>aJ G x v
def d9 (G:aI) (w:World) (B:Nat→Prop):V→Value→Prop
 | .tup vs,v=>∃a:List Value,v=.tuple a.toArray∧PW (jO G w B) vs a∧vs.countP nZ≤1
 |x,v=>jO G w B x v
def ak (E:Env) (f:Nat) (args:af) (r:V):Prop:=
 ∀(G:aI) (w:World) (vs:List Value),sU G w→jQ E G w→PW (aJ G) args vs→
  Calls E.P f vs.toArray w fun e w'=>∃v G',e=.returned v∧New w w' G G'∧d9 G' w' (w.heap.size≤ ·) r v
def XC (E:Env) (f:Nat) (args:af) (p:Bool) (x:V) (bs:List (af)):Prop:=
 ∀(B:Own) (g:Gh) (w:World) (vs:List Value),B.df=[]→Inv E B g.G w ⟨bg 0 args,bZ 0 args⟩ g ⟨vs.toArray,[]⟩ w→
  Calls E.P f vs.toArray w fun e w'=>∃g' v,e=(match p with|false=> .returned v|true=> .panicked [{v:=v,recovered:=false}])∧Inv E B g.G w ⟨[x],dW 0 args bs⟩ g' ⟨#[v],[]⟩ w'
def keepR (p:Bool) (x:V) (v:Value):Prop:=
 match p with
 |true=>bG x=some v
 |false=>OH x=true∧(match x with| .tup []=>v=.tuple #[]|x=>aJ (fun _=>none) x v)
def KC (E:Env) (f:Nat) (args:af) (p:Bool) (x:V):Prop:=
 ∀(B:Own) (g:Gh) (w:World) (vs:List Value),B.df=[]→Inv E B g.G w ⟨bg 0 args,bZ 0 args⟩ g ⟨vs.toArray,[]⟩ w→
  Calls E.P f vs.toArray w fun e w'=>∃v,e=(match p with|false=> .returned v|true=> .panicked [{v:=v,recovered:=false}])∧keepR p x v∧Below w.heap.size w w'
def zQ (E:Env) (dr:Bool) (s:St) (d:Option Nat) (eff:Eff) (s':St):Prop:=
 match eff with
 | .val v=>s'=s.put d v
 | .newSl e sh xs=>s'=s.put d (.sl e sh none xs)
 | .own e sh xs=>∃k,d=some k∧(s.put (some k) .any).aV k=true∧k<HL∧s'=s.put (some k) (.sl e sh (some k) xs)
 | .app L e sh xs=>∃k,d=some k∧(s.kill L).aV (dZ true L k)=true∧k<HL∧s'=(s.kill L).put (some k) (.sl e sh (some (dZ true L k)) xs)
 | .kN _ g=>∃k,d=some k∧s.iG k=true∧g.all (fun v=>aS (v.fB k))=true∧k<HL∧s'=⟨s.fr.set k (.box k 0),(k,g)::s.bx⟩
 | .put k off g=>∃old,aj s.bx k=some old∧(iF (over old off g)=true→iF old=true)∧s'=St.put ⟨s.fr,fH s.bx k (over old off g)⟩ d (.tup [])
 | .call f args mb ml=>(fV args=false∧((∃k r,d=some k∧s.aV k=true∧k<HL∧ak E f (args.map V.qK) r∧s'=s.put (some k) (r.FD k))∨(∃r,d=none∧ak E f (args.map V.qK) r∧s'=s)))∨
  (dr=false∧ ∃x bs,XC E f args false x bs∧lJ s d mb ml x bs=some s')∨(dr=false∧ ∃x,KC E f args false x∧s'=s.put d x)
 | .jN _=>False
 | .pick b x y=>s'=s.put d (match b with|true=>x|false=>y)
 | .zu L e k ys=>L<HL∧s'=St.put (s.forget.upd L e k ys) d (.tup [])
 | .alts i vs=>∃(j:Nat) (v:V),i=(j:Int)∧vs[j]? =some v∧s'=s.put d v
 | .ownz e sh xs c h a=>∃k,d=some k∧(s.put (some k) .any).aV k=true∧(s.put (some k) .any).aV (dz k)=true∧dz k<HL∧s'=s.put (some k) (.slz k e sh xs (some (dz k)) 0 c h a [])
 | .appz L e sh xs i c h a=>∃k,d=some k∧(s.kill L).aV (dZ true L k)=true∧(s.kill L).aV (dz k)=true∧dz k<HL∧s'=(s.kill L).put (some k) (.slz (dZ true L k) e sh xs (some (dz k)) i c h a [])
 | .zw L e sh xs i c L3 h a ys=>s'=(s.vC L e sh xs i c L3 h a ys).put d (.tup [])
def D7 (E:Env) (s:St) (eff:Eff) (v:V) (s':St):Prop:=
 (∃u,bG v=some u)∧match eff with
 | .call f args mb ml=>(∃bs,XC E f args true v bs∧lJ s none mb ml v bs=some s')∨(KC E f args true v∧s'=s)
 | .jN a=>a=v∧s'=s
 |_=>False
def nH:V→Bool
 | .out _ _ _=>true
 | .keep _ _=>true
 |_=>false
def fM (E:Env) {α:Type} (call:Caller α):Prop:=∀f args (K:V→Option α) r,call f args K=some r→ ∃v,K v=some r∧((nH v=false∧ak E f (args.map V.qK) v)∨(∃p x bs,v=.out p x bs∧XC E f args p x bs)∨ ∃p x,v=.keep p x∧KC E f args p x)
theorem CG {α:Type} {i:Int} {K:V→Option α} {r:α}: ∀(vs:af) (a:Nat),SB i K a vs=some r→ ∃(j:Nat) (v:V),i=((a+j:Nat):Int)∧vs[j]? =some v∧K v=some r
 |[],a,h=>by cases h
 |v::l,a,h=>by
  unfold SB at h
  cases b:ieq i (a:Int) with
  |true=>
   rw[b] at h;have e:i=(a:Int):=by unfold ieq at b;simpa using b
   exact⟨0,v,by simpa using e,rfl,h⟩
  |false=>
   rw[b] at h;obtain⟨j,c,f,d,h3⟩:=CG l (a+1) h;exact⟨j+1,c,by rw[f];congr 1;omega,by simpa using d,h3⟩
theorem ig {d n:Nat} (h:Nat.blt d n=true):d<n:=by rwa [zm] at h
theorem Qg {E:Env} {α:Type} {call:Caller α} (C:fM E call) {dr:Bool} {s:St} {d:Option Nat} {eff:Eff} {K:St→Option α} {KP:V→St→Option α} {r:α} (h:VU dr call s d eff K KP=some r):
  (∃s',zQ E dr s d eff s'∧K s'=some r)∨(dr=false∧ ∃v s',D7 E s eff v s'∧KP v s'=some r):=by
 cases eff with
 |val v=>exact .inl ⟨_,rfl,h⟩
 |newSl e sh xs=>exact .inl ⟨_,rfl,h⟩
 |own e sh xs=>
  cases d with
  |none=>cases h
  |some k=>obtain⟨a,g⟩:=au h;rw[bB] at a;exact .inl ⟨_,⟨k,rfl,a.1,ig a.2,rfl⟩,g⟩
 |app L e sh xs=>
  cases d with
  |none=>cases h
  |some k=>obtain⟨a,g⟩:=au h;rw[bB] at a;exact .inl ⟨_,⟨k,rfl,a.1,ig a.2,rfl⟩,g⟩
 |kN e A=>
  cases d with
  |none=>cases h
  |some k=>obtain⟨a,g⟩:=au h;rw[bB,bB] at a;exact .inl ⟨_,⟨k,rfl,a.1.1,a.1.2,ig a.2,rfl⟩,g⟩
 |put k off A=>
  unfold VU at h;simp only at h;split at h
  ·rename_i old q;obtain⟨h,z⟩:=I1 h;exact .inl ⟨_,⟨old,q,z,rfl⟩,h⟩
  ·cases h
 |call f args mb ml=>
  obtain⟨v,a,g⟩:=C f args _ r h;rcases g with⟨q,g⟩|⟨p,x,bs,rfl,g⟩|⟨p,x,rfl,g⟩
  ·have h3:(bif fV args then none else(match d with
    |some d=>bif s.aV d&&Nat.blt d HL then K (s.put (some d) (v.FD d)) else none
    |none=>K s))=some r:=by
    cases v<;>first|exact a|cases q
   cases o:fV args with
   |true=>rw[o] at h3;cases h3
   |false=>
    rw[o,fQ] at h3
    cases d with
    |none=>exact .inl ⟨s,.inl ⟨o,.inr ⟨v,rfl,g,rfl⟩⟩,h3⟩
    |some k=>
     obtain⟨l,B⟩:=au h3;rw[bB] at l;exact .inl ⟨_,.inl ⟨o,.inl ⟨k,v,rfl,l.1,ig l.2,g,rfl⟩⟩,B⟩
  ·cases dr with
   |true=>cases a
   |false=>
    cases p with
    |true=>
     have a:(match lJ s none mb ml x bs with
      |some s'=>(match bG x with|some _=>KP x s'|none=>none)
      |none=>none)=some r:=a
     split at a
     ·rename_i s' t
      split at a
      ·rename_i u n
       exact .inr ⟨rfl,x,s',⟨⟨u,n⟩,.inl ⟨bs,g,t⟩⟩,a⟩
      ·cases a
     ·cases a
    |false=>
     have a:(match lJ s d mb ml x bs with
      |some s'=>K s'
      |none=>none)=some r:=a
     split at a
     ·rename_i s' t
      exact .inl ⟨s',.inr (.inl ⟨rfl,x,bs,g,t⟩),a⟩
     ·cases a
  ·cases dr with
   |true=>cases a
   |false=>
    cases p with
    |true=>
     have a:(match bG x with|some _=>KP x s|none=>none)=some r:=a;split at a
     ·rename_i u n
      exact .inr ⟨rfl,x,s,⟨⟨u,n⟩,.inr ⟨g,rfl⟩⟩,a⟩
     ·cases a
    |false=>
     have a:(bif OH x then K (s.put d x) else none)=some r:=a;obtain⟨h3,l⟩:=au a;exact .inl ⟨_,.inr (.inr ⟨rfl,x,g,rfl⟩),l⟩
 |jN v=>
  cases dr with
  |true=>cases h
  |false=>
   have h:(match bG v with|some _=>KP v s|none=>none)=some r:=h;split at h
   ·rename_i u n
    exact .inr ⟨rfl,v,s,⟨⟨u,n⟩,rfl,rfl⟩,h⟩
   ·cases h
 |pick b x y=>cases b<;>exact .inl ⟨_,rfl,h⟩
 |zu L e k ys=>obtain⟨a,g⟩:=au h;exact .inl ⟨_,⟨ig a,rfl⟩,g⟩
 |alts i vs=>
  obtain⟨j,v,a,g,h3⟩:=CG vs 0 h;exact .inl ⟨_,⟨j,v,by simpa using a,g,rfl⟩,h3⟩
 |ownz e sh xs c w m=>
  cases d with
  |none=>cases h
  |some k=>obtain⟨a,g⟩:=au h;rw[bB,bB] at a;exact .inl ⟨_,⟨k,rfl,a.1,a.2.1,ig a.2.2,rfl⟩,g⟩
 |appz L e sh xs i c w m=>
  cases d with
  |none=>cases h
  |some k=>obtain⟨a,g⟩:=au h;rw[bB,bB] at a;exact .inl ⟨_,⟨k,rfl,a.1,a.2.1,ig a.2.2,rfl⟩,g⟩
 |zw L e sh xs i c L3 w m ys=>exact .inl ⟨_,rfl,h⟩
section
variable {E:Env} {B:Own} {G0:aI} {w0:World} {s:St} {g:Gh} {a:Act} {w:World}
theorem uK (a:Act) (d:Nat) (u:Value):(a.put (some d) u).tmps.toList=a.tmps.toList.set d u:=by
 simp[Act.put]
theorem Inv.put (h:Inv E B G0 w0 s g a w) (d:Option Nat) {v:V} {u:Value} (b:aB g v u):Inv E B G0 w0 (s.put d v) g (a.put d u) w:=by
 cases d with
 |none=>exact⟨h.fr,h.df,h.gok,h.own,h.bxs,h.gN,h.hB,h.ext,h.glob,h.g1,h.zb⟩
 |some d=>exact⟨by rw[uK];exact h.fr.set d b,h.df,h.gok,h.own,h.bxs,h.gN,h.hB,h.ext,h.glob,h.g1,h.zb⟩
theorem Qh {w':World} {G G':aI} (c:sU G w) (h:New w w' G G'):jB G G':=fun b l a=>⟨l,by rw[h.2.1 b (dU c a)];exact a,IC _⟩
theorem rG (m:sU g.G w) (j:E9 B g w) {L:Nat} {v:Value} {e d b:Nat} (h:g.O L=some (v,e,d)) (a:v.ownBlock=some b):b<w.heap.size:=by
 rcases(j.1 L v e d h).2 with c|⟨k,n,cap,f,l,c,_,i,_⟩
 ·rw[c] at a;cases a
 ·rw[c] at a
  simp[Value.ownBlock] at a;subst a;exact(Array.getElem?_eq_some_iff.1 i).1
theorem CJ (k:E9 B g w) {L:Nat} {v:Value} {e f b:Nat} (h:g.O L=some (v,e,f)) (a:v.ownBlock=some b): ∃c e fr,w.heap[b]? =some (.cells c e fr):=by
 rcases(k.1 L v e f h).2 with d|⟨m,n,cap,i,l,d,_,j,_⟩
 ·rw[d] at a;cases a
 ·rw[d] at a
  simp[Value.ownBlock] at a;subst a;exact⟨_,_,_,j⟩
theorem Inv.new {w':World} {G':aI} (h:Inv E B G0 w0 s g a w) (f:New w w' g.G G'):Inv E B G0 w0 s {g with G:=G'} a w'∧Ext g {g with G:=G'}:=by
 have z:=Qh h.gok f;have u:Ext g {g with G:=G'}:=⟨z,fun _ _ h=>h,fun L v e y b hL i=>f.2.1 b (rG h.gok h.own hL i),fun _ _ h=>h,rfl,fun _ _ _=>rfl⟩
 refine⟨⟨h.fr.mono fun x _ v=>nI u,h.df,f.2.2,⟨fun L v e y hL=>?_,h.own.2⟩,⟨fun k F C=>?_,h.bxs.2⟩,h.gN.trans (jm.of_below f.1 h.hB.2),yN h.hB f.1.size,⟨fun b i=>(f.2.1 b (N9 fun e=>i (h.hB.2 b e))).trans (h.ext.1 b i),h.ext.2.1.trans z,h.ext.2.2⟩,h.glob,h.g1,h.zb⟩,u⟩
 ·obtain⟨H,A⟩:=h.own.1 L v e y hL
  refine⟨H,A.imp id ?_⟩;rintro⟨b,n,cap,q,l,K,i,m,r,o,t,j,hl⟩;have d:=(Array.getElem?_eq_some_iff.1 m).1;exact⟨b,n,cap,q,l,K,i,by rw[f.1.block b d];exact m,r,o,t,j.keep rfl (f.2.1 b d),hl⟩
 ·obtain⟨b,c,e,i,p,m,I,J,j,D⟩:=h.bxs.1 k F C
  have d:=(Array.getElem?_eq_some_iff.1 m).1;exact⟨b,c,e,i,p,by rw[f.1.block b d];exact m,I.mono fun x _ v=>nI u,J,by show G' b=_;rw[f.2.1 b d];exact j,D⟩
theorem S9 {g:Gh} {O':Nat→Option (Value×Nat×Nat)} {C':Nat→Option (List Value)} {d:Nat} (m: ∀L,L≠d→O' L=g.O L) {l:List Value} {f:Nat} {o2:Option Nat} {i:Int} {c j:Nat} {a:List Kd} {ys:af} (hx:XU d o2=false) (h:nG g l f o2 i c j a ys):nG {g with O:=O',C:=C'} l f o2 i c j a ys:=by
 cases o2 with
 |none=>trivial
 |some L2=>
  have b:L2≠d:=fun e=>by subst e;simp[XU] at hx
  obtain⟨n,o,k⟩:=h;exact⟨n,(m L2 b).trans o,k⟩
theorem I5 {g:Gh} {O':Nat→Option (Value×Nat×Nat)} {C':Nat→Option (List Value)} {d:Nat} (k: ∀L,L≠d→O' L=g.O L) (n: ∀L,L≠d→C' L=g.C L) {x:V} {v:Value} (hx:gT d x=false) (h:aX g x v):aX {g with O:=O',C:=C'} x v:=by
 cases x with
 |sl e sh q xs=>
  cases q with
  |none=>exact h
  |some L=>
   have a:L≠d:=fun e=>by subst e;simp[gT] at hx
   exact⟨(k L a).trans h.1,h.2⟩
 |eptr L e sh xs i off=>
  have a:L≠d:=fun e=>by subst e;simp[gT] at hx
  obtain⟨m,b,j,f⟩:=h;exact⟨m,b,(k L a).trans j,f⟩
 |slz L e sh xs o2 i c r p ys=>
  have hx:(d==L||XU d o2)=false:=hx;rw[zi] at hx;have a:L≠d:=fun e=>by subst e;simp at hx
  obtain⟨l,j,f,h3,o⟩:=h;exact⟨l,(k L a).trans j,(n L a).trans f,h3,S9 k hx.2 o⟩
 |epz L e s i off=>
  have a:L≠d:=fun e=>by subst e;simp[gT] at hx
  obtain⟨m,b,l,j,f,h3⟩:=h;exact⟨m,b,l,(k L a).trans j,(n L a).trans f,h3⟩
 |_=>exact h
theorem D8 {g:Gh} {O':Nat→Option (Value×Nat×Nat)} {C':Nat→Option (List Value)} {d:Nat} (j: ∀L,L≠d→O' L=g.O L) (b: ∀L,L≠d→C' L=g.C L) {x:V} {v:Value} (hx:x.cr d=false) (h:aB g x v):aB {g with O:=O',C:=C'} x v:=by
 cases x with
 |tup vs=>
  obtain⟨a,rfl,h⟩:=h;simp only[V.cr,Oj] at hx;exact⟨a,rfl,h.mono fun y e v i=>I5 j b (by have:=hx y e;simpa using this) i⟩
 |fn f c=>
  obtain⟨a,rfl,h⟩:=h;simp only[V.cr,Oj] at hx;exact⟨a,rfl,h.mono fun y e v i=>I5 j b (by have:=hx y e;simpa using this) i⟩
 |_=>simp only[aB] at h⊢;exact I5 j b hx h
theorem dX {b:Bool} (h:aS b=true):b=false:=by cases b;rfl;cases h
theorem oH {d:Nat} (h:s.aV d=true): ∀x∈s.fr,x.cr d=false:=by
 unfold St.aV at h;rw[bB,jJ] at h;exact fun x hx=>dX (h.1 x hx)
theorem iK: ∀(l:List (Nat×af)) (k:Nat) (a:af),aj l k=some a→(k,a)∈l
 |[],k,a,h=>by cases h
 |(j,c)::l,k,a,h=>by
  unfold aj at h
  cases b:j==k with
  |true=>
   rw[b] at h;simp only[gY,aF] at h;rw[fT] at b;subst b;subst h;exact sS
  |false=>
   rw[b] at h;simp only[fQ] at h;exact vg _ (iK l k a h)
theorem rY {d:Nat} (h:s.aV d=true): ∀k a,aj s.bx k=some a→ ∀x∈a,x.cr d=false:=by
 intro k a c x hx;unfold St.aV at h;rw[bB,jJ,jJ] at h;have b:=h.2 _ (iK _ _ _ c);simp only[jJ] at b;exact dX (b x hx)
theorem Ho {d:Nat} (h:s.aV d=true):(s.put (some d) .any).aV d=true:=by
 unfold St.aV at h⊢;rw[bB,jJ] at h⊢;refine⟨fun x hx=>?_,h.2⟩;rcases List.mem_or_eq_of_mem_set hx with a|rfl
 ·exact h.1 x a
 ·rfl
theorem Inv.I6 (h:Inv E B G0 w0 s g a w) {d e:Nat} {sh:List Kd} {xs:af} {u:Value} (hd:s.aV d=true) (q:gq g.G w (B.ok d) e sh xs u)
  (R: ∀L v e j b,g.O L=some (v,e,j)→L≠d→v.ownBlock=some b→u.ownBlock≠some b):
  ∃g',g'.G=g.G∧Inv E B G0 w0 s g' a w∧aX g' (.sl e sh (some d) xs) u∧ ∀L,L≠d→g'.O L=g.O L∧g'.C L=g.C L:=by
 let O':Nat→Option (Value×Nat×Nat):=fun L=>if L=d then some (u,e,sh.length) else g.O L
 let C':Nat→Option (List Value):=fun L=>if L=d then none else g.C L
 have i: ∀L,L≠d→O' L=g.O L:=fun L hL=>if_neg hL
 have z: ∀L,L≠d→C' L=g.C L:=fun L hL=>if_neg hL
 have hbG: ∀k t b,aj s.bx k=some t→g.β k=some b→g.G b=none:=fun k t b K f=>by
  obtain⟨b',_,_,T,_,_,_,_,q6,_⟩:=h.bxs.1 k t K;rw[f] at T;simp only[aF] at T;rw[T];exact q6
 refine⟨{g with O:=O',C:=C'},rfl,⟨h.fr.mono fun x hx v=>D8 i z (oH hd x hx),h.df,h.gok,⟨?_,?_⟩,⟨fun k t K=>?_,h.bxs.2⟩,h.gN,h.hB,h.ext,h.glob,h.g1,?_⟩,⟨if_pos rfl,?_⟩,fun L hL=>⟨i L hL,z L hL⟩⟩
 ·intro L v A j hL
  by_cases IE:L=d
  ·subst IE
   have hL:(if L=L then some (u,e,sh.length) else g.O L)=some (v,A,j):=hL;rw[if_pos rfl] at hL;simp only[aF,bP] at hL;obtain⟨rfl,rfl,rfl⟩:=hL;refine⟨q.1,?_⟩;rcases q.2 with⟨q,_⟩|⟨b,cap,o,l,J,f,Q,m,r,D,F,hl,hE⟩
   ·exact .inl q
   ·exact .inr ⟨b,_,cap,o,l,J,f,Q,m,r,D,kz.mk0 (if_pos rfl) F,hl⟩
  ·have hL:O' L=some (v,A,j):=hL
   rw[i L IE] at hL;obtain⟨T,q2⟩:=h.own.1 L v A j hL;refine⟨T,q2.imp id ?_⟩;rintro⟨b,n,cap,o,l,J,f,Q,Y,r,D,S,hl⟩;exact⟨b,n,cap,o,l,J,f,Q,Y,r,D,S.keep (z L IE) rfl,hl⟩
 ·intro L L' v X W U j y b M H f P
  have M:O' L=some (v,W,j):=M;have H:O' L'=some (X,U,y):=H;by_cases hL:L=d<;>by_cases p:L'=d
  ·rw[hL,p]
  ·subst hL
   have N:(if L=L then some (u,e,sh.length) else g.O L)=some (v,W,j):=M;rw[if_pos rfl] at N;simp only[aF,bP] at N;rw[i L' p] at H;exact absurd (by rw[N.1];exact f) (R L' X U y b H p P)
  ·subst p
   have I:(if L'=L' then some (u,e,sh.length) else g.O L')=some (X,U,y):=H;rw[if_pos rfl] at I;simp only[aF,bP] at I;rw[i L hL] at M;exact absurd (by rw[I.1];exact P) (R L v W j b M hL f)
  ·rw[i L hL] at M
   rw[i L' p] at H;exact h.own.2 L L' v X W U j y b M H f P
 ·obtain⟨b,c,A,f,Z,Q,hp,ho,F,hq⟩:=h.bxs.1 k t K
  exact⟨b,c,A,f,Z,Q,hp.mono fun x hx v=>D8 i z (rY hd k t K x hx),ho,F,hq⟩
 ·intro k t L v A j b K hL f hβ
  have hL:O' L=some (v,A,j):=hL;by_cases IE:L=d
  ·subst IE
   have hL:(if L=L then some (u,e,sh.length) else g.O L)=some (v,A,j):=hL;rw[if_pos rfl] at hL;simp only[aF,bP] at hL;obtain⟨rfl,rfl,rfl⟩:=hL;have hn:=hbG k t b K hβ;rcases q.2 with⟨q,_⟩|⟨b',cap,o,l,J,_,_,_,_,_,F,_⟩
   ·rw[q] at f;cases f
   ·rw[J] at f
    simp only[Value.ownBlock,aF] at f;subst f;rw[hn] at F;cases F
  ·rw[i L IE] at hL
   exact h.zb k t L v A j b K hL f hβ
 ·rcases q.2 with⟨q,hx⟩|⟨b,cap,o,l,J,f,Q,m,r,D,F,hl,hE⟩
  ·exact .inl ⟨q,hx⟩
  ·exact .inr ⟨b,cap,l,J,m,F,hl,hE⟩
theorem Inv.label (h:Inv E B G0 w0 s g a w) {d e:Nat} {sh:List Kd} {xs:af} {u:Value} (f:s.aV d=true) (k:gq g.G w (B.ok d) e sh xs u)
  (c: ∀L v e i b,g.O L=some (v,e,i)→L≠d→v.ownBlock=some b→u.ownBlock≠some b):
  ∃g',g'.G=g.G∧Inv E B G0 w0 s g' a w∧aX g' (.sl e sh (some d) xs) u:=by
 obtain⟨g',l,j,h3,_⟩:=h.I6 f k c;exact⟨g',l,j,h3⟩
theorem FZ (L e:Nat) (sh:List Kd) (k:Nat) (xs:af):qP L (.sl e sh (some k) xs)=bif L==k then .sl e sh none xs else .sl e sh (some k) xs:=rfl
theorem AQ (L k e:Nat) (sh:List Kd) (xs:af) (i:Int) (off:Nat):qP L (.eptr k e sh xs i off)=bif L==k then .any else .eptr k e sh xs i off:=rfl
theorem CK (L k e:Nat) (sh:List Kd) (xs:af) (o2:Option Nat) (i:Int) (c b:Nat) (a:List Kd) (ys:af):qP L (.slz k e sh xs o2 i c b a ys)=bif L==k then .any else .slz k e sh xs (Kr L o2) i c b a ys:=rfl
theorem CL (L k e a:Nat) (i:Int) (off:Nat):qP L (.epz k e a i off)=bif L==k then .any else .epz k e a i off:=rfl
theorem j6 {g:Gh} {O':Nat→Option (Value×Nat×Nat)} {L:Nat} (m: ∀k,k≠L→O' k=g.O k) {x:V} {v:Value} (h:aX g x v):aX {g with O:=O'} (qP L x) v:=by
 cases x with
 |sl e sh u xs=>
  cases u with
  |none=>exact h
  |some k=>
   rw[FZ];by_cases a:L=k
   ·have:(L==k)=true:=by simpa using a
    rw[this];show aJ g.G (V.sl e sh none xs) v;exact lM h.2
   ·have:(L==k)=false:=by simpa using a
    rw[this];exact⟨(m k (fun e=>a e.symm)).trans h.1,h.2⟩
 |eptr k e sh xs i off=>
  rw[AQ];by_cases a:L=k
  ·have:(L==k)=true:=by simpa using a
   rw[this];show aJ g.G V.any v;unfold aJ;trivial
  ·have:(L==k)=false:=by simpa using a
   rw[this];obtain⟨o,b,j,f⟩:=h;exact⟨o,b,(m k (fun e=>a e.symm)).trans j,f⟩
 |slz k e sh xs o2 i c s n ys=>
  rw[CK];by_cases a:L=k
  ·have:(L==k)=true:=by simpa using a
   rw[this];show aJ g.G V.any v;unfold aJ;trivial
  ·have:(L==k)=false:=by simpa using a
   rw[this];obtain⟨l,j,f,h3,p⟩:=h;refine⟨l,(m k (fun e=>a e.symm)).trans j,f,h3,?_⟩
   cases o2 with
   |none=>trivial
   |some L2=>
    by_cases d:L=L2
    ·subst d
     show nG _ l sh.length (bif L==L then none else some L) i c s n ys;rw[E8];trivial
    ·have r:Kr L (some L2)=some L2:=by
      show(bif L==L2 then none else some L2)=some L2;rw[beq_eq_false_iff_ne.2 d];rfl
     rw[r];obtain⟨t,q,w⟩:=p;exact⟨t,(m L2 (fun e=>d e.symm)).trans q,w⟩
 |epz k e y i off=>
  rw[CL];by_cases a:L=k
  ·have:(L==k)=true:=by simpa using a
   rw[this];show aJ g.G V.any v;unfold aJ;trivial
  ·have:(L==k)=false:=by simpa using a
   rw[this];obtain⟨o,b,l,j,f⟩:=h;exact⟨o,b,l,(m k (fun e=>a e.symm)).trans j,f⟩
 |_=>exact h
theorem F3 {g:Gh} {O':Nat→Option (Value×Nat×Nat)} {L:Nat} (c: ∀k,k≠L→O' k=g.O k) {xs:af} {vs:List Value} (h:PW (aX g) xs vs):PW (aX {g with O:=O'}) (xs.map (qP L)) vs:=by
 refine⟨by simp[h.1],fun i x v hx b=>?_⟩;rw[qa] at hx
 cases a:xs[i]? with
 |none=>rw[a] at hx;cases hx
 |some y=>
  rw[a] at hx;simp only[qJ,aF] at hx;subst hx;exact j6 c (h.2 i y v a b)
theorem dm {R R':V→Value→Prop} {f:V→V} {xs:af} {vs:List Value} (h:PW R xs vs) (b: ∀z∈xs,∀v,R z v→R' (f z) v):PW R' (xs.map f) vs:=by
 refine⟨by simp[h.1],fun i x v hx c=>?_⟩;rw[qa] at hx
 cases a:xs[i]? with
 |none=>rw[a] at hx;cases hx
 |some y=>
  rw[a] at hx;simp only[qJ,aF] at hx;subst hx;exact b y (Bz a) v (h.2 i y v a c)
theorem lg {L:Nat} {x:V} (h:x.single=true):(qP L x).single=true:=by
 cases x with
 |sl e sh b xs=>
  cases b with
  |none=>rfl
  |some k=>rw[FZ];cases L==k<;>rfl
 |eptr k e sh xs i off=>rw[AQ];cases L==k<;>rfl
 |slz k e sh xs o2 i c f a ys=>rw[CK];cases L==k<;>rfl
 |epz k e d i off=>rw[CL];cases L==k<;>rfl
 |tup _=>cases h
 |fn _ _=>cases h
 |_=>rfl
theorem MV {g:Gh} {O':Nat→Option (Value×Nat×Nat)} {L:Nat} (d: ∀k,k≠L→O' k=g.O k) {x:V} {v:Value} (h:aB g x v):aB {g with O:=O'} (x.kill L) v:=by
 cases x with
 |tup vs=>obtain⟨a,rfl,h⟩:=h;exact⟨a,rfl,F3 d h⟩
 |fn f c=>obtain⟨a,rfl,h⟩:=h;exact⟨a,rfl,F3 d h⟩
 |sl e sh n xs=>
  have b:=j6 (L:=L) d (aL rfl h);exact aW (lg rfl) b
 |eptr k e sh xs i off=>
  have b:=j6 (L:=L) d (aL (x:=.eptr k e sh xs i off) rfl h);exact aW (lg (x:=.eptr k e sh xs i off) rfl) b
 |slz k e sh xs o2 i c l j ys=>
  have b:=j6 (L:=L) d (aL (x:=.slz k e sh xs o2 i c l j ys) rfl h);exact aW (lg (x:=.slz k e sh xs o2 i c l j ys) rfl) b
 |epz k e m i off=>
  have b:=j6 (L:=L) d (aL (x:=.epz k e m i off) rfl h);exact aW (lg (x:=.epz k e m i off) rfl) b
 |_=>simp only[aB] at h⊢;exact j6 d h
theorem KO {g:Gh} {O':Nat→Option (Value×Nat×Nat)} {L:Nat} (c: ∀k,k≠L→O' k=g.O k) {xs:af} {vs:List Value} (h:PW (aB g) xs vs):PW (aB {g with O:=O'}) (xs.map (V.kill L)) vs:=by
 refine⟨by simp[h.1],fun i x v hx b=>?_⟩;rw[qa] at hx
 cases a:xs[i]? with
 |none=>rw[a] at hx;cases hx
 |some y=>
  rw[a] at hx;simp only[qJ,aF] at hx;subst hx;exact MV c (h.2 i y v a b)
theorem fe (f:af→af): ∀(l:List (Nat×af)) (k:Nat),aj (l.map fun(k,cs)=>(k,f cs)) k=(aj l k).map f
 |[],k=>rfl
 |(j,a)::l,k=>by
  simp only[yJ,aj]
  cases j==k
  ·exact fe f l k
  ·rfl
theorem lu (s:St) (L k:Nat):aj (s.kill L).bx k=(aj s.bx k).map (List.map (V.kill L)):=fe _ _ _
theorem Inv.kill (h:Inv E B G0 w0 s g a w) (L:Nat):Inv E B G0 w0 (s.kill L) {g with O:=fun k=>if k=L then none else g.O k} a w:=by
 have A: ∀k,k≠L→(if k=L then none else g.O k)=g.O k:=fun k d=>if_neg d
 refine⟨KO A h.fr,h.df,h.gok,⟨fun k v e l d=>?_,fun k m v x e z l o b j f=>?_⟩,⟨fun k y d=>?_,fun k m y F j f=>?_⟩,h.gN,h.hB,h.ext,h.glob,h.g1,fun k y L' v e l b d hL q=>?_⟩
 ·have d:(if k=L then none else g.O k)=some (v,e,l):=d
  split at d
  ·cases d
  ·exact h.own.1 k v e l d
 ·have j:(if k=L then none else g.O k)=some (v,e,l):=j
  have f:(if m=L then none else g.O m)=some (x,z,o):=f;split at j
  ·cases j
  ·split at f
   ·cases f
   ·exact h.own.2 k m v x e z l o b j f
 ·rw[lu] at d
  cases i:aj s.bx k with
  |none=>rw[i] at d;cases d
  |some n=>
   rw[i] at d;simp only[qJ,aF] at d;subst d;obtain⟨b,c,e,q,r,G,C,D,H,u⟩:=h.bxs.1 k n i;exact⟨b,c,e,q,r,G,KO A C,D,H,jf (ME _) u⟩
 ·rw[lu] at j f
  cases i:aj s.bx k with
  |none=>rw[i] at j;cases j
  |some n=>
   cases p:aj s.bx m with
   |none=>rw[p] at f;cases f
   |some t=>exact h.bxs.2 k m n t i p
 ·rw[lu] at d
  have hL:(if L'=L then none else g.O L')=some (v,e,l):=hL;split at hL
  ·cases hL
  ·cases i:aj s.bx k with
   |none=>rw[i] at d;cases d
   |some n=>exact h.zb k n L' v e l b i hL q
end
section
variable {E:Env} {B:Own} {G0:aI} {w0:World} {s:St} {g:Gh} {a:Act} {w:World}
theorem I7 {g:Gh} {β':Nat→Option Nat} {d:Nat} (hβ: ∀k,k≠d→β' k=g.β k) {x:V} {v:Value} (hx:oo d x=false) (h:aX g x v):aX {g with β:=β'} x v:=by
 cases x with
 |box k off=>
  obtain⟨b,c,i⟩:=h;have a:k≠d:=fun e=>by subst e;simp[oo] at hx
  exact⟨b,(hβ k a).trans c,i⟩
 |sl e sh f xs=>cases f<;>exact h
 |eptr _ _ _ _ _ _=>exact h
 |_=>exact h
theorem zR {g:Gh} {β':Nat→Option Nat} {d:Nat} (hβ: ∀k,k≠d→β' k=g.β k) {x:V} {v:Value} (hx:x.fB d=false) (h:aB g x v):aB {g with β:=β'} x v:=by
 cases x with
 |tup vs=>
  obtain⟨a,rfl,h⟩:=h;simp only[V.fB,Oj] at hx;exact⟨a,rfl,h.mono fun y b v e=>I7 hβ (by have:=hx y b;simpa using this) e⟩
 |fn f c=>
  obtain⟨a,rfl,h⟩:=h;simp only[V.fB,Oj] at hx;exact⟨a,rfl,h.mono fun y b v e=>I7 hβ (by have:=hx y b;simpa using this) e⟩
 |_=>simp only[aB] at h⊢;exact I7 hβ hx h
theorem ug {d:Nat} (h:s.iG d=true): ∀x∈s.fr,x.fB d=false:=by
 unfold St.iG at h;rw[bB,jJ] at h;exact fun x hx=>dX (h.1 x hx)
theorem jI {d:Nat} (h:s.iG d=true): ∀k b,aj s.bx k=some b→k≠d∧ ∀x∈b,x.fB d=false:=by
 intro k b c;unfold St.iG at h;rw[bB,jJ,jJ] at h;have a:=h.2 _ (iK _ _ _ c);simp only[bB,jJ] at a;refine⟨fun e=>?_,fun x hx=>dX (a.2 x hx)⟩;have:=dX a.1;subst e;simp at this
theorem CO {G:aI} (a:sU G w) (o:Obj):New w (w.alloc o) G G:=by
 refine⟨iM w o,fun _ _=>rfl,fun b l h=>?_⟩;obtain⟨c,e,fr,f,d⟩:=a b l h;exact⟨c,e,fr,by rw[Below.heap_alloc w o b (dU a h)];exact f,d⟩
theorem Inv.kN (h:Inv E B G0 w0 s g a w) {k e:Nat} {t:af} {c:Array Value} (W:k<HL) (O:s.iG k=true) (S:PW (aB g) t c.toList) (U: ∀u∈c.toList,u.oneCell'=true) (A:t.all (fun v=>aS (v.fB k))=true) (I:iF t=true→lH E.P e t.length=true):
  ∃g',Inv E B G0 w0 ⟨s.fr.set k (.box k 0),(k,t)::s.bx⟩ g' (a.put (some k) (.pointer (some ⟨w.heap.size,0,none⟩))) (w.alloc (.cells c e)):=by
 obtain⟨n,hx⟩:=h.new (CO h.gok (.cells c e));let β':Nat→Option Nat:=fun j=>if j=k then some w.heap.size else g.β j
 have hβ: ∀j,j≠k→β' j=g.β j:=fun j f=>if_neg f
 have C:PW (aB {g with β:=β'}) s.fr a.tmps.toList:=n.fr.mono fun x hx v=>zR hβ (ug O x hx)
 rw[jJ] at A;refine⟨{g with β:=β'},by rw[uK];exact C.set k ⟨w.heap.size,if_pos rfl,rfl⟩,n.df,n.gok,n.own,⟨fun j q f=>?_,fun j p q y f o m=>?_⟩,n.gN,n.hB,⟨n.ext.1,n.ext.2.1,fun j f=>(hβ j (by omega)).trans (n.ext.2.2 j f)⟩,n.glob,n.g1,fun j q L v R T b f hL m Xv=>?_⟩
 ·unfold aj at f
  by_cases d:k=j
  ·subst d
   rw[E8,gY] at f;simp only[aF] at f;subst f;refine⟨w.heap.size,c,e,if_pos rfl,h.hB.2 _ (iA _),heap_alloc_new w _,S.mono fun x hx v=>zR hβ (dX (A x hx)),U,?_,I⟩;show g.G w.heap.size=none
   cases I:g.G w.heap.size with
   |none=>rfl
   |some l=>have:=dU h.gok I;omega
  ·have:(k==j)=false:=by simpa using d
   rw[this,fQ] at f;obtain⟨b,D,J,m,H,z,F,K,X,M⟩:=n.bxs.1 j q f;exact⟨b,D,J,by show β' j=_;rw[hβ j (fun e=>d e.symm)];exact m,H,z,F.mono fun x hx v=>zR hβ ((jI O j q f).2 x hx),K,X,M⟩
 ·unfold aj at f o
  have m:β' j=β' p:=m;by_cases d:k=j<;>by_cases i:k=p
  ·rw[←d,←i]
  ·subst d
   have h3:(k==p)=false:=by simpa using i
   rw[h3,fQ] at o;obtain⟨b,D,J,r,_,z,_⟩:=h.bxs.1 p y o;have N:β' k=some w.heap.size:=if_pos rfl;rw[N,hβ p (fun e=>i e.symm),r] at m;simp only[aF] at m;have:=(Array.getElem?_eq_some_iff.1 z).1;omega
  ·subst i
   have h3:(k==j)=false:=by simpa using d
   rw[h3,fQ] at f;obtain⟨b,D,J,r,_,z,_⟩:=h.bxs.1 j q f;have N:β' k=some w.heap.size:=if_pos rfl;rw[N,hβ j (fun e=>d e.symm),r] at m;simp only[aF] at m;have:=(Array.getElem?_eq_some_iff.1 z).1;omega
  ·have h3:(k==j)=false:=by simpa using d
   have Q:(k==p)=false:=by simpa using i
   rw[h3,fQ] at f;rw[Q,fQ] at o;rw[hβ j (fun e=>d e.symm),hβ p (fun e=>i e.symm)] at m;exact n.bxs.2 j p q y f o m
 ·have Xv:β' j=some b:=Xv
  by_cases d:k=j
  ·subst d
   rw[show β' k=some w.heap.size from if_pos rfl] at Xv;simp only[aF] at Xv;have:=rG h.gok h.own hL m;omega
  ·unfold aj at f
   have h3:(k==j)=false:=by simpa using d
   rw[h3,fQ] at f;rw[hβ j (fun e=>d e.symm)] at Xv;exact h.zb j q L v R T b f hL m Xv
theorem lW: ∀(l:List (Nat×af)) (k j:Nat) (b old:af),aj l k=some old→aj (fH l k b) j=if j=k then some b else aj l j
 |[],k,j,b,old,h=>by cases h
 |(i,f)::l,k,j,b,old,h=>by
  unfold aj at h;unfold fH
  cases c:i==k with
  |true=>
   rw[gY];unfold aj;have e:i=k:=by simpa using c
   subst e;by_cases a:i=j
   ·subst a;simp
   ·have:(i==j)=false:=by simpa using a
    rw[this,fQ,fQ,if_neg (fun e=>a e.symm)]
  |false=>
   rw[c,fQ] at h;rw[fQ];have d:i≠k:=by simpa using c
   unfold aj;rw[lW l k j b old h];by_cases a:i=j
   ·subst a
    rw[E8,gY,gY,if_neg d]
   ·have:(i==j)=false:=by simpa using a
    rw[this,fQ,fQ]
theorem Inv.store (h:Inv E B G0 w0 s g a w) {k off b e:Nat} {old vs:af} {c:Array Value} {us:List Value} (O:g.β k=some b) (hl:aj s.bx k=some old) (J:w.heap[b]? =some (.cells c e (0,0))) (hp:PW (aB g) old c.toList)
  (P:PW (aB g) vs us) (ho: ∀u∈us,u.oneCell'=true) (hle:off+vs.length≤old.length) (hq:iF (over old off vs)=true→iF old=true):
  Inv E B G0 w0 ⟨s.fr,fH s.bx k (over old off vs)⟩ g a (w.setRow b (c.toList.take off++us++c.toList.drop (off+us.length)).toArray):=by
 obtain⟨b',c',e',x,H,y,hp',K,N,hq0⟩:=h.bxs.1 k old hl;rw[O] at x;simp only[aF] at x;subst x;rw[J] at y;simp only[aF,Obj.cells.injEq] at y;obtain⟨rfl,rfl,_⟩:=y;have hl':=hl;have M:=setRow_heap w b c (c.toList.take off++us++c.toList.drop (off+us.length)).toArray e (0,0) J;have f: ∀j,j≠b→(w.setRow b (c.toList.take off++us++c.toList.drop (off+us.length)).toArray).heap[j]? =w.heap[j]? :=fun j d=>setRow_other w b j _ d
 have D:(w.setRow b (c.toList.take off++us++c.toList.drop (off+us.length)).toArray).heap.size=w.heap.size:=by simp[World.setRow]
 have Q: ∀j l,g.G j=some l→j≠b:=fun j l d e=>by subst e;rw[N] at d;cases d
 refine⟨h.fr,h.df,fun j l d=>?_,⟨fun L v i F hL=>?_,h.own.2⟩,⟨fun j t d=>?_,fun j j' t C d o=>?_⟩,?_,by rw[D];exact h.hB,h.ext,h.glob,h.g1,fun j t L v i F A d hL m=>?_⟩
 ·obtain⟨Z,i,fr,hc,ht⟩:=h.gok j l d
  exact⟨Z,i,fr,by rw[f j (Q j l d)];exact hc,ht⟩
 ·obtain⟨h1,h2⟩:=h.own.1 L v i F hL
  refine⟨h1,h2.imp id ?_⟩;rintro⟨j,n,cap,Y,l,P,d,hhj,hnc,S,hcs,W,hl⟩;have T:j≠b:=fun e=>h.zb k old L v i F j hl' hL (by rw[P];rfl) (by rw[e];exact O)
  exact⟨j,n,cap,Y,l,P,d,by rw[f j T];exact hhj,hnc,S,hcs,W,hl⟩
 ·rw[lW s.bx k j _ old hl] at d
  split at d
  ·rename_i r
   subst r;simp only[aF] at d;subst d;refine⟨b,_,e,O,H,M,by simpa using KL hp P off,fun u p=>?_,N,fun J=>by rw[P5 hle];exact hq0 (hq J)⟩;simp only[R9] at p;rcases p with(p|p)|p
   ·exact K u (List.mem_of_mem_take p)
   ·exact ho u p
   ·exact K u (List.mem_of_mem_drop p)
  ·rename_i r
   obtain⟨A,Z,i,m,I,U,X,ho2,hG2,hq2⟩:=h.bxs.1 j t d;have R:A≠b:=by
    intro e3;subst e3;exact r (h.bxs.2 j k t old d hl (m.trans O.symm))
   exact⟨A,Z,i,m,I,by rw[f A R];exact U,X,ho2,hG2,hq2⟩
 ·rw[lW s.bx k _ _ old hl] at d o
  refine fun q=>?_
  split at d<;>split at o
  ·rename_i z i;rw[z,i]
  ·rename_i z i;subst z;exact h.bxs.2 _ _ old C hl o q
  ·rename_i z i;subst i;exact h.bxs.2 _ _ t old d hl q
  ·exact h.bxs.2 _ _ t C d o q
 ·refine h.gN.trans ⟨⟨rfl,rfl,rfl,by rw[D];exact iA _,fun j d=>by omega⟩,fun j d=>f j fun e=>d (e▸H),oD J fun j d _=>f j d⟩
 ·rw[lW s.bx k j _ old hl] at d
  split at d
  ·rename_i z;rw[z];exact h.zb k old L v i F A hl hL m
  ·exact h.zb j t L v i F A d hL m
theorem D9 {f:af→af} {bx:List (Nat×af)} {g:Gh} (h: ∀k a L v e c b,aj bx k=some a→g.O L=some (v,e,c)→v.ownBlock=some b→g.β k≠some b): ∀k a L v e c b,aj (bx.map fun(k,a)=>(k,f a)) k=some a→g.O L=some (v,e,c)→v.ownBlock=some b→g.β k≠some b:=by
 intro k a L v e c b d;rw[fe] at d
 cases i:aj bx k with
 |none=>rw[i] at d;cases d
 |some j=>exact h k j L v e c b i
theorem iW {G G':aI} {x:V} {v:Value} (hx:wR x=true) (h:aJ G x v):aJ G' x v:=by
 cases x<;>first|cases hx|skip
 all_goals (unfold aJ at h⊢;exact h)
theorem Qi {sh:List Kd} {x:V} (e:sh.all flatK=true) (b:bE sh x.cells=true): ∀c∈x.cells,wR c=true:=by
 have f: ∀(sh:List Kd) (a:af),sh.all flatK=true→bE sh a=true→ ∀c∈a,wR c=true:=by
  intro sh;induction sh with
  |nil=>intro a _ b c d;cases a with
   |nil=>cases d
   |cons _ _=>simp[bE] at b
  |cons k sh h=>
   intro a e b c d
   cases a with
   |nil=>cases d
   |cons y a=>
    rw[Me,bB] at e;simp only[bE] at b;obtain⟨i,g⟩:=aR b;rcases List.mem_cons.1 d with rfl|d
    ·cases k<;>first|(cases e.1;done)|skip
     all_goals (cases c<;>first|rfl|(simp[fits] at i))
    ·exact h a e.2 g c d
 exact f sh x.cells e b
theorem MW {G G':aI} {sh:List Kd} {x:V} {u:Value} (e:sh.all flatK=true) (c:eP sh x=true) (h:aJ G x u):aJ G' x u:=by
 have b:=Qi e c
 cases x with
 |agg g=>
  unfold aJ at h⊢;obtain⟨a,rfl,h⟩:=h;refine⟨a,rfl,?_⟩;rw[dI] at h⊢;exact h.mono fun y d v f=>iW (b y d) f
 |_=>exact iW (b _ sS) h
theorem wm {G G':aI} {sh:List Kd} (b:sh.all flatK=true): ∀(xs:af) (cells:List Value),bF G sh xs cells→bF G' sh xs cells
 |[],_,_=>fZ
 |x::xs,cells,h=>by
  unfold bF at h⊢;obtain⟨a,⟨u,c,e⟩,d⟩:=h;exact⟨a,⟨u,MW b a c,e⟩,wm b xs _ d⟩
theorem CP {G G':aI} {sh:List Kd} {xs:af} {v:Value} (e:sh.all flatK=true) (h:oW G sh xs v) (d: ∀b,v.ownBlock=some b→G' b=G b):oW G' sh xs v:=by
 rcases h with h|⟨b,cap,l,rfl,a,f,hl,c⟩
 ·exact .inl h
 ·exact .inr ⟨b,cap,l,rfl,a,by rw[d b rfl];exact f,hl,wm e _ _ c⟩
theorem KQ (L e:Nat) (k:List Kd) (ys:af) (a:Nat) (sh:List Kd) (j:Nat) (xs:af):Fs L e k ys (.sl a sh (some j) xs)=bif L==j then .sl e k (some L) ys else .sl a sh (some j) xs:=rfl
theorem CQ (L e:Nat) (k:List Kd) (ys:af) (j a:Nat) (sh:List Kd) (xs:af) (i:Int) (off:Nat):Fs L e k ys (.eptr j a sh xs i off)=bif L==j then .eptr L e k ys i off else .eptr j a sh xs i off:=rfl
theorem xg {g:Gh} {x:V} {v:Value} (h:aB g x v):aB g x.forget v:=by
 unfold V.forget
 cases x.flat
 ·exact gm
 ·exact h
theorem Hq: ∀x:V,x.forget=.nilp→x=.nilp:=by
 intro x h;unfold V.forget at h
 cases a:x.flat<;>rw[a] at h
 ·cases h
 ·exact h
theorem xh (x:V):x.forget.flat=true:=by
 unfold V.forget
 cases a:x.flat
 ·rfl
 ·exact a
theorem Inv.forget (h:Inv E B G0 w0 s g a w):Inv E B G0 w0 s.forget g a w:=by
 have hl: ∀k,aj s.forget.bx k=(aj s.bx k).map (List.map V.forget):=fun k=>fe _ _ _
 refine⟨dm h.fr fun z _ v o=>xg o,h.df,h.gok,h.own,⟨fun k F d=>?_,fun k t F y q l=>?_⟩,h.gN,h.hB,h.ext,h.glob,h.g1,D9 (f:=List.map V.forget) h.zb⟩
 ·rw[hl] at d
  cases i:aj s.bx k with
  |none=>rw[i] at d;cases d
  |some p=>
   rw[i] at d;simp only[qJ,aF] at d;subst d;obtain⟨b,c,e,C,n,A,u,x,D,r⟩:=h.bxs.1 k p i;exact⟨b,c,e,C,n,A,dm u fun z _ v o=>xg o,x,D,jf Hq r⟩
 ·rw[hl] at q l
  cases i:aj s.bx k with
  |none=>rw[i] at q;cases q
  |some p=>
   cases j:aj s.bx t with
   |none=>rw[j] at l;cases l
   |some m=>exact h.bxs.2 k t p m i j
theorem EM (s:St):s.forget.Km=true:=by
 unfold St.Km St.forget;rw[bB,jJ,jJ];refine⟨fun x hx=>?_,fun p a=>?_⟩
 ·obtain⟨y,_,rfl⟩:=List.mem_map.1 hx
  exact xh y
 ·obtain⟨q,_,rfl⟩:=List.mem_map.1 a
  show(q.2.map V.forget).all V.flat=true;rw[jJ];intro x hx;obtain⟨y,_,rfl⟩:=List.mem_map.1 hx;exact xh y
theorem Inv.zu (h:Inv E B G0 w0 s g a w) {L e b i:Nat} {k:List Kd} {W u:Value} {c:Array Value} {l:List Value} {xs ys:af} (hO:g.O L=some (W,e,k.length)) (J:W.ownBlock=some b) (hh:w.heap[b]? =some (.cells c e (0,0))) (zq:g.G b=some l) (hi:i<l.length)
  (hown:oW g.G k xs W) (Y:ys.length=xs.length) (hk:k.all flatK=true) (hr:bF g.G k ys (l.set i u)) (hone:u.oneCell'=true) (hn:s.Km=true) (hL:L<HL):
  ∃g',Inv E B G0 w0 (s.upd L e k ys) g' a (w.setRow b (c.toList.take i++[u]++c.toList.drop (i+1)).toArray):=by
 have Z:B.ok L b:=by
  rcases(h.own.1 L W e k.length hO).2 with t|⟨C,n,cap,cur,l',t,hB',_⟩
  ·rw[t] at J;cases J
  ·rw[t] at J;simp[Value.ownBlock] at J;subst J;exact hB'
 obtain⟨c0,e0,fr0,hc0,ht0⟩:=h.gok b l zq;rw[hh] at hc0;simp only[aF,Obj.cells.injEq] at hc0;obtain⟨rfl,rfl,rfl⟩:=hc0;have hil:i<c.toList.length:=by
  have:=congrArg List.length ht0;rw[B6] at this;omega
 have hset:c.toList.take i++[u]++c.toList.drop (i+1)=c.toList.set i u:=by
  rw[XF,if_pos hil];simp
 rw[hset];let G':aI:=fun j=>if j=b then some (l.set i u) else g.G j
 have I: ∀j,j≠b→G' j=g.G j:=fun j d=>if_neg d
 have Sk:G' b=some (l.set i u):=if_pos rfl;have hnew:=setRow_heap w b c (c.toList.set i u).toArray e (0,0) hh;have F: ∀j,j≠b→(w.setRow b (c.toList.set i u).toArray).heap[j]? =w.heap[j]? :=fun j d=>setRow_other w b j _ d
 have hsz:(w.setRow b (c.toList.set i u).toArray).heap.size=w.heap.size:=by simp[World.setRow]
 have hv0:oW G' k ys W:=by
  rcases hown with⟨t,hx0⟩|⟨C,cap,l',t,hcap,hGl,hll,hE⟩
  ·rw[t] at J;cases J
  ·rw[t] at J
   simp only[Value.ownBlock,aF] at J;subst J;rw[zq] at hGl;simp only[aF] at hGl;subst hGl;exact .inr ⟨C,cap,l.set i u,by rw[t,Y],by rw[Y];exact hcap,Sk,by rw[Ol,Y];exact hll,wm hk _ _ hr⟩
 have hlenL: ∀(sh:List Kd) (K:af),g.O L=some (W,e,sh.length)→oW g.G sh K W→K.length=xs.length:=by
  intro sh K _ hz;rcases hz with⟨t,hz⟩|⟨C,cap,l',t,_⟩
  ·rw[t] at J;cases J
  ·rcases hown with⟨S,_⟩|⟨b2,cap2,l2,S,_⟩
   ·rw[S] at J;cases J
   ·rw[t] at S
    simp only[Value.slice.injEq] at S;exact S.2.1
 have M: ∀j v H sz C,j≠L→g.O j=some (v,H,sz)→v.ownBlock=some C→C≠b:=by
  intro j v H sz C d hOj Q P;subst P;exact d (h.own.2 j L v W H e sz k.length C hOj hO Q J)
 have hm1:jB g.G1 G':=fun j m d=>by
  obtain⟨m1,q1,q2⟩:=h.g1 j m d;have D:j≠b:=fun e=>by have h1:=h.glob.2 j m1 q1;have h2:=Z.2 hL;omega
  obtain⟨m2,q3,q4⟩:=h.ext.2.1 j m1 q1;exact⟨m2,(I j D).trans q3,q2.trans q4⟩
 have o: ∀(y:V) (v:Value),Ch y=true→aX g y v→aX {g with G:=G'} (Fs L e k ys y) v:=by
  intro y v A t
  cases y with
  |sl H sh ow K=>
   cases ow with
   |none=>cases A
   |some j=>
    rw[KQ];obtain⟨N,p2⟩:=t;by_cases d:L=j
    ·have P:(L==j)=true:=by simpa using d
     rw[P,gY];subst d;rw[hO] at N;simp only[aF,bP] at N;obtain⟨rfl,rfl,_⟩:=N;exact⟨hO,hv0⟩
    ·have P:(L==j)=false:=by simpa using d
     rw[P,fQ];exact⟨N,CP A p2 fun C Q=>I C (M j v H _ C (fun e=>d e.symm) N Q)⟩
  |eptr j H sh K q off=>
   rw[CQ];obtain⟨v1,b1,N,p2,p3,p4,p5,p6⟩:=t;by_cases d:L=j
   ·have P:(L==j)=true:=by simpa using d
    rw[P,gY];subst d;have p1':=N;rw[hO] at N;simp only[aF,bP] at N;obtain⟨rfl,rfl,hsl⟩:=N;have hzl:=hlenL sh K p1' p2;refine⟨W,b1,hO,hv0,p3,by rw[Y];omega,p5,?_⟩;rw[p6,hsl]
   ·have P:(L==j)=false:=by simpa using d
    rw[P,fQ];exact⟨v1,b1,N,CP A p2 fun C Q=>I C (M j v1 H _ C (fun e=>d e.symm) N Q),p3,p4,p5,p6⟩
  |box j off=>exact t
  |old x=>exact⟨t.1,fI hm1 _ _ t.1,t.2.2⟩
  |any=>show aJ G' .any v;unfold aJ;trivial
  |bool _=>exact iW (G:=g.G) rfl t
  |int _ _=>exact iW (G:=g.G) rfl t
  |str _=>exact iW (G:=g.G) rfl t
  |nilsl=>exact iW (G:=g.G) rfl t
  |nilif=>exact iW (G:=g.G) rfl t
  |nilp=>exact iW (G:=g.G) rfl t
  |iface _ _=>cases A
  |bxa _ _=>cases A
  |out _ _ _=>cases A
  |qD _ _ _=>cases A
  |agg _=>cases A
  |tup _=>cases A
  |rptr _ _ _=>cases A
  |fn _ _=>cases A
  |slz _ _ _ _ _ _ _ _ _ _=>cases A
  |epz _ _ _ _ _=>cases A
  |keep _ _=>cases A
 have R: ∀(y:V) (v:Value),y.flat=true→aB g y v→aB {g with G:=G'} (y.upd L e k ys) v:=by
  intro y v A t
  cases y with
  |tup vs=>
   obtain⟨a,rfl,p⟩:=t;have A:vs.all Ch=true:=A;rw[jJ] at A;exact⟨a,rfl,dm p fun z hz v t=>o z v (A z hz) t⟩
  |fn f vs=>
   obtain⟨a,rfl,p⟩:=t;have A:vs.all Ch=true:=A;rw[jJ] at A;exact⟨a,rfl,dm p fun z hz v t=>o z v (A z hz) t⟩
  |agg T=>
   obtain⟨a,rfl,p⟩:=gu.1 t;have A:T.all wR=true:=A;rw[jJ] at A;exact gu.2 ⟨a,rfl,p.mono fun z hz v t=>iW (A z hz) t⟩
  |sl H sh ow K=>
   have h2:=o (.sl H sh ow K) v A (aL (x:=.sl H sh ow K) rfl t);refine aW ?_ h2
   cases ow with
   |none=>cases A
   |some j=>show(Fs L e k ys (V.sl H sh (some j) K)).single=true;rw[KQ];cases L==j<;>rfl
  |eptr j H sh K q off=>
   have h2:=o (.eptr j H sh K q off) v A (aL (x:=.eptr j H sh K q off) rfl t);refine aW ?_ h2;show(Fs L e k ys (V.eptr j H sh K q off)).single=true;rw[CQ];cases L==j<;>rfl
  |any=>exact aW rfl (o (.any) v rfl (aL (x:=.any) rfl t))
  |bool q=>exact aW rfl (o (.bool q) v rfl (aL (x:=.bool q) rfl t))
  |int q r=>exact aW rfl (o (.int q r) v rfl (aL (x:=.int q r) rfl t))
  |str q=>exact aW rfl (o (.str q) v rfl (aL (x:=.str q) rfl t))
  |nilsl=>exact aW rfl (o (.nilsl) v rfl (aL (x:=.nilsl) rfl t))
  |nilif=>exact aW rfl (o (.nilif) v rfl (aL (x:=.nilif) rfl t))
  |nilp=>exact aW rfl (o (.nilp) v rfl (aL (x:=.nilp) rfl t))
  |iface _ _=>cases A
  |bxa _ _=>cases A
  |out _ _ _=>cases A
  |qD _ _ _=>cases A
  |box q r=>exact aW rfl (o (.box q r) v rfl (aL (x:=.box q r) rfl t))
  |old q=>exact aW rfl (o (.old q) v rfl (aL (x:=.old q) rfl t))
  |rptr _ _ _=>cases A
  |slz _ _ _ _ _ _ _ _ _ _=>cases A
  |epz _ _ _ _ _=>cases A
  |keep _ _=>cases A
 unfold St.Km at hn;rw[bB,jJ,jJ] at hn;obtain⟨n1,n2⟩:=hn;refine⟨{g with G:=G'},dm h.fr fun y A v t=>R y v (n1 y A) t,h.df,fun j m d=>?_,⟨fun j v e2 sz d=>?_,h.own.2⟩,⟨fun j ds d=>?_,fun j j' ds ds' d U=>?_⟩,?_,by rw[hsz];exact h.hB,⟨fun j d=>(I j fun e=>d (e▸Z.1)).trans (h.ext.1 j d),fun j m d=>by
  have D:j≠b:=fun e=>by have h1:=h.glob.2 j m d;have h2:=Z.2 hL;omega
  obtain⟨m',h1,h2⟩:=h.ext.2.1 j m d;exact⟨m',by show G' j=_;rw[I j D];exact h1,h2⟩,h.ext.2.2⟩,h.glob,h.g1,D9 (f:=List.map (V.upd L e k ys)) h.zb⟩
 ·by_cases D:j=b
  ·subst D
   have d:G' j=some m:=d;rw[Sk] at d;simp only[aF] at d;subst d;refine⟨_,_,_,hnew,?_⟩;rw[Ol,ZA];rw[XQ,ht0]
  ·have d:G' j=some m:=d
   rw[I j D] at d;obtain⟨c2,e2,fr,hc,ht⟩:=h.gok j m d;exact⟨c2,e2,fr,by rw[F j D];exact hc,ht⟩
 ·obtain⟨q1,q2⟩:=h.own.1 j v e2 sz d
  refine⟨q1,q2.imp id ?_⟩;rintro⟨C,n,cap,cur,m,t,hB',X,hnc,hcm,hcs,hGj,hl⟩;by_cases D:C=b
  ·subst D
   rw[hh] at X;simp only[aF,Obj.cells.injEq] at X;obtain⟨rfl,rfl,_⟩:=X;obtain⟨e9,hCj⟩:=hGj.known zq;subst e9;exact⟨C,n,cap,_,_,t,hB',hnew,hnc,hcm,by simpa using hcs,kz.mk0 hCj Sk,by simpa using hl⟩
  ·exact⟨C,n,cap,cur,m,t,hB',by rw[F C D];exact X,hnc,hcm,hcs,hGj.keep rfl (I C D),hl⟩
 ·have d:aj (s.bx.map fun(q,T)=>(q,T.map (V.upd L e k ys))) j=some ds:=d
  rw[fe] at d
  cases hq:aj s.bx j with
  |none=>rw[hq] at d;cases d
  |some T=>
   rw[hq] at d;simp only[qJ,aF] at d;subst d;obtain⟨C,c',H,N,p2,p3,p4,p5,p6,p7⟩:=h.bxs.1 j T hq;have hne:C≠b:=fun P=>by subst P;rw[zq] at p6;cases p6
   have hfl:=n2 _ (iK _ _ _ hq);simp only[jJ] at hfl;exact⟨C,c',H,N,p2,by rw[F C hne];exact p3,dm p4 fun y A v t=>R y v (hfl y A) t,p5,by show G' C=none;rw[I C hne];exact p6,jf (P6 _ _ _ _) p7⟩
 ·have d:aj (s.bx.map fun(q,T)=>(q,T.map (V.upd L e k ys))) j=some ds:=d
  have U:aj (s.bx.map fun(q,T)=>(q,T.map (V.upd L e k ys))) j'=some ds':=U;rw[fe] at d U
  cases hq:aj s.bx j with
  |none=>rw[hq] at d;cases d
  |some T=>
   cases hq':aj s.bx j' with
   |none=>rw[hq'] at U;cases U
   |some cs'=>exact h.bxs.2 j j' T cs' hq hq'
 ·refine h.gN.trans ⟨⟨rfl,rfl,rfl,by rw[hsz];exact iA _,fun j d=>by omega⟩,fun j d=>F j fun e=>d (e▸Z.1),oD hh fun j d _=>F j d⟩
theorem CR (L i e:Nat) (sh:List Kd) (k:Nat) (xs:af):og L i (.sl e sh (some k) xs)=bif L==k then .sl e sh (some i) xs else .sl e sh (some k) xs:=rfl
theorem xk (L i k e:Nat) (sh:List Kd) (xs:af) (j:Int) (off:Nat):og L i (.eptr k e sh xs j off)=bif L==k then .eptr i e sh xs j off else .eptr k e sh xs j off:=rfl
theorem JB (L i k e:Nat) (sh:List Kd) (xs:af) (o2:Option Nat) (j:Int) (c b:Nat) (a:List Kd) (ys:af):og L i (.slz k e sh xs o2 j c b a ys)=.slz (bif L==k then i else k) e sh xs (Sz L i o2) j c b a ys:=rfl
theorem JC (L i k e a:Nat) (j:Int) (off:Nat):og L i (.epz k e a j off)=.epz (bif L==k then i else k) e a j off:=rfl
theorem iN {g:Gh} {O':Nat→Option (Value×Nat×Nat)} {C':Nat→Option (List Value)} {L i:Nat} (u:O' i=g.O L) (q: ∀k,k≠L→k≠i→O' k=g.O k) (s:C' i=g.C L) (z: ∀k,k≠L→k≠i→C' k=g.C k) {x:V} {v:Value} (hx:gT i x=false) (h:aX g x v):aX {g with O:=O',C:=C'} (og L i x) v:=by
 cases x with
 |sl e sh F xs=>
  cases F with
  |none=>exact h
  |some k=>
   rw[CR];by_cases a:L=k
   ·have:(L==k)=true:=by simpa using a
    rw[this];subst a;exact⟨u.trans h.1,h.2⟩
   ·have:(L==k)=false:=by simpa using a
    rw[this];have o:k≠i:=fun e=>by subst e;simp[gT] at hx
    exact⟨(q k (fun e=>a e.symm) o).trans h.1,h.2⟩
 |eptr k e sh xs j off=>
  rw[xk];obtain⟨w,b,m,f⟩:=h;by_cases a:L=k
  ·have:(L==k)=true:=by simpa using a
   rw[this];subst a;exact⟨w,b,u.trans m,f⟩
  ·have:(L==k)=false:=by simpa using a
   rw[this];have o:k≠i:=fun e=>by subst e;simp[gT] at hx
   exact⟨w,b,(q k (fun e=>a e.symm) o).trans m,f⟩
 |slz k e sh xs o2 j c y p ys=>
  rw[JB];have hx:(i==k||XU i o2)=false:=hx;rw[zi,oZ] at hx;obtain⟨r,d⟩:=hx;obtain⟨l,m,f,h3,E⟩:=h;have t:nG {g with O:=O',C:=C'} l sh.length (Sz L i o2) j c y p ys:=by
   cases o2 with
   |none=>trivial
   |some L2=>
    have d:(i==L2)=false:=d;rw[oZ] at d;obtain⟨B,A,D⟩:=E;by_cases n:L=L2
    ·subst n
     show nG _ l sh.length (bif L==L then some i else some L) j c y p ys;rw[E8];exact⟨B,u.trans A,D⟩
    ·show nG _ l sh.length (bif L==L2 then some i else some L2) j c y p ys
     rw[beq_eq_false_iff_ne.2 n];exact⟨B,(q L2 (fun e=>n e.symm) (fun e=>d e.symm)).trans A,D⟩
  by_cases a:L=k
  ·subst a
   rw[E8];exact⟨l,u.trans m,s.trans f,h3,t⟩
  ·rw[beq_eq_false_iff_ne.2 a]
   exact⟨l,(q k (fun e=>a e.symm) (fun e=>r e.symm)).trans m,(z k (fun e=>a e.symm) (fun e=>r e.symm)).trans f,h3,t⟩
 |epz k e G j off=>
  rw[JC];have hx:(i==k)=false:=hx;rw[oZ] at hx;obtain⟨w,b,l,m,f,h3⟩:=h;by_cases a:L=k
  ·subst a
   rw[E8];exact⟨w,b,l,u.trans m,s.trans f,h3⟩
  ·rw[beq_eq_false_iff_ne.2 a]
   exact⟨w,b,l,(q k (fun e=>a e.symm) (fun e=>hx e.symm)).trans m,(z k (fun e=>a e.symm) (fun e=>hx e.symm)).trans f,h3⟩
 |_=>exact h
theorem qX {L i:Nat} {x:V} (h:x.single=true):(og L i x).single=true:=by
 cases x with
 |sl e sh a xs=>
  cases a with
  |none=>rfl
  |some k=>rw[CR];cases L==k<;>rfl
 |eptr k e sh xs j off=>rw[xk];cases L==k<;>rfl
 |tup _=>cases h
 |fn _ _=>cases h
 |_=>rfl
theorem AR {g:Gh} {O':Nat→Option (Value×Nat×Nat)} {C':Nat→Option (List Value)} {L i:Nat} (n:O' i=g.O L) (l: ∀k,k≠L→k≠i→O' k=g.O k) (b:C' i=g.C L) (d: ∀k,k≠L→k≠i→C' k=g.C k) {x:V} {v:Value} (hx:x.cr i=false) (h:aB g x v):aB {g with O:=O',C:=C'} (x.canon L i) v:=by
 cases x with
 |tup vs=>
  obtain⟨a,rfl,h⟩:=h;simp only[V.cr,Oj] at hx;exact⟨a,rfl,dm h fun y q v r=>iN n l b d (by have:=hx y q;simpa using this) r⟩
 |fn f c=>
  obtain⟨a,rfl,h⟩:=h;simp only[V.cr,Oj] at hx;exact⟨a,rfl,dm h fun y q v r=>iN n l b d (by have:=hx y q;simpa using this) r⟩
 |sl e sh s xs=>exact aW (qX rfl) (iN n l b d hx (aL rfl h))
 |eptr k e sh xs j off=>exact aW (qX (x:=.eptr k e sh xs j off) rfl) (iN (x:=.eptr k e sh xs j off) n l b d hx (aL (x:=.eptr k e sh xs j off) rfl h))
 |slz k e sh xs o2 j c o m ys=>exact aW (x:=.slz (bif L==k then i else k) e sh xs (Sz L i o2) j c o m ys) rfl (iN (x:=.slz k e sh xs o2 j c o m ys) n l b d hx (aL (x:=.slz k e sh xs o2 j c o m ys) rfl h))
 |epz k e p j off=>exact aW (x:=.epz (bif L==k then i else k) e p j off) rfl (iN (x:=.epz k e p j off) n l b d hx (aL (x:=.epz k e p j off) rfl h))
 |_=>simp only[aB,V.cr] at h hx⊢;exact iN n l b d hx h
theorem Inv.canon (h:Inv E B G0 w0 s g a w) {L i:Nat} (S:L≠i) (hcl:i<HL→L<HL) (hi:s.aV i=true): ∃g',Inv E B G0 w0 (s.canon L i) g' a w:=by
 let O':Nat→Option (Value×Nat×Nat):=fun k=>if k=i then g.O L else if k=L then none else g.O k
 have P:O' i=g.O L:=if_pos rfl;have h2: ∀k,k≠L→k≠i→O' k=g.O k:=fun k d z=>by show(if k=i then g.O L else if k=L then none else g.O k)=_;rw[if_neg z,if_neg d]
 let C':Nat→Option (List Value):=fun k=>if k=i then g.C L else if k=L then none else g.C k
 have A:C' i=g.C L:=if_pos rfl;have D: ∀k,k≠L→k≠i→C' k=g.C k:=fun k d z=>by show(if k=i then g.C L else if k=L then none else g.C k)=_;rw[if_neg z,if_neg d]
 have m: ∀k x,O' k=some x→ ∃j,g.O j=some x∧(j=if k=i then L else k):=by
  intro k x d;have d:(if k=i then g.O L else if k=L then none else g.O k)=some x:=d;split at d
  ·rename_i e;exact⟨L,d,by rw[if_pos e]⟩
  ·rename_i e
   split at d
   ·cases d
   ·exact⟨k,d,by rw[if_neg e]⟩
 refine⟨{g with O:=O',C:=C'},dm h.fr fun x hx v=>AR P h2 A D (oH hi x hx),h.df,h.gok,⟨fun k v e F d=>?_,fun k q v v' e e' F Y b d f t hb'=>?_⟩,⟨fun k o d=>?_,fun k q o W d f=>?_⟩,h.gN,h.hB,h.ext,h.glob,h.g1,fun k o q v e F b d f t=>?_⟩
 ·obtain⟨j,M,I⟩:=m k _ d
  have P:=h.own.1 j v e F M;refine⟨P.1,P.2.imp id ?_⟩;rintro⟨b,n,cap,J,l,hv,t,hh,X,T,hcs,u,hl⟩;have hCk:C' k=g.C j:=by
   rw[I];by_cases N:k=i
   ·rw[if_pos N,N];exact A
   ·rw[if_neg N]
    have r:k≠L:=fun e9=>by
     subst e9;have d:(if k=i then g.O k else if k=k then none else g.O k)=some (v,e,F):=d;rw[if_neg N,if_pos rfl] at d
     cases d
    exact D k r N
  refine⟨b,n,cap,J,l,hv,⟨t.1,fun d=>t.2 ?_⟩,hh,X,T,hcs,?_,hl⟩
  ·rw[I]
   split
   ·rename_i e;exact hcl (e▸d)
   ·exact d
  ·unfold kz at u⊢
   show(match C' k with|none=>g.G b=some l|some l'=>g.G b=none∧l'=l∧J.toList.take l.length=l);rw[hCk];exact u
 ·have r: ∀k x,O' k=some x→k≠L:=by
   intro k x d e;subst e;have d:(if k=i then g.O k else if k=k then none else g.O k)=some x:=d;rw[if_neg S,if_pos rfl] at d
   cases d
  obtain⟨j,M,I⟩:=m k _ d;obtain⟨j',hj',y⟩:=m q _ f;have hjj:=h.own.2 j j' v v' e e' F Y b M hj' t hb';have hk1:=r k _ d;have hk2:=r q _ f;by_cases R:k=i<;>by_cases Q:q=i
  ·rw[R,Q]
  ·rw[if_pos R] at I;rw[if_neg Q] at y;omega
  ·rw[if_neg R] at I;rw[if_pos Q] at y;omega
  ·rw[if_neg R] at I;rw[if_neg Q] at y;omega
 ·have d:aj (s.bx.map fun(k,o)=>(k,o.map (V.canon L i))) k=some o:=d
  rw[fe] at d
  cases p:aj s.bx k with
  |none=>rw[p] at d;cases d
  |some H=>
   rw[p] at d;simp only[qJ,aF] at d;subst d;obtain⟨b,c,e,t,Z,hh,hp,ho,hG,hq2⟩:=h.bxs.1 k H p;exact⟨b,c,e,t,Z,hh,dm hp fun x hx v=>AR P h2 A D (rY hi k H p x hx),ho,hG,jf (Jo _ _) hq2⟩
 ·have d:aj (s.bx.map fun(k,o)=>(k,o.map (V.canon L i))) k=some o:=d
  have f:aj (s.bx.map fun(k,o)=>(k,o.map (V.canon L i))) q=some W:=f;rw[fe] at d f
  cases p:aj s.bx k with
  |none=>rw[p] at d;cases d
  |some H=>
   cases K:aj s.bx q with
   |none=>rw[K] at f;cases f
   |some U=>exact h.bxs.2 k q H U p K
 ·obtain⟨j,M,_⟩:=m q _ f
  have d:aj (s.bx.map fun(k,o)=>(k,o.map (V.canon L i))) k=some o:=d;rw[fe] at d
  cases p:aj s.bx k with
  |none=>rw[p] at d;cases d
  |some H=>exact h.zb k H j v e F b p M t
theorem Inv.less (h:Inv E B G0 w0 s g a w) {fr:af} {bx:List (Nat×af)} (m:PW (aB g) fr a.tmps.toList) (i: ∀k c,aj bx k=some c→aj s.bx k=some c):Inv E B G0 w0 ⟨fr,bx⟩ g a w:=
 ⟨m,h.df,h.gok,h.own,⟨fun k c f=>h.bxs.1 k c (i k c f),fun k l c d f j=>h.bxs.2 k l c d (i k c f) (i l d j)⟩,h.gN,h.hB,h.ext,h.glob,h.g1,fun k c L v e n b f=>h.zb k c L v e n b (i k c f)⟩
theorem CS {g:Gh} (a:List Nat): ∀(xs:af) (vs:List Value) (i:Nat),PW (aB g) xs vs→PW (aB g) (vJ a xs i) vs
 |[],vs,i,h=>by rw[h.bH];exact .nil
 |x::xs,vs,i,h=>by
  obtain⟨v,t,rfl,c,b⟩:=h.cons_inv;unfold vJ;refine .cons ?_ (CS a xs t (i+1) b)
  cases a.contains i
  ·exact c
  ·exact gm
theorem xq (q:Nat→Bool): ∀(l:List (Nat×af)) (k:Nat) (c:af),aj (l.filter fun(k,_)=>q k) k=some c→aj l k=some c
 |[],k,c,h=>by cases h
 |(j,g)::l,k,c,h=>by
  have b:=xq q l k c;simp only[Xm] at h;unfold aj
  cases d:j==k with
  |true=>
   have e:j=k:=by simpa using d
   subst e;rw[gY]
   cases a:q j with
   |true=>
    rw[a,if_pos rfl] at h;unfold aj at h;rw[d,gY] at h;exact h
   |false=>
    rw[a,if_neg (by decide)] at h;exfalso;have: ∀(l:List (Nat×af)),aj (l.filter fun(k,_)=>q k) j=none:=by
     intro l;induction l with
     |nil=>rfl
     |cons p l b=>
      obtain⟨i,m⟩:=p;simp only[Xm];by_cases f:q i=true
      ·rw[if_pos f]
       unfold aj;have:(i==j)=false:=by
        rw[oZ];intro e;subst e;rw[f] at a;cases a
       rw[this,fQ];exact b
      ·rw[if_neg f];exact b
    rw[this l] at h
    cases h
  |false=>
   rw[fQ]
   cases a:q j with
   |true=>
    rw[a,if_pos rfl] at h;unfold aj at h;rw[d,fQ] at h;exact b h
   |false=>
    rw[a,if_neg (by decide)] at h;exact b h
theorem zS {L i:Nat} (b:i<HL) (h:dZ true L i<HL):L<HL:=by
 unfold dZ at h;rw[On] at h
 cases a:Nat.ble HL L with
 |true=>rw[a,gY] at h;omega
 |false=>
  refine N9 fun e=>?_
  rw[Zw e] at a
  cases a
theorem BR: ∀(fr:af) (i:Nat) (b:List Nat) (s:St) (g:Gh),Inv E B G0 w0 s g a w→ ∃g',Inv E B G0 w0 (iV fr i b s) g' a w:=by
 intro fr;induction fr with
 |nil=>intro i b s g h;exact⟨g,h⟩
 |cons x fr c=>
  intro i b s g h
  cases x with
  |sl e sh l xs=>
   cases l with
   |none=>unfold iV;exact c _ _ _ _ h
   |some L=>
    unfold iV
    cases j:(b.contains L||L==dZ true L i) with
    |true=>rw[gY];exact c _ _ _ _ h
    |false=>
     rw[fQ]
     cases f:(s.aV (dZ true L i)&&Nat.blt i HL) with
     |false=>rw[fQ];exact c _ _ _ _ h
     |true=>
      rw[gY];rw[bB] at f;have d:L≠dZ true L i:=by
       intro e;rw[zi,oZ] at j;exact j.2 e
      obtain⟨g',k⟩:=h.canon d (zS (ig f.2)) f.1;exact c _ _ _ _ k
  |_=>unfold iV;exact c _ _ _ _ h
theorem rZ (n L:Nat) (h:Inv E B G0 w0 s g a w): ∃g',Inv E B G0 w0 (zM n L s) g' a w:=by
 unfold zM
 cases d:(L==dZ true L n||s.fr.any (fun v=>v.cr L)) with
 |true=>exact⟨g,h⟩
 |false=>
  rw[fQ]
  cases c:(s.aV (dZ true L n)&&Nat.blt n HL) with
  |false=>exact⟨g,h⟩
  |true=>
   rw[gY];rw[bB] at c;have b:L≠dZ true L n:=by
    intro e;rw[zi,oZ] at d;exact d.1 e
   exact h.canon b (zS (ig c.2)) c.1
theorem JD (b:Nat): ∀(k:af) (i:Nat) (s:St) (g:Gh),Inv E B G0 w0 s g a w→ ∃g',Inv E B G0 w0 (kQ b k i s) g' a w:=by
 intro k;induction k with
 |nil=>intro i s g h;exact⟨g,h⟩
 |cons x k d=>
  intro i s g h
  cases x with
  |sl e sh r xs=>
   cases r with
   |none=>unfold kQ;exact d _ _ _ h
   |some L=>
    unfold kQ
    cases o:(L==dZ true L (b+i)||s.fr.any (fun v=>v.cr L)) with
    |true=>rw[gY];exact d _ _ _ h
    |false=>
     rw[fQ]
     cases n:(s.aV (dZ true L (b+i))&&Nat.blt (b+i) HL) with
     |false=>rw[fQ];exact d _ _ _ h
     |true=>
      rw[gY];rw[bB] at n;have l:L≠dZ true L (b+i):=by
       intro e;rw[zi,oZ] at o;exact o.1 e
      obtain⟨g',f⟩:=h.canon l (zS (ig n.2)) n.1;exact d _ _ _ f
  |slz L e sh xs o2 j c t q ys=>
   cases o2 with
   |none=>
    unfold kQ;obtain⟨g',f⟩:=rZ (b+i) L h;exact d _ _ _ f
   |some L2=>
    unfold kQ;obtain⟨g',f⟩:=rZ (b+i) L h;obtain⟨p,m⟩:=rZ (b+i+5000) L2 f;exact d _ _ _ m
  |_=>unfold kQ;exact d _ _ _ h
theorem Hr: ∀(bx:List (Nat×af)) (s:St) (g:Gh),Inv E B G0 w0 s g a w→ ∃g',Inv E B G0 w0 (yL bx s) g' a w:=by
 intro bx;induction bx with
 |nil=>intro s g h;exact⟨g,h⟩
 |cons p bx c=>
  intro s g h;unfold yL;obtain⟨g',b⟩:=JD _ _ 0 s g h;exact c _ _ b
theorem Inv.head (h:Inv E B G0 w0 s g a w) (b:List Nat): ∃g',Inv E B G0 w0 (zN b s) g' a w:=by
 unfold zN;rw[Cs];obtain⟨g1,d⟩:=BR (vJ b s.fr 0) 0 [] _ _ (h.less (CS b _ _ 0 h.fr) fun k e c=>xq (fun k=>!b.contains k||(vJ b s.fr 0).any (V.fB k)) _ _ _ c);exact Hr _ _ _ d
end
theorem jd: ∀{m:List (Nat×Nat)} {k v:Nat},lk m k=some v→(k,v)∈m
 |[],k,v,h=>by cases h
 |(a,b)::m,k,v,h=>by
  unfold lk at h
  cases c:a==k with
  |true=>
   rw[c,gY] at h;simp only[aF] at h;obtain rfl:a=k:=by simpa using c
   subst h;exact sS
  |false=>
   rw[c,fQ] at h;exact vg _ (jd h)
theorem oI: ∀(l:List Nat),mX l=true↔l.Nodup
 |[]=>by simp[mX]
 |a::l=>by
  unfold mX;rw[UM,←oI l]
  cases b:l.contains a with
  |true=>simp at b;simp[b]
  |false=>simp at b;simp[b]
theorem qy: ∀{m:List (Nat×Nat)} {k v:Nat},(m.map (·.1)).Nodup→(k,v)∈m→lk m k=some v
 |[],k,v,_,h=>by cases h
 |(a,b)::m,k,v,d,h=>by
  rw[yJ,UM] at d;unfold lk;rcases List.mem_cons.1 h with h|h
  ·simp only[bP] at h
   obtain⟨rfl,rfl⟩:=h;rw[E8,gY]
  ·have c:a≠k:=fun e=>d.1 (List.mem_map.2 ⟨_,h,e.symm⟩)
   have:(a==k)=false:=by simpa using c
   rw[this,fQ];exact qy d.2 h
theorem MX (m:List (Nat×Nat)):(dK m).map (·.1)=m.map (·.2):=by simp[dK,acK]
theorem lQ {m:List (Nat×Nat)} {a b:Nat}:(a,b)∈dK m↔(b,a)∈m:=by
 unfold dK;rw[ZM];constructor
 ·rintro⟨⟨x,y⟩,d,c⟩;simp only[bP] at c;obtain⟨rfl,rfl⟩:=c;exact d
 ·intro h;exact⟨_,h,rfl⟩
theorem iU {m:List (Nat×Nat)} {k v:Nat} (a:(m.map (·.2)).Nodup) (h:(k,v)∈m):lk (dK m) v=some k:=qy (by rw[MX];exact a) (lQ.2 h)
theorem uh {m:List (Nat×Nat)} {k v b:Nat} (c:(m.map (·.1)).Nodup) (h:(k,v)∈m) (d:(k,b)∈m):v=b:=by
 have a:=qy c h;rw[qy c d] at a;simp only[aF] at a;exact a.symm
theorem jW {g g':Gh} {mb ml:List (Nat×Nat)} (d:g'.G=g.G) (r: ∀L n,lk ml L=some n→g'.O n=g.O L) (t: ∀L n,lk ml L=some n→g'.C n=g.C L) (hβ: ∀k n,lk mb k=some n→g'.β n=g.β k) {x:V} {v:Value} (h:aX g x v):aX g' (qG mb ml x) v:=by
 cases x with
 |sl e sh A xs=>
  cases A with
  |none=>show aJ g'.G _ _;rw[d];exact h
  |some L=>
   show aX g' (.sl e sh (lk ml L) xs) v;obtain⟨m,j⟩:=h
   cases hl:lk ml L with
   |none=>show aJ g'.G _ _;rw[d];exact lM j
   |some n=>exact⟨(r L n hl).trans m,by rw[d];exact j⟩
 |eptr _ _ _ _ _ _=>show aJ g'.G .any v;unfold aJ;trivial
 |epz _ _ _ _ _=>show aJ g'.G .any v;unfold aJ;trivial
 |slz L e sh xs o2 i c s o ys=>
  show aX g' (match lk ml L with|some L'=> .slz L' e sh xs (o2.bind (lk ml)) i c s o ys|none=> .any) v;obtain⟨l,m,j,h3,u⟩:=h
  cases hl:lk ml L with
  |none=>show aJ g'.G .any v;unfold aJ;trivial
  |some n=>
   refine⟨l,(r L n hl).trans m,(t L n hl).trans j,⟨h3.1,h3.2.1,by rw[d];exact h3.2.2⟩,?_⟩
   cases o2 with
   |none=>trivial
   |some L2=>
    show nG g' l sh.length (lk ml L2) i c s o ys;obtain⟨z,w,D,y⟩:=u
    cases q:lk ml L2 with
    |none=>trivial
    |some B=>exact⟨z,(r L2 B q).trans w,by rw[d];exact D,y⟩
 |box k off=>
  show aX g' (match lk mb k with|some k'=> .box k' off|none=> .any) v;obtain⟨b,m,j⟩:=h
  cases hl:lk mb k with
  |none=>show aJ g'.G .any v;unfold aJ;trivial
  |some n=>exact⟨b,(hβ k n hl).trans m,j⟩
 |fn f p=>
  cases p with
  |nil=>show aJ g'.G _ _;rw[d];exact h
  |cons a c=>show aJ g'.G .any v;unfold aJ;trivial
 |old x=>
  show aX g' (bif x.dO then x else .any) v
  cases x.dO
  ·show aJ g'.G .any v;unfold aJ;trivial
  ·exact GV h.2.2 (by rw[d];exact h.2.1)
 |_=>show aJ g'.G _ _;rw[d];exact h
theorem pY {mb ml:List (Nat×Nat)} {x:V} (hx:x.single=true) (d: ∀f c,x≠.fn f c) (g: ∀y,x≠.old y:=by intro y e;cases e):(qG mb ml x).single=true:=by
 cases x with
 |sl e sh h xs=>cases h<;>rfl
 |box k off=>show(match lk mb k with|some k'=>V.box k' off|none=>V.any).single=true;cases lk mb k<;>rfl
 |slz L e sh xs o2 i c b a ys=>show(match lk ml L with|some L'=>V.slz L' e sh xs (o2.bind (lk ml)) i c b a ys|none=>V.any).single=true;cases lk ml L<;>rfl
 |tup _=>cases hx
 |fn f c=>exact absurd rfl (d f c)
 |old y=>exact absurd rfl (g y)
 |_=>rfl
theorem Ah {g g':Gh} {mb ml:List (Nat×Nat)} (b:g'.G=g.G) (j: ∀L n,lk ml L=some n→g'.O n=g.O L) (d: ∀L n,lk ml L=some n→g'.C n=g.C L) (hβ: ∀k n,lk mb k=some n→g'.β n=g.β k) {x:V} {v:Value} (h:aB g x v):aB g' (x.ren mb ml) v:=by
 cases x with
 |tup vs=>
  obtain⟨a,rfl,h⟩:=h;exact⟨a,rfl,dm h fun y _ v q=>jW b j d hβ q⟩
 |fn f m=>
  cases m with
  |nil=>obtain⟨a,rfl,h⟩:=h;exact⟨[],by rw[h.bH],.nil⟩
  |cons a c=>exact gm
 |sl e sh p xs=>exact aW (pY (x:=.sl e sh p xs) rfl (by intro f c e;cases e)) (jW b j d hβ (aL (x:=.sl e sh p xs) rfl h))
 |box k off=>exact aW (pY (ml:=ml) (x:=.box k off) rfl (by intro f c e;cases e)) (jW b j d hβ (aL (x:=.box k off) rfl h))
 |eptr _ _ _ _ _ _=>exact gm
 |epz _ _ _ _ _=>exact gm
 |slz L e sh xs o2 i c o l ys=>exact aW (pY (mb:=mb) (x:=.slz L e sh xs o2 i c o l ys) rfl (by intro f c e;cases e)) (jW b j d hβ (aL (x:=.slz L e sh xs o2 i c o l ys) rfl h))
 |old x=>
  show aB g' (bif x.dO then x else .any) v
  cases x.dO
  ·exact gm
  ·exact bA h.2.2 (by rw[b];exact h.2.1)
 |_=>simp only[aB] at h;exact jW (x:=_) b j d hβ h
theorem gD {a:Nat→Nat→Nat}: ∀(i:Nat) (l:af) (p:Nat×Nat),p∈mF a i l→ ∃j,p.2=a p.1 j
 |i,[],p,h=>by cases h
 |i,x::l,p,h=>by
  cases x with
  |sl e sh d xs=>
   cases d with
   |none=>exact gD (i+1) l p h
   |some L=>
    rcases List.mem_cons.1 h with h|h
    ·subst h;exact⟨i,rfl⟩
    ·exact gD (i+1) l p h
  |slz L e sh xs o2 j c f b ys=>
   cases o2 with
   |none=>
    rcases List.mem_cons.1 h with h|h
    ·subst h;exact⟨i,rfl⟩
    ·exact gD (i+1) l p h
   |some L2=>
    rcases List.mem_cons.1 h with h|h
    ·subst h;exact⟨i,rfl⟩
    ·rcases List.mem_cons.1 h with h|h
     ·subst h;exact⟨i+500,rfl⟩
     ·exact gD (i+1) l p h
  |_=>exact gD (i+1) l p h
theorem Qj {bx:List (Nat×af)} {j:Nat} {x:V} {p:Nat×Nat} (h:p∈(nC bx j x).1):p.2=HL+j∧ ∃a,aj bx p.1=some a:=by
 cases x with
 |box k off=>
  unfold nC at h;simp only at h;split at h
  ·rename_i a c
   simp only[N7] at h;subst h;exact⟨rfl,a,c⟩
  ·cases h
 |sl e sh b xs=>cases b<;>cases h
 |_=>cases h
theorem qz {bx:List (Nat×af)}: ∀(vs:af) (j:Nat) {p:Nat×Nat},p∈(dw bx j vs).1→(∃a,j≤a∧p.2=HL+a)∧ ∃d,aj bx p.1=some d
 |[],j,p,h=>by cases h
 |x::vs,j,p,h=>by
  unfold dw at h;rcases List.mem_append.1 h with h|h
  ·obtain⟨c,b⟩:=Qj h;exact⟨⟨j,iA _,c⟩,b⟩
  ·obtain⟨⟨a,c,b⟩,h3⟩:=qz vs (j+1) h;exact⟨⟨a,by omega,b⟩,h3⟩
theorem Qk {bx:List (Nat×af)} {j:Nat} {x:V} {p:Nat×Nat} (h:p∈(nC bx j x).2):HL≤p.2:=by
 cases x with
 |box k off=>
  unfold nC at h;simp only at h;split at h
  ·obtain⟨i,b⟩:=gD _ _ _ h
   omega
  ·cases h
 |sl e sh a xs=>
  cases a with
  |none=>cases h
  |some L=>
   simp only[nC,N7] at h;subst h;simp only;omega
 |_=>cases h
theorem CU {bx:List (Nat×af)}: ∀(vs:af) (j:Nat) {p:Nat×Nat},p∈(dw bx j vs).2→HL≤p.2
 |[],j,p,h=>by cases h
 |x::vs,j,p,h=>by
  unfold dw at h;rcases List.mem_append.1 h with h|h
  ·exact Qk h
  ·exact CU vs (j+1) h
theorem r9 {x y:V} (h:x.deep=some y) (j:Nat):OD j y=y∧y.sZ=false:=by
 cases x with
 |fn f c=>cases c<;>simp[V.deep] at h;subst h;exact⟨rfl,rfl⟩
 |_=>simp[V.deep] at h<;>subst h<;>exact⟨rfl,rfl⟩
theorem qY {bx:List (Nat×af)}: ∀(a b:af) (j:Nat),(dw bx j (a++b)).1=(dw bx j a).1++(dw bx (j+a.length) b).1
 |[],b,j=>by simp[dw]
 |x::a,b,j=>by
  have e: ∀v l j,(dw bx j (v::l)).1=(nC bx j v).1++(dw bx (j+1) l).1:=fun _ _ _=>rfl
  rw[Kb,e,e,qY a b (j+1),Iz,iy,show j+1+a.length=j+(a.length+1) by omega]
theorem ni {bx:List (Nat×af)} {MB ML:List (Nat×Nat)}: ∀(b a args:af),eT bx MB ML (b++a)=some args→ ∃A H,args=A++H∧eT bx MB ML b=some A∧eT bx MB ML a=some H
 |[],a,args,h=>⟨[],args,rfl,rfl,h⟩
 |x::b,a,args,h=>by
  rw[Kb] at h;unfold eT at h;split at h
  ·rename_i y ys e c
   simp only[aF] at h;subst h;obtain⟨A,H,rfl,f,d⟩:=ni b a ys c;refine⟨y::A,H,rfl,?_,d⟩;unfold eT;rw[e,f]
  ·cases h
theorem pZ: ∀(a:af),∀x∈iE a,∃k,x=.box k Sg
 |[],x,h=>by cases h
 |v::a,x,h=>by
  unfold iE at h;rcases List.mem_append.1 h with h|h
  ·split at h
   ·obtain⟨c,_,b⟩:=List.mem_filterMap.1 h
    split at b
    ·rename_i k d
     exact⟨k,(Option.some.inj b).symm⟩
    ·cases b
   ·cases h
  ·exact pZ a x h
theorem Eh {bx:List (Nat×af)} {MB ML:List (Nat×Nat)}: ∀(c H:af),(∀x∈c,∃k,x=.box k Sg)→eT bx MB ML c=some H→ ∀y∈H,o9 y=true
 |[],H,_,h,y,b=>by
  simp only[eT,aF] at h;subst h
  cases b
 |x::c,H,hx,h,y,b=>by
  obtain⟨k,rfl⟩:=hx x sS;unfold eT at h;split at h
  ·rename_i z e a d
   simp only[aF] at h;subst h;rcases List.mem_cons.1 b with rfl|b
   ·unfold pq at a
    simp only at a;split at a
    ·simp only[aF] at a
     subst a;rfl
    ·cases a
   ·exact Eh c e (fun x h=>hx x (vg _ h)) d y b
  ·cases h
theorem AU: ∀(A H:af) (j:Nat),(∀y∈H,o9 y=true)→bg j (A++H)=bg j A
 |[],H,j,h=>by
  rw[IA];induction H generalizing j with
  |nil=>rfl
  |cons y H b=>
   unfold bg;rw[h y sS,gY,b (j+1) fun z c=>h z (vg _ c)];rfl
 |a::A,H,j,h=>by
  rw[Kb];unfold bg;rw[AU A H (j+1) h]
theorem Ta {H:af} (h: ∀y∈H,o9 y=true) (a:fV H=false):H=[]:=by
 cases H with
 |nil=>rfl
 |cons y H=>
  have:=h y sS;unfold fV at a;rw[UO,zi] at a
  cases y with
  |bxa _ _=>cases a.1
  |_=>cases this
theorem CV {g gi:Gh} {bx:List (Nat×af)} {MB ML:List (Nat×Nat)} (B:gi.G=g.G) (E: ∀L n,lk ML L=some n→gi.O n=g.O L) (H: ∀L n,lk ML L=some n→gi.C n=g.C L) (hβ: ∀k n,(k,n)∈MB→gi.β n=g.β k):
  ∀(o args:af) (vs:List Value) (j:Nat),o.any DT=false→eT bx MB ML o=some args→(∀p∈(dw bx j o).1,p∈MB)→(∀k n,lk MB k=some n→(k,n)∈MB)→PW (DL g) o vs→PW (aB gi) (bg j args) vs
 |[],args,vs,j,_,h,_,_,A=>by
  simp only[eT,aF] at h;subst h;rw[A.bH];exact .nil
 |x::o,args,vs,j,m,h,N,s,A=>by
  rw[UO,zi] at m;obtain⟨v,t,rfl,q,P⟩:=A.cons_inv;unfold eT at h;split at h
  ·rename_i y ys d F
   simp only[aF] at h;subst h;have I:o9 y=false:=by
    cases x with
    |box k off=>
     unfold pq at d;simp only at d;split at d
     ·simp only[aF] at d
      subst d;exact m.1
     ·cases d
    |sl e sh K xs=>
     cases K with
     |none=>simp only[pq,V.deep,aF] at d;subst d;rfl
     |some L=>simp only[pq,aF] at d;subst d;rfl
    |fn f c=>
     cases c with
     |nil=>simp only[pq,V.deep,aF] at d;subst d;rfl
     |cons c l=>obtain⟨_,d⟩:=au (show(bif Nat.blt f rA&&rD (c::l) then some (V.fn f ((c::l).map (qG MB ML))) else none)=some y from d);simp only[aF] at d;subst d;rfl
    |_=>simp[pq,V.deep] at d<;>subst d<;>rfl
   unfold bg;rw[I,fQ];refine .cons ?_ (CV B E H hβ o ys t (j+1) m.2 F (fun p A=>N p (by unfold dw;exact List.mem_append_right _ A)) s P);have hβ': ∀k n,lk MB k=some n→gi.β n=g.β k:=fun k n hl=>hβ k n (s k n hl)
   have w: ∀z,DL g z v→(∀f c,z≠.fn f c)→(∀vs,z≠.tup vs)→aX g z v:=fun z r W Q=>r.elim (fun r=>aL (by cases z<;>first|rfl|exact absurd rfl (Q _)|exact absurd rfl (W _ _)) r) id
   have i:x.deep=some y→aB gi (OD j y) v:=by
    intro D;rw[(r9 D j).1];refine bA (iI D) ?_;rw[B];exact q.elim (fun h=>lq h D) (fun h=>vR h D)
   cases x with
   |box k off=>
    unfold pq at d;simp only at d;split at d
    ·rename_i l J
     simp only[aF] at d;subst d;show aB gi (.box (HL+j) off) v;obtain⟨b,R,S⟩:=w _ q (by intro f c e;cases e) (by intro vs e;cases e);refine cu.2 ⟨b,?_,S⟩;rw[hβ k (HL+j) (N _ (by unfold dw nC;simp only[J];exact acr _ (List.mem_singleton.2 rfl)))];exact R
    ·cases d
   |sl e sh K xs=>
    cases K with
    |none=>exact i d
    |some L=>
     have d:some (qG MB ML (.sl e sh (some L) xs))=some y:=d;simp only[aF] at d;subst d;show aB gi (.sl e sh (lk ML L) xs) v;exact aW rfl (jW (x:=.sl e sh (some L) xs) B E H hβ' (w _ q (by intro f c e;cases e) (by intro vs e;cases e)))
   |fn f c=>
    cases c with
    |nil=>exact i d
    |cons c l=>
     obtain⟨U,d⟩:=au (show(bif Nat.blt f rA&&rD (c::l) then some (V.fn f ((c::l).map (qG MB ML))) else none)=some y from d);simp only[aF] at d;subst d;show aB gi (.fn f ((c::l).map (qG MB ML))) v;have q:aB g (.fn f (c::l)) v:=q.elim id fun h=>by
      have h:aJ g.G (.fn f (c::l)) v:=h;unfold aJ at h;exact absurd h.2 (by simp)
     obtain⟨a,T,M⟩:=q;exact⟨a,T,dm M fun z _ u r=>jW B E H hβ' r⟩
   |_=>exact i d
  ·cases h
theorem nO {bx:List (Nat×af)} {MB ML:List (Nat×Nat)}: ∀(m args:af) (j:Nat),eT bx MB ML m=some args→ ∀l b,aj (bZ j args) l=some b→ ∃k g,(k,l)∈(dw bx j m).1∧aj bx k=some g∧b=g.map (V.ren MB ML)
 |[],args,j,h,l,b,hl=>by
  simp only[eT,aF] at h;subst h
  cases hl
 |x::m,args,j,h,l,b,hl=>by
  unfold eT at h;split at h
  ·rename_i y ys d p
   simp only[aF] at h;subst h;have i:aj (bZ (j+1) ys) l=some b→ ∃k g,(k,l)∈(dw bx j (x::m)).1∧aj bx k=some g∧b=g.map (V.ren MB ML):=by
    intro hl;obtain⟨k,g,s,r⟩:=nO m ys (j+1) p l b hl;exact⟨k,g,by unfold dw;exact List.mem_append_right _ s,r⟩
   have a:x.deep=some y→ ∃k g,(k,l)∈(dw bx j (x::m)).1∧aj bx k=some g∧b=g.map (V.ren MB ML):=by
    intro q;have:=(r9 q j).2;refine i ?_
    cases y with
    |bxa _ _=>cases this
    |_=>exact hl
   cases x with
   |box k off=>
    unfold pq at d;simp only at d;split at d
    ·rename_i g n
     simp only[aF] at d;subst d;unfold bZ aj at hl
     cases o:HL+j==l with
     |true=>
      rw[o,gY] at hl;simp only[aF] at hl;obtain rfl:HL+j=l:=by simpa using o
      exact⟨k,g,by unfold dw nC;simp only[n];exact acr _ (List.mem_singleton.2 rfl),n,hl.symm⟩
     |false=>
      rw[o,fQ] at hl;exact i hl
    ·cases d
   |sl e sh t xs=>
    cases t with
    |none=>exact a d
    |some L=>
     have d:some (qG MB ML (.sl e sh (some L) xs))=some y:=d;simp only[aF] at d;subst d;exact i hl
   |fn f c=>
    cases c with
    |nil=>exact a d
    |cons c g=>
     obtain⟨_,d⟩:=au (show(bif Nat.blt f rA&&rD (c::g) then some (V.fn f ((c::g).map (qG MB ML))) else none)=some y from d);simp only[aF] at d;subst d;exact i hl
   |_=>exact a d
  ·cases h
theorem sj {bx:List (Nat×af)} {MB ML:List (Nat×Nat)}: ∀(m args:af) (j:Nat) (bs:List (af)),eT bx MB ML m=some args→ ∀(i:Nat) k l g,(dw bx j m).1[i]? =some (k,l)→bs[i]? =some g→aj (dW j args bs) l=some g
 |[],args,j,bs,h,i,k,l,g,d,_=>by simp[dw] at d
 |x::m,args,j,bs,h,i,k,l,g,d,n=>by
  unfold eT at h;split at h
  ·rename_i y ys b o
   simp only[aF] at h;subst h;unfold dw at d;have plain:(nC bx j x).1=[]→dW j (y::ys) bs=dW (j+1) ys bs→aj (dW j (y::ys) bs) l=some g:=by
    intro q u;rw[q] at d;rw[u];exact sj m ys (j+1) bs o i k l g d n
   have a:x.deep=some y→(nC bx j x).1=[]→aj (dW j (y::ys) bs) l=some g:=by
    intro r q;have:=(r9 r j).2;refine plain q ?_
    cases y with
    |bxa _ _=>cases this
    |_=>rfl
   cases x with
   |box A off=>
    unfold pq at b;simp only at b;split at b
    ·rename_i t p
     simp only[aF] at b;subst b;unfold nC at d;simp only[p] at d
     cases bs with
     |nil=>simp at n
     |cons C bs=>
      cases i with
      |zero=>
       simp only[Kb,IA,BZ,aF,bP] at d n;obtain⟨rfl,rfl⟩:=d;subst n;unfold dW aj;rw[E8,gY]
      |succ i=>
       simp only[Kb,IA,XG] at d n;have w:=Bz d;obtain⟨⟨z,B,s⟩,_⟩:=qz m (j+1) w;unfold dW aj;have:(HL+j==l)=false:=by
        rw[oZ];simp only at s;omega
       rw[this,fQ];exact sj m ys (j+1) bs o i k l g d n
    ·cases b
   |sl e sh v xs=>
    cases v with
    |none=>exact a b rfl
    |some L=>
     have b:some (qG MB ML (.sl e sh (some L) xs))=some y:=b;simp only[aF] at b;subst b;exact plain rfl rfl
   |fn f c=>
    cases c with
    |nil=>exact a b rfl
    |cons c g=>
     obtain⟨_,b⟩:=au (show(bif Nat.blt f rA&&rD (c::g) then some (V.fn f ((c::g).map (qG MB ML))) else none)=some y from b);simp only[aF] at b;subst b;exact plain rfl rfl
   |_=>exact a b rfl
  ·cases h
theorem wo {E:Env} {B:Own} {G0:aI} {w0:World} {a:Act} {w:World}: ∀(l:List Nat) (s:St) (g:Gh),Inv E B G0 w0 s g a w→
  ∃g',g'.G=g.G∧g'.β=g.β∧(∀k,k∈l→g'.O k=none)∧(∀k,k∉l→g'.O k=g.O k)∧g'.G1=g.G1∧g'.C=g.C∧Inv E B G0 w0 (mG s l) g' a w
 |[],s,g,h=>⟨g,rfl,rfl,(fun k b=>absurd b (by simp)),(fun _ _=>rfl),rfl,rfl,h⟩
 |L::l,s,g,h=>by
  obtain⟨g',f,d,h3,c,e,i,j⟩:=wo l (s.kill L) _ (h.kill L);refine⟨g',f,d,fun k b=>?_,fun k b=>?_,e,i,j⟩
  ·by_cases hl:k∈l
   ·exact h3 k hl
   ·rw[c k hl]
    rcases List.mem_cons.1 b with rfl|b
    ·exact if_pos rfl
    ·exact absurd b hl
  ·rw[Xr,not_or] at b
   rw[c k b.2];exact if_neg b.1
theorem lX: ∀(l:List Nat) (s:St) (k:Nat),(∃a,aj (mG s l).bx k=some a)↔ ∃a,aj s.bx k=some a
 |[],s,k=>Iff.rfl
 |L::l,s,k=>by
  unfold mG;rw[lX l,lu]
  cases aj s.bx k<;>simp
theorem AV (k:Nat) (b:af): ∀(l:List (Nat×af)) (j:Nat),(∃a,aj (fH l k b) j=some a)↔ ∃a,aj l j=some a
 |[],j=>Iff.rfl
 |(i,a)::l,j=>by
  unfold fH
  cases c:i==k with
  |true=>
   rw[gY];unfold aj;obtain rfl:i=k:=by simpa using c
   cases i==j<;>simp
  |false=>
   rw[fQ];unfold aj
   cases i==j with
   |true=>simp
   |false=>exact AV k b l j
theorem AX {mb ml:List (Nat×Nat)}: ∀(l:List (Nat×Nat)) (bs:List (af)) (bx:List (Nat×af)),bs.length=l.length→(l.map (·.1)).Nodup→(∀p∈l,∃old,aj bx p.1=some old)→ ∀k,
  (∃(i:Nat) (q:Nat) (m:af),l[i]? =some (k,q)∧bs[i]? =some m∧aj (Ci mb ml l bs bx) k=some (m.map (V.ren mb ml)))∨((∀p∈l,p.1≠k)∧aj (Ci mb ml l bs bx) k=aj bx k)
 |[],bs,bx,_,_,_,k=> .inr ⟨(fun p g=>absurd g (by simp)),by cases bs<;>rfl⟩
 |(a,b)::l,[],bx,hl,_,_,k=>by simp at hl
 |(a,b)::l,c::bs,bx,hl,r,s,k=>by
  rw[yJ,UM] at r;obtain⟨old,d⟩:=s (a,b) sS;have d:aj bx a=some old:=d;have f:=fun j=>lW bx a j (c.map (V.ren mb ml)) old d
  unfold Ci;rcases AX l bs (fH bx a (c.map (V.ren mb ml))) (by simpa using hl) r.2 (fun p g=>(AV _ _ bx p.1).2 (s p (vg _ g))) k with⟨i,q,m,o,h,h3⟩|⟨o,h⟩
  ·exact .inl ⟨i+1,q,m,by simpa using o,by simpa using h,h3⟩
  ·by_cases n:k=a
   ·subst n
    refine .inl ⟨0,b,c,rfl,rfl,?_⟩;rw[h,f k,if_pos rfl]
   ·refine .inr ⟨fun p g=>?_,?_⟩
    ·rcases List.mem_cons.1 g with rfl|g
     ·exact fun e=>n e.symm
     ·exact o p g
    ·rw[h,f k,if_neg n]
theorem mO: ∀(l:List (Nat×Nat)) (a:List Nat),((lI a l).map (·.1)).Nodup∧ ∀p∈lI a l,p∈l∧p.1∉a
 |[],a=>⟨List.nodup_nil,(fun p b=>absurd b (by simp[lI]))⟩
 |(L,n)::l,a=>by
  unfold lI
  cases f:a.contains L with
  |true=>
   rw[gY];obtain⟨d,c⟩:=mO l a;exact⟨d,fun p b=>⟨vg _ (c p b).1,(c p b).2⟩⟩
  |false=>
   rw[fQ];obtain⟨d,c⟩:=mO l (L::a);simp at f;refine⟨?_,fun p b=>?_⟩
   ·rw[yJ,UM]
    refine⟨fun g=>?_,d⟩;obtain⟨p,b,h⟩:=List.mem_map.1 g;exact(c p b).2 (by rw[h];exact sS)
   ·rcases List.mem_cons.1 b with rfl|b
    ·exact⟨sS,f⟩
    ·obtain⟨h3,i⟩:=c p b
     exact⟨vg _ h3,fun e=>i (vg _ e)⟩
theorem CW {any:Bool} {d:Nat} {x:V}: ∀(mb:List (Nat×Nat)) (bs:List (af)) (p:Nat×Nat),p∈zz any d x mb bs→ ∃i,p.2=dZ any p.1 i
 |[],bs,p,h=>by
  have h:p∈mF (fun L i=>dZ any L (match i with|0=>d|_=>d+1000*i)) 0 (vF x):=by cases bs<;>exact h
  obtain⟨j,a⟩:=gD _ _ _ h;exact⟨_,a⟩
 |(k,b)::mb,[],p,h=>by
  have h:p∈mF (fun L i=>dZ any L (match i with|0=>d|_=>d+1000*i)) 0 (vF x):=h;obtain⟨j,a⟩:=gD _ _ _ h;exact⟨_,a⟩
 |(k,b)::mb,c::bs,p,h=>by
  unfold zz at h;rcases List.mem_append.1 h with h|h
  ·obtain⟨j,a⟩:=gD _ _ _ h
   exact⟨_,a⟩
  ·exact CW mb bs p h
section
variable {E:Env} {B:Own} {G0:aI} {w0:World} {s:St} {g:Gh} {a:Act} {w:World}
def qT (g:Gh) (w:World) (mb ml:List (Nat×Nat)):Own where
 m:=fun b=>(∃k a,(k,a)∈mb∧g.β k=some b)∨(∃L n v e c,(L,n)∈ml∧g.O L=some (v,e,c)∧v.ownBlock=some b)∨w.heap.size≤b
 n:=w.heap.size
 β:=fun a=>match lk (dK mb) a with|some k=>g.β k|none=>none
 df:=[]
def mI (g:Gh) (mb ml:List (Nat×Nat)):Gh where
 G:=g.G
 O:=fun n=>match lk (dK ml) n with|some L=>g.O L|none=>none
 β:=fun a=>match lk (dK mb) a with|some k=>g.β k|none=>none
 G1:=g.G
 C:=fun n=>match lk (dK ml) n with|some L=>g.C L|none=>none
theorem xu: ∀{l:List (Nat×Nat)},qQ l=false→ ∀{L n:Nat},(L,n)∈l→L<HL
 |[],_,L,n,h=>by cases h
 |(a,b)::l,h,L,n,c=>by
  unfold qQ at h;rw[zi] at h;rcases List.mem_cons.1 c with c|c
  ·simp only[bP] at c
   rw[c.1];refine N9 fun e=>?_
   rw[Zw e] at h
   cases h.1
  ·exact xu h.2 c
theorem xw {mb ml:List (Nat×Nat)} (h:lF mb ml=true):(mb.map (·.1)).Nodup∧(mb.map (·.2)).Nodup∧(ml.map (·.1)).Nodup∧(ml.map (·.2)).Nodup:=by
 unfold lF at h;simp only[bB,oI] at h;exact⟨h.1.1.1,h.1.1.2,h.1.2,h.2⟩
theorem p8 {bx:List (Nat×af)} {a args:af} {mb ml:List (Nat×Nat)} (h:lG bx 0 a=some (args,mb,ml)):mb=(dw bx 0 (a++iE a)).1∧ml=(dw bx 0 (a++iE a)).2∧eT bx mb ml (a++iE a)=some args∧a.any DT=false:=by
 unfold lG at h
 cases b:a.any DT with
 |true=>rw[b] at h;cases h
 |false=>
  rw[b,fQ] at h;unfold KF at h;split at h
  ·rename_i x hx
   simp only[aF,bP] at h;obtain⟨rfl,rfl,rfl⟩:=h;exact⟨rfl,rfl,hx,rfl⟩
  ·cases h
theorem Wt (h:Inv E B G0 w0 s g a w) {mb ml:List (Nat×Nat)} (u: ∀p∈mb,∃i,aj s.bx p.1=some i): ∀b,(qT g w mb ml).m b→B.m b:=by
 rintro b (⟨k,A,x,c⟩|⟨L,n,v,e,q,hL,z,c⟩|c)
 ·obtain⟨i,y⟩:=u _ x
  obtain⟨t,_,_,j,r,_⟩:=h.bxs.1 k i y;rw[c] at j;simp only[aF] at j;rw[j];exact r
 ·rcases(h.own.1 L v e q z).2 with f|⟨t,n,cap,o,l,f,d,_⟩
  ·rw[f] at c;cases c
  ·rw[f] at c
   simp only[Value.ownBlock,aF] at c;rw[←c];exact d.1
 ·exact h.hB.2 b c
theorem lY (h:Inv E B G0 w0 s g a w) {f args:af} {vs:List Value} {mb ml:List (Nat×Nat)} (z:PW (DL g) f vs) (ho:lG s.bx 0 f=some (args,mb,ml)) (hn:lF mb ml=true):
  Inv E (qT g w mb ml) g.G w ⟨bg 0 args,bZ 0 args⟩ (mI g mb ml) ⟨vs.toArray,[]⟩ w:=by
 obtain⟨n1,n2,n3,n4⟩:=xw hn;obtain⟨N,e2,I,Q⟩:=p8 ho;have hm: ∀p∈mb,(∃j,p.2=HL+j)∧ ∃F,aj s.bx p.1=some F:=fun p z=>by
  rw[N] at z;obtain⟨⟨j,_,hj⟩,hc⟩:=qz (f++iE f) 0 z;exact⟨⟨j,hj⟩,hc⟩
 have hl: ∀p∈ml,HL≤p.2:=fun p z=>by rw[e2] at z;exact CU (f++iE f) 0 z
 have hO: ∀L n,lk ml L=some n→(mI g mb ml).O n=g.O L:=fun L n hl=>by
  show(match lk (dK ml) n with|some L=>g.O L|none=>none)=_;rw[iU n4 (jd hl)]
 have hC: ∀L n,lk ml L=some n→(mI g mb ml).C n=g.C L:=fun L n hl=>by
  show(match lk (dK ml) n with|some L=>g.C L|none=>none)=_;rw[iU n4 (jd hl)]
 have hC2: ∀L n,(L,n)∈ml→(mI g mb ml).C n=g.C L:=fun L n hl=>by
  show(match lk (dK ml) n with|some L=>g.C L|none=>none)=_;rw[iU n4 hl]
 have hβ: ∀k n,(k,n)∈mb→(mI g mb ml).β n=g.β k:=fun k n hl=>by
  show(match lk (dK mb) n with|some L=>g.β L|none=>none)=_;rw[iU n2 hl]
 have d: ∀n x,(mI g mb ml).O n=some x→ ∃L,(L,n)∈ml∧g.O L=some x:=fun n x hx=>by
  have hx:(match lk (dK ml) n with|some L=>g.O L|none=>none)=some x:=hx;split at hx
  ·rename_i L hL;exact⟨L,lQ.1 (jd hL),hx⟩
  ·cases hx
 refine⟨?_,rfl,h.gok,⟨fun n v e K J=>?_,fun n n' v v' e e' K Y b o t i hb'=>?_⟩,⟨fun u r q=>?_,fun k u F r hk q i=>?_⟩,.refl _ _,⟨iA _,fun b i=> .inr (.inr i)⟩,⟨fun _ _=>rfl,.refl _,fun _ _=>rfl⟩,⟨h.eD,fun b l i=>dU h.gok i⟩,.refl _,fun u r n v e K b q J i UU=>?_⟩
 ·show PW (aB (mI g mb ml)) (bg 0 args) vs.toArray.toList
  rw[ZA];obtain⟨A,H,rfl,hA,hH⟩:=ni f (iE f) args I;rw[AU A H 0 (Eh (iE f) H (pZ f) hH)];exact CV (g:=g) (gi:=mI g mb ml) rfl hO hC hβ f A vs 0 Q hA (fun p z=>by rw[N,qY];exact acr _ z) (fun k n=>jd) z
 ·obtain⟨L,hL,hx⟩:=d n _ J
  obtain⟨o,t⟩:=h.own.1 L v e K hx;refine⟨o,t.imp id ?_⟩;rintro⟨b,m,cap,U,l,P,i,hh,X,S,hcs,D,W⟩;refine⟨b,m,cap,U,l,P,⟨.inr (.inl ⟨L,n,v,e,K,hL,hx,by rw[P];rfl⟩),fun hlt=>?_⟩,hh,X,S,hcs,by
   unfold kz at D⊢;rw[hC2 L n hL];exact D,W⟩
  have:=hl _ hL;simp only at this;omega
 ·obtain⟨L,hL,hx⟩:=d n _ o
  obtain⟨L',hL',R⟩:=d n' _ t;have:=h.own.2 L L' v v' e e' K Y b hx R i hb';subst this;exact uh n3 hL hL'
 ·obtain⟨k,F,o,t,rfl⟩:=nO (f++iE f) args 0 I u r q
  rw[←N] at o;obtain⟨b,c,e,i,hBb,hh,T,M,hG,Z⟩:=h.bxs.1 k F t;exact⟨b,c,e,(hβ k u o).trans i,.inl ⟨k,u,o,i⟩,hh,dm T fun y _ v I=>Ah (g:=g) (g':=mI g mb ml) rfl hO hC (fun k n hl=>hβ k n (jd hl)) I,M,hG,jf (Ac _ _) Z⟩
 ·obtain⟨k1,cs1,o,t,_⟩:=nO (f++iE f) args 0 I k F hk
  obtain⟨k2,cs2,h3,h4,_⟩:=nO (f++iE f) args 0 I u r q;rw[←N] at o h3;rw[hβ k1 k o,hβ k2 u h3] at i;have:=h.bxs.2 k1 k2 cs1 cs2 t h4 i;subst this;exact uh n1 o h3
 ·obtain⟨L,hL,hx⟩:=d n _ J
  obtain⟨k,F,o,t,_⟩:=nO (f++iE f) args 0 I u r q;rw[←N] at o;rw[hβ k u o] at UU;exact h.zb k F L v e K b t hx i UU
theorem wu (h:Inv E B G0 w0 s g a w) {as args:af} {mb ml:List (Nat×Nat)} (ho:lG s.bx 0 as=some (args,mb,ml)) (hn:lF mb ml=true) {d:Option Nat} {x:V} {bs:List (af)} {s':St} (hs:lJ s d mb ml x bs=some s')
  {g1:Gh} {v:Value} {w':World} (hx:Inv E (qT g w mb ml) g.G w ⟨[x],dW 0 args bs⟩ g1 ⟨#[v],[]⟩ w'):
  ∃g2,Inv E B G0 w0 s' g2 (a.put d v) w':=by
 obtain⟨n1,n2,n3,n4⟩:=xw hn;obtain⟨e1,e2,hv,hnoh⟩:=p8 ho;have hm: ∀p∈mb,(∃j,p.2=HL+j)∧ ∃N,aj s.bx p.1=some N:=fun p hp=>by
  rw[e1] at hp;obtain⟨⟨j,_,hj⟩,hc⟩:=qz (as++iE as) 0 hp;exact⟨⟨j,hj⟩,hc⟩
 unfold lJ at hs;have VY:=mO (zz (qQ ml) (ZP d) x mb bs) [];have hcls: ∀p∈lI [] (zz (qQ ml) (ZP d) x mb bs),∃i,p.2=dZ (qQ ml) p.1 i:=fun p hp=>CW mb bs p (VY.2 p hp).1
 have n6:=VY.1;clear VY;generalize lI [] (zz (qQ ml) (ZP d) x mb bs)=BA at hs hcls n6;unfold KG at hs;obtain⟨hc,hs⟩:=au hs;rw[bB,oI,fT] at hc;obtain⟨n5,hlen⟩:=hc;simp only[aF] at hs;obtain⟨ga,ga1,ga2,ga3,ga4,ga5,ga6,ha⟩:=wo (ml.map (·.1)) s g h;obtain⟨Y,gb1,gb2,gb3,gb4,gb5,gb6,hb⟩:=wo (BA.map (·.2)) _ ga ha;have z: ∀L x,Y.O L=some x→g.O L=some x∧(∀n,(L,n)∉ml)∧ ∀n,(n,L)∉BA:=by
  intro L x hL;by_cases r:L∈BA.map (·.2)
  ·rw[gb3 L r] at hL;cases hL
  ·rw[gb4 L r] at hL
   by_cases M:L∈ml.map (·.1)
   ·rw[ga3 L M] at hL;cases hL
   ·rw[ga4 L M] at hL
    exact⟨hL,fun n hn=>M (List.mem_map.2 ⟨_,hn,rfl⟩),fun n hn=>r (List.mem_map.2 ⟨_,hn,rfl⟩)⟩
 have Yn: ∀k N b,aj s.bx k=some N→(∀p∈mb,p.1≠k)→g.β k=some b→ ¬(qT g w mb ml).m b:=by
  intro k N b t hne f;obtain⟨b1,c1,_,F,_,q3,_,_,q6,_⟩:=h.bxs.1 k N t;rw[f] at F;simp only[aF] at F;subst F;rintro(⟨k2,q,r,M⟩|⟨L,n,v,e,J,hL,hO,hb''⟩|h3)
  ·obtain⟨_,cs2,hc2⟩:=hm _ r
   exact hne _ r (h.bxs.2 k2 k cs2 N hc2 t (M.trans f.symm))
  ·exact h.zb k N L v e J b t hO hb'' f
  ·have:=(Array.getElem?_eq_some_iff.1 q3).1
   omega
 have R: ∀L v e J b,g.O L=some (v,e,J)→(∀n,(L,n)∉ml)→v.ownBlock=some b→ ¬(qT g w mb ml).m b:=by
  intro L v e J b hO hne f;rcases(h.own.1 L v e J hO).2 with hv|⟨b2,_,_,_,l,hv,_,hh,_,_,_,hG,_⟩
  ·rw[hv] at f;cases f
  ·have o:=f
   rw[hv] at o;simp only[Value.ownBlock,aF] at o;subst o;rintro(⟨k2,q,r,M⟩|⟨L2,n,v2,e2,VC,P,hO2,o⟩|h3)
   ·obtain⟨_,cs2,hc2⟩:=hm _ r
    exact h.zb k2 cs2 L v e J b2 hc2 hO f M
   ·have:=h.own.2 L L2 v v2 e e2 J VC b2 hO hO2 f o
    subst this;exact hne _ P
   ·have:=(Array.getElem?_eq_some_iff.1 hh).1
    omega
 have hmM:=Wt h (ml:=ml) fun p hp=>(hm p hp).2
 let O2:Nat→Option (Value×Nat×Nat):=fun L=>match lk (dK BA) L with|some n=>g1.O n|none=>Y.O L
 let C2:Nat→Option (List Value):=fun L=>match lk (dK BA) L with|some n=>g1.C n|none=>Y.C L
 let g2:Gh:=⟨g1.G,O2,g.β,g.G1,C2⟩
 have Z: ∀L x,Y.O L=some x→C2 L=Y.C L:=by
  intro L x hL;have r:=(z L x hL).2.2;show(match lk (dK BA) L with|some n=>g1.C n|none=>Y.C L)=_
  cases hq:lk (dK BA) L with
  |some n=>exact absurd (lQ.1 (jd hq)) (r n)
  |none=>rfl
 have X: ∀n L,(n,L)∈BA→C2 L=g1.C n:=by
  intro n L hL;show(match lk (dK BA) L with|some n=>g1.C n|none=>Y.C L)=_;rw[iU n5 hL]
 have Wu: ∀L x,Y.O L=some x→O2 L=some x:=by
  intro L x hL;have r:=(z L x hL).2.2;show(match lk (dK BA) L with|some n=>g1.O n|none=>Y.O L)=_
  cases hq:lk (dK BA) L with
  |some n=>exact absurd (lQ.1 (jd hq)) (r n)
  |none=>exact hL
 have Wv: ∀n L,lk BA n=some L→O2 L=g1.O n:=by
  intro n L hL;show(match lk (dK BA) L with|some n=>g1.O n|none=>Y.O L)=_;rw[iU n5 (jd hL)]
 have I: ∀L x,O2 L=some x→(∃n,(n,L)∈BA∧g1.O n=some x)∨Y.O L=some x:=by
  intro L x hL;have hL:(match lk (dK BA) L with|some n=>g1.O n|none=>Y.O L)=some x:=hL;split at hL
  ·rename_i n hq;exact .inl ⟨n,lQ.1 (jd hq),hL⟩
  ·exact .inr hL
 have hext:Ext Y g2:=by
  refine⟨?_,Wu,fun L v e J b hL f=>?_,fun k b t=>?_,by rw[gb5,ga5],fun L x hL=>Z L x hL⟩
  ·rw[gb1,ga1];exact hx.ext.2.1
  ·obtain⟨F,q2,_⟩:=z L _ hL
   show g1.G b=Y.G b;rw[gb1,ga1];exact hx.ext.1 b (R L v e J b F q2 f)
  ·rw[gb2,ga2] at t;exact t
 have XZ: ∀k q,lk (dK mb) q=some k→g2.β k=g1.β q:=by
  intro k q t;have hmem:=lQ.1 (jd t);obtain⟨⟨j,hj⟩,_⟩:=hm _ hmem;simp only at hj;rw[hx.ext.2.2 q (by omega)];show g.β k=(match lk (dK mb) q with|some k=>g.β k|none=>none)
  rw[t]
 have Yo: ∀(y:V) (u:Value),aB g1 y u→aB g2 (y.ren (dK mb) BA) u:=fun y u hy=>Ah (g:=g1) (g':=g2) rfl (fun n L hL=>Wv n L hL) (fun n L hL=>X n L (jd hL)) (fun q k t=>XZ k q t) hy
 have H: ∀k N,aj (mG (mG s (ml.map (·.1))) (BA.map (·.2))).bx k=some N→ ∃cs0,aj s.bx k=some cs0:=fun k N t=>(lX _ _ _).1 ((lX _ _ _).1 ⟨N,t⟩)
 have U:=AX (mb:=dK mb) (ml:=BA) mb bs (mG (mG s (ml.map (·.1))) (BA.map (·.2))).bx hlen n1 (fun p hp=>(lX _ _ _).2 ((lX _ _ _).2 (hm p hp).2));have Q: ∀(i:Nat) k q N,mb[i]? =some (k,q)→bs[i]? =some N→aj (dW 0 args bs) q=some N:=fun i k q N r M=>sj (as++iE as) args 0 bs hv i k q N (by rw[←e1];exact r) M
 have hboxG: ∀k q b,(k,q)∈mb→g.β k=some b→g1.G b=none:=by
  intro k q b t f;obtain⟨i,hi⟩:=BD t;have hib:i<bs.length:=by rw[hlen];exact(List.getElem?_eq_some_iff.1 hi).1
  obtain⟨b2,_,_,F,_,_,_,_,q6,_⟩:=hx.bxs.1 q _ (Q i k q _ hi (gQ hib));rw[←XZ k q (iU n2 t)] at F;have F:g.β k=some b2:=F;rw[f] at F;simp only[aF] at F;rw[F];exact q6
 have hbig:Inv E B G0 w0 ⟨(mG (mG s (ml.map (·.1))) (BA.map (·.2))).fr,Ci (dK mb) BA mb bs (mG (mG s (ml.map (·.1))) (BA.map (·.2))).bx⟩ g2 a w':=by
  refine⟨hb.fr.mono fun y _ u=>nI hext,h.df,hx.gok,⟨fun L v e J hL=>?_,fun L L' v v' e e' J sz' b hL hL' T o=>?_⟩,⟨fun k N t=>?_,fun k q N cs' t hk' hbe=>?_⟩,h.gN.trans (hx.gN.mono hmM),yN h.hB hx.gN.gN.size,⟨fun b hbm=>(hx.ext.1 b fun e=>hbm (hmM b e)).trans (h.ext.1 b hbm),h.ext.2.1.trans hx.ext.2.1,h.ext.2.2⟩,h.glob,h.g1,fun k N L v e J b t hL f UU=>?_⟩
  ·rcases I L _ hL with⟨n,hn',hL⟩|hL
   ·obtain⟨F,q2⟩:=hx.own.1 n v e J hL
    refine⟨F,q2.imp id ?_⟩;rintro⟨b,m,cap,cur,l,D,K,hh,hnc,hcm,hcs,hG,hl⟩;refine⟨b,m,cap,cur,l,D,⟨hmM b K.1,fun hlt=>?_⟩,hh,hnc,hcm,hcs,by
     unfold kz at hG⊢;rw[show g2.C L=g1.C n from X n L hn'];exact hG,hl⟩
    obtain⟨i,hi⟩:=hcls _ hn';simp only at hi;by_cases hnl:n<HL
    ·exact zl h.hB.1 (K.2 hnl)
    ·have hany:qQ ml=false:=by
      cases hq:qQ ml with
      |false=>rfl
      |true=>
       rw[hq] at hi;unfold dZ at hi;rw[Zw (Nat.le_of_not_lt hnl),Bool.and_self,gY] at hi;omega
     rcases K.1 with⟨k2,q,r,M⟩|⟨L2,n2',v2,e2,VC,P,hO2,o⟩|h3
     ·exfalso
      obtain⟨i2,hi2⟩:=BD r;have hib:i2<bs.length:=by rw[hlen];exact(List.getElem?_eq_some_iff.1 hi2).1
      refine hx.zb q _ n v e J b (Q i2 k2 q _ hi2 (gQ hib)) hL (by rw[D];rfl) ?_;rw[←XZ k2 q (iU n2 r)];exact M
     ·have h5:=xu hany P
      rcases(h.own.1 L2 v2 e2 VC hO2).2 with hv2|⟨b3,_,_,_,_,hv2,hok2,_⟩
      ·rw[hv2] at o;cases o
      ·rw[hv2] at o
       simp only[Value.ownBlock,aF] at o;rw[←o];exact hok2.2 h5
     ·exact zl h.hB.1 h3
   ·obtain⟨r1,r2,_⟩:=z L _ hL
    obtain⟨F,q2⟩:=h.own.1 L v e J r1;refine⟨F,q2.imp id ?_⟩;rintro⟨b,m,cap,cur,l,D,K,hh,hnc,hcm,hcs,hG,hl⟩;have A:=R L v e J b r1 r2 (by rw[D];rfl);exact⟨b,m,cap,cur,l,D,K,by rw[hx.gN.row b A];exact hh,hnc,hcm,hcs,hG.keep (show C2 L=g.C L by rw[Z L _ hL,gb6,ga6]) (hx.ext.1 b A),hl⟩
  ·rcases I L _ hL with⟨n,hn1,hL1⟩|hL1<;>rcases I L' _ hL' with⟨n',hn2,P⟩|P
   ·have:=hx.own.2 n n' v v' e e' J sz' b hL1 P T o
    subst this;exact uh n6 hn1 hn2
   ·exfalso
    obtain⟨r1,r2,_⟩:=z L' _ P;have A:=R L' v' e' sz' b r1 r2 o;rcases(hx.own.1 n v e J hL1).2 with D|⟨b3,_,_,_,_,D,K,_⟩
    ·rw[D] at T;cases T
    ·rw[D] at T
     simp only[Value.ownBlock,aF] at T;rw[←T] at A;exact A K.1
   ·exfalso
    obtain⟨r1,r2,_⟩:=z L _ hL1;have A:=R L v e J b r1 r2 T;rcases(hx.own.1 n' v' e' sz' P).2 with D|⟨b3,_,_,_,_,D,K,_⟩
    ·rw[D] at o;cases o
    ·rw[D] at o
     simp only[Value.ownBlock,aF] at o;rw[←o] at A;exact A K.1
   ·exact h.own.2 L L' v v' e e' J sz' b (z L _ hL1).1 (z L' _ P).1 T o
  ·rcases U k with⟨i,q,W,r,M,h3⟩|⟨r,M⟩
   ·rw[h3] at t
    simp only[aF] at t;subst t;have hmem:=Bz r;obtain⟨_,cs0,VZ⟩:=hm _ hmem;obtain⟨b,_,_,p1,p2,_⟩:=h.bxs.1 k cs0 VZ;obtain⟨b2,c,e,F,_,q3,q4,q5,q6,q7⟩:=hx.bxs.1 q W (Q i k q W r M);rw[←XZ k q (iU n2 hmem)] at F;have F:g.β k=some b2:=F;rw[p1] at F;simp only[aF] at F;subst F;exact⟨b,c,e,p1,p2,q3,dm q4 fun y _ u=>Yo y u,q5,q6,jf (Ac _ _) q7⟩
   ·rw[M] at t
    obtain⟨cs0,VZ⟩:=H k N t;obtain⟨b,c,e,F,q2,q3,q4,q5,q6,q7⟩:=hb.bxs.1 k N t;rw[gb2,ga2] at F;rw[gb1,ga1] at q6;have A:=Yn k cs0 b VZ r F;exact⟨b,c,e,F,q2,by rw[hx.gN.row b A];exact q3,q4.mono fun y _ u=>nI hext,q5,by show g1.G b=none;rw[hx.ext.1 b A];exact q6,q7⟩
  ·have S: ∃W,aj s.bx k=some W:=by
    rcases U k with⟨i,k1,W,r,_⟩|⟨_,M⟩
    ·exact(hm _ (Bz r)).2
    ·rw[M] at t;exact H k N t
   have hk0': ∃W,aj s.bx q=some W:=by
    rcases U q with⟨i,k1,W,r,_⟩|⟨_,M⟩
    ·exact(hm _ (Bz r)).2
    ·rw[M] at hk';exact H q cs' hk'
   obtain⟨W,S⟩:=S;obtain⟨c0',hk0'⟩:=hk0';exact h.bxs.2 k q W c0' S hk0' hbe
  ·have UU:g.β k=some b:=UU
   have S: ∃W,aj s.bx k=some W:=by
    rcases U k with⟨i,k1,W,r,_⟩|⟨_,M⟩
    ·exact(hm _ (Bz r)).2
    ·rw[M] at t;exact H k N t
   obtain⟨W,S⟩:=S;rcases I L _ hL with⟨n,hn',hL⟩|hL
   ·rcases U k with⟨i,q,c1,r,M,_⟩|⟨r,_⟩
    ·refine hx.zb q c1 n v e J b (Q i k q c1 r M) hL f ?_
     rw[←XZ k q (iU n2 (Bz r))];exact UU
    ·have A:=Yn k W b S r UU
     rcases(hx.own.1 n v e J hL).2 with hv|⟨b2,_,_,_,_,hv,K,_⟩
     ·rw[hv] at f;cases f
     ·rw[hv] at f
      simp only[Value.ownBlock,aF] at f;subst f;exact A K.1
   ·exact h.zb k W L v e J b S (z L _ hL).1 f UU
 rw[←hs];exact⟨g2,hbig.put d (Yo x v hx.fr.head)⟩
end
section
variable {E:Env} {B:Own} {G0:aI} {w0:World} {s s':St} {g:Gh} {a:Act} {w:World} {bx:List (Nat×af)} {o:Oper} {eff:Eff}
theorem Inv.still (h:Inv E B G0 w0 s g a w) {w':World} (d:Below w.heap.size w w'):Inv E B G0 w0 s g a w':=by
 have j:New w w' g.G g.G:=⟨d,fun _ _=>rfl,fun b l hl=>by
  obtain⟨c,e,fr,i,f⟩:=h.gok b l hl;exact⟨c,e,fr,by rw[d.block b (dU h.gok hl)];exact i,f⟩⟩
 exact(h.new j).1
theorem Inv.Pb (h:Inv E B G0 w0 s g a w) {d e:Nat} {sh:List Kd} {xs:af} {u:Value} {l:List Value} (hd:s.aV d=true) (hz:rF g.G w (B.ok d) e sh.length xs.length u l)
  (J: ∀L v e i b,g.O L=some (v,e,i)→L≠d→v.ownBlock=some b→u.ownBlock≠some b) (Z: ∀k t b,aj s.bx k=some t→u.ownBlock=some b→g.β k≠some b):
  ∃g',g'.G=g.G∧Inv E B G0 w0 s g' a w∧g'.O d=some (u,e,sh.length)∧g'.C d=some l∧(∀L,L≠d→g'.O L=g.O L):=by
 let O':Nat→Option (Value×Nat×Nat):=fun L=>if L=d then some (u,e,sh.length) else g.O L
 let C':Nat→Option (List Value):=fun L=>if L=d then some l else g.C L
 have f: ∀L,L≠d→O' L=g.O L:=fun L hL=>if_neg hL
 have A: ∀L,L≠d→C' L=g.C L:=fun L hL=>if_neg hL
 obtain⟨h0,T,hf⟩:=hz;refine⟨{g with O:=O',C:=C'},rfl,⟨h.fr.mono fun x hx v=>D8 f A (oH hd x hx),h.df,h.gok,⟨?_,?_⟩,⟨fun k t N=>?_,h.bxs.2⟩,h.gN,h.hB,h.ext,h.glob,h.g1,?_⟩,if_pos rfl,if_pos rfl,f⟩
 ·intro L v p i hL
  by_cases IE:L=d
  ·subst IE
   have hL:(if L=L then some (u,e,sh.length) else g.O L)=some (v,p,i):=hL;rw[if_pos rfl] at hL;simp only[aF,bP] at hL;obtain⟨rfl,rfl,rfl⟩:=hL;refine⟨h0,?_⟩;rcases hf with⟨hu,_⟩|⟨b,cap,y,X,j,P,K,r,H,ht,W⟩
   ·exact .inl hu
   ·exact .inr ⟨b,_,cap,y,l,X,j,P,K,r,H,kz.mk1 (if_pos rfl) W ht,T⟩
  ·have hL:O' L=some (v,p,i):=hL
   rw[f L IE] at hL;obtain⟨q1,q2⟩:=h.own.1 L v p i hL;refine⟨q1,q2.imp id ?_⟩;rintro⟨b,n,cap,y,l,X,j,P,U,r,H,M,hl⟩;exact⟨b,n,cap,y,l,X,j,P,U,r,H,M.keep (A L IE) rfl,hl⟩
 ·intro L L' v S R Q i o b D q j I
  have D:O' L=some (v,R,i):=D;have q:O' L'=some (S,Q,o):=q;by_cases hL:L=d<;>by_cases m:L'=d
  ·rw[hL,m]
  ·subst hL
   have F:(if L=L then some (u,e,sh.length) else g.O L)=some (v,R,i):=D;rw[if_pos rfl] at F;simp only[aF,bP] at F;rw[f L' m] at q;exact absurd (by rw[F.1];exact j) (J L' S Q o b q m I)
  ·subst m
   have z:(if L'=L' then some (u,e,sh.length) else g.O L')=some (S,Q,o):=q;rw[if_pos rfl] at z;simp only[aF,bP] at z;rw[f L hL] at D;exact absurd (by rw[z.1];exact I) (J L v R i b D hL j)
  ·rw[f L hL] at D
   rw[f L' m] at q;exact h.own.2 L L' v S R Q i o b D q j I
 ·obtain⟨b,c,p,j,Y,P,hp,ho,W,hq⟩:=h.bxs.1 k t N
  exact⟨b,c,p,j,Y,P,hp.mono fun x hx v=>D8 f A (rY hd k t N x hx),ho,W,hq⟩
 ·intro k t L v p i b N hL j hβ
  have hL:O' L=some (v,p,i):=hL;by_cases IE:L=d
  ·subst IE
   have hL:(if L=L then some (u,e,sh.length) else g.O L)=some (v,p,i):=hL;rw[if_pos rfl] at hL;simp only[aF,bP] at hL;obtain⟨rfl,rfl,rfl⟩:=hL;exact Z k t b N j hβ
  ·rw[f L IE] at hL
   exact h.zb k t L v p i b N hL j hβ
theorem Inv.grow (h:Inv E B G0 w0 s g a w) {w':World} {j:Option Nat} (d:w.grownBy w' j) (T: ∀b,j=some b→g.G b=none) (P: ∀L v e t b,g.O L=some (v,e,t)→v.ownBlock=some b→some b≠j) (hβ: ∀k r b,aj s.bx k=some r→g.β k=some b→some b≠j) (U: ∀b,j=some b→B.m b) (D: ∀b,j=some b→ ∃c e fr,w.heap[b]? =some (.cells c e fr)):
  Inv E B G0 w0 s g a w':=by
 refine⟨h.fr,h.df,fun b l hl=>?_,⟨fun L v e t hL=>?_,h.own.2⟩,⟨fun k r H=>?_,h.bxs.2⟩,?_,yN h.hB d.size,h.ext,h.glob,h.g1,h.zb⟩
 ·obtain⟨c,e,fr,N,J⟩:=h.gok b l hl
  refine⟨c,e,fr,?_,J⟩;rw[d.block b (dU h.gok hl) (fun M=>by rw[T b M.symm] at hl;cases hl)];exact N
 ·obtain⟨R,K⟩:=h.own.1 L v e t hL
  refine⟨R,K.imp id ?_⟩;rintro⟨b,n,cap,y,l,I,f,o,z,u,A,p,hl⟩;have i:=(Array.getElem?_eq_some_iff.1 o).1;exact⟨b,n,cap,y,l,I,f,by rw[d.block b i (P L v e t b hL (by rw[I];rfl))];exact o,z,u,A,p,hl⟩
 ·obtain⟨b,c,e,f,x,o,Q,S,F,q⟩:=h.bxs.1 k r H
  have i:=(Array.getElem?_eq_some_iff.1 o).1;exact⟨b,c,e,f,x,by rw[d.block b i (hβ k r b H f)];exact o,Q,S,F,q⟩
 ·exact h.gN.trans ⟨⟨d.os,d.tape,d.output,d.size,fun b f=>by omega⟩,fun b f=>d.block b (N9 fun e=>f (h.hB.2 b e)) fun C=>f (U b C.symm),fun b V c f=>(d.block b (Array.getElem?_eq_some_iff.1 f).1 fun C=>by obtain⟨_,_,_,q⟩:=D b C.symm;rw[f] at q;cases q).trans f⟩
theorem MY {L e:Nat} {sh:List Kd} {xs:af} {i:Int} {c L3 E:Nat} {o:List Kd} {ys:af} {Q u:Value} {l:List Value} (N:g.O L=some (Q,e,sh.length)) (R:g.C L=some l) (W:i.toNat*sh.length+c<l.length) (U:zG g sh xs Q (l.set (i.toNat*sh.length+c) u))
  (h3:g.O L3=some (u,E,o.length)) (I:oW g.G o ys u) {y:V} {v:Value} (h:aB g y v):aB {g with C:=fun k=>if k=L then some (l.set (i.toNat*sh.length+c) u) else g.C k} (y.vC L e sh xs i c L3 E o ys) v:=by
 have one: ∀{y:V} {v:Value},aX g y v→aX {g with C:=fun k=>if k=L then some (l.set (i.toNat*sh.length+c) u) else g.C k} (Ks L e sh xs i c L3 E o ys y) v:=by
  intro y v h
  cases y with
  |slz k q n m o2 s D p d r=>
   show aX _ (bif L==k then V.slz L e sh xs (some L3) i c E o ys else .slz k q n m o2 s D p d r) v;obtain⟨K,w,B,F,H⟩:=h;by_cases A:L=k
   ·subst A
    rw[E8];rw[N] at w;simp only[aF,bP] at w;obtain⟨rfl,_,_⟩:=w;refine⟨_,N,if_pos rfl,U,u,h3,I,fun y X hl=>?_⟩;rw[Zv W] at hl;exact(Option.some.inj hl).symm
   ·rw[beq_eq_false_iff_ne.2 A]
    exact⟨K,w,(if_neg (fun T=>A T.symm)).trans B,F,H⟩
  |epz k q t s j=>
   obtain⟨M,b,K,w,B,F,H,P⟩:=h;by_cases A:k=L
   ·subst A
    rw[R] at B;simp only[aF] at B;subst B;exact⟨M,b,_,w,if_pos rfl,F,by rw[Ol];exact H,P⟩
   ·exact⟨M,b,K,w,(if_neg A).trans B,F,H,P⟩
  |sl q n o' m=>cases o'<;>exact h
  |_=>exact h
 cases y with
 |tup vs=>obtain⟨a,rfl,h⟩:=h;exact⟨a,rfl,dm h fun z _ v J=>one J⟩
 |fn f vs=>obtain⟨a,rfl,h⟩:=h;exact⟨a,rfl,dm h fun z _ v J=>one J⟩
 |slz k q n m o2 s D p d r=>
  have S:=one (y:=.slz k q n m o2 s D p d r) (aL (x:=.slz k q n m o2 s D p d r) rfl h);refine aW ?_ S;show(bif L==k then V.slz L e sh xs (some L3) i c E o ys else .slz k q n m o2 s D p d r).single=true
  cases L==k<;>rfl
 |epz k q t s j=>exact aW (x:=.epz k q t s j) rfl (one (y:=.epz k q t s j) (aL (x:=.epz k q t s j) rfl h))
 |_=>simp only[aB] at h⊢;exact one h
theorem Inv.zw (h:Inv E B G0 w0 s g a w) {L e b:Nat} {sh:List Kd} {xs:af} {i:Int} {c L3 S:Nat} {r:List Kd} {ys:af} {v0 u:Value} {d:Array Value} {l:List Value} (U:g.O L=some (v0,e,sh.length)) (hC:g.C L=some l) (R:v0.ownBlock=some b) (hh:w.heap[b]? =some (.cells d e (0,0)))
  (hp:i.toNat*sh.length+c<l.length) (hz:zG g sh xs v0 (l.set (i.toNat*sh.length+c) u)) (h3:g.O L3=some (u,S,r.length)) (ho3:oW g.G r ys u):
  ∃g',Inv E B G0 w0 (s.vC L e sh xs i c L3 S r ys) g' a (w.setRow b (d.toList.take (i.toNat*sh.length+c)++[u]++d.toList.drop (i.toNat*sh.length+c+1)).toArray):=by
 obtain⟨H,n,cap,hv0,hn,Q,ht,hcs,hln,zq,hok⟩:=OM h.own U hC R;rw[hh] at Q;simp only[aF,Obj.cells.injEq] at Q;obtain⟨rfl,_⟩:=Q;have N: ∀(y:V) (v:Value),aB g y v→aB {g with C:=fun k=>if k=L then some (l.set (i.toNat*sh.length+c) u) else g.C k} (y.vC L e sh xs i c L3 S r ys) v:=fun y v hy=>MY U hC hp hz h3 ho3 hy
 generalize i.toNat*sh.length+c=p at hp hz N⊢;have hil:p<d.toList.length:=by
  have:=congrArg List.length ht;rw[B6] at this;omega
 have hset:d.toList.take p++[u]++d.toList.drop (p+1)=d.toList.set p u:=by
  rw[XF,if_pos hil];simp
 rw[hset];have hnew:=setRow_heap w b d (d.toList.set p u).toArray e (0,0) hh;have q: ∀j,j≠b→(w.setRow b (d.toList.set p u).toArray).heap[j]? =w.heap[j]? :=fun j o=>setRow_other w b j _ o
 have W:(w.setRow b (d.toList.set p u).toArray).heap.size=w.heap.size:=by simp[World.setRow]
 have Y: ∀k,aj (s.vC L e sh xs i c L3 S r ys).bx k=(aj s.bx k).map (List.map (V.vC L e sh xs i c L3 S r ys)):=fun k=>fe _ _ _
 refine⟨_,dm h.fr fun y _ v hy=>N y v hy,h.df,fun j m o=>?_,⟨fun j v e' sz o=>?_,h.own.2⟩,⟨fun k cs t=>?_,fun k k' cs cs' t K=>?_⟩,?_,by rw[W];exact h.hB,h.ext,h.glob,h.g1,D9 (f:=List.map (V.vC L e sh xs i c L3 S r ys)) h.zb⟩
 ·have hjb:j≠b:=fun x=>by subst x;have o:g.G j=some m:=o;rw[zq] at o;cases o
  obtain⟨c2,e3,fr,hc,ht2⟩:=h.gok j m o;exact⟨c2,e3,fr,by rw[q j hjb];exact hc,ht2⟩
 ·obtain⟨q1,q2⟩:=h.own.1 j v e' sz o
  refine⟨q1,q2.imp id ?_⟩;rintro⟨z,n',I,H,m,hv,hB',A,X,T,D,F,hl⟩;by_cases M:j=L
  ·subst M
   have o:g.O j=some (v,e',sz):=o;rw[U] at o;simp only[aF,bP] at o;obtain⟨rfl,rfl,rfl⟩:=o;rw[hv] at R;simp only[Value.ownBlock,aF] at R;subst R;rw[hh] at A;simp only[aF,Obj.cells.injEq] at A;obtain⟨rfl,_⟩:=A;obtain⟨_,x,ht9⟩:=F.nested hC;subst x;refine⟨z,n',I,_,_,hv,hB',hnew,X,T,by simpa using D,kz.mk1 (if_pos rfl) zq ?_,by rw[Ol];exact hl⟩;rw[Ol,ZA,XQ,ht]
  ·have J:z≠b:=fun x=>M (h.own.2 j L v v0 e' e sz _ z o U (by rw[hv];rfl) (by rw[x];exact R))
   exact⟨z,n',I,H,m,hv,hB',by rw[q z J];exact A,X,T,D,F.keep (if_neg M) rfl,hl⟩
 ·rw[Y] at t
  cases P:aj s.bx k with
  |none=>rw[P] at t;cases t
  |some ds=>
   rw[P] at t;simp only[qJ,aF] at t;subst t;obtain⟨z,c',e',p1,p2,p3,p4,p5,p6,p7⟩:=h.bxs.1 k ds P;have J:z≠b:=fun x=>h.zb k ds L v0 e _ b P U R (by rw[←x];exact p1)
   exact⟨z,c',e',p1,p2,by rw[q z J];exact p3,dm p4 fun y _ v hy=>N y v hy,p5,p6,jf (MF _ _ _ _ _ _ _ _ _ _) p7⟩
 ·rw[Y] at t K
  cases P:aj s.bx k with
  |none=>rw[P] at t;cases t
  |some ds=>
   cases Z:aj s.bx k' with
   |none=>rw[Z] at K;cases K
   |some ds'=>exact h.bxs.2 k k' ds ds' P Z
 ·exact h.gN.trans ⟨⟨rfl,rfl,rfl,by rw[W];exact iA _,fun j o=>by omega⟩,fun j o=>q j fun x=>o (x▸hok.1),oD hh fun j o _=>q j o⟩
theorem Inv.Kg (h:Inv E B G0 w0 s g a w) (L:Nat): ∃g',Inv E B G0 w0 (s.Kg L) g' a w:=by
 have hlk: ∀k,aj (s.Kg L).bx k=(aj s.bx k).map (List.map (V.Kg L)):=fun k=>fe _ _ _
 have T: ∀g':Gh,(∀(y:V) (v:Value),aB g y v→aB g' (y.Kg L) v)→g'.β=g.β→g'.O=g.O→sU g'.G w→E9 B g' w→(∀k cs b,aj s.bx k=some cs→g.β k=some b→g'.G b=none)→((∀b,¬B.m b→g'.G b=g.G b)∧jB g.G g'.G)→jB g'.G1 G0→Inv E B G0 w0 (s.Kg L) g' a w:=by
  intro g' htr hβ hO hg ho hbx hx hg1;refine⟨dm h.fr fun y _ v D=>htr y v D,h.df,hg,ho,⟨fun k cs d=>?_,fun k k' cs cs' d hk'=>?_⟩,h.gN,h.hB,⟨fun b hb=>(hx.1 b hb).trans (h.ext.1 b hb),h.ext.2.1.trans hx.2,by rw[hβ];exact h.ext.2.2⟩,h.glob,hg1,by rw[hβ,hO];exact D9 (f:=List.map (V.Kg L)) h.zb⟩
  ·rw[hlk] at d
   cases hq:aj s.bx k with
   |none=>rw[hq] at d;cases d
   |some ds=>
    rw[hq] at d;simp only[qJ,aF] at d;subst d;obtain⟨R,c',p,W,p2,p3,p4,p5,p6,p7⟩:=h.bxs.1 k ds hq;exact⟨R,c',p,by rw[hβ];exact W,p2,p3,dm p4 fun y _ v D=>htr y v D,p5,hbx k ds R hq W,jf (P7 _) p7⟩
  ·rw[hlk] at d hk'
   cases hq:aj s.bx k with
   |none=>rw[hq] at d;cases d
   |some ds=>
    cases hq':aj s.bx k' with
    |none=>rw[hq'] at hk';cases hk'
    |some ds'=>rw[hβ];exact h.bxs.2 k k' ds ds' hq hq'
 have lift: ∀g':Gh,(∀(y:V) (v:Value),aX g y v→aX g' (SA L y) v)→ ∀(y:V) (v:Value),aB g y v→aB g' (y.Kg L) v:=by
  intro g' one y v D
  cases y with
  |tup vs=>obtain⟨a,rfl,h⟩:=D;exact⟨a,rfl,dm h fun z _ v Z=>one z v Z⟩
  |fn f vs=>obtain⟨a,rfl,h⟩:=D;exact⟨a,rfl,dm h fun z _ v Z=>one z v Z⟩
  |slz k p t r o2 M c' N I Q=>
   have h2:=one (.slz k p t r o2 M c' N I Q) v (aL (x:=.slz k p t r o2 M c' N I Q) rfl D);refine aW ?_ h2;show(bif L==k then V.sl p t (some L) r else .slz k p t r o2 M c' N I Q).single=true
   cases L==k<;>rfl
  |epz k p o M u=>
   have h2:=one (.epz k p o M u) v (aL (x:=.epz k p o M u) rfl D);refine aW ?_ h2;show(bif L==k then V.any else .epz k p o M u).single=true
   cases L==k<;>rfl
  |_=>simp only[aB] at D⊢;exact one _ v D
 by_cases hex: ∃v e sz l,g.O L=some (v,e,sz)∧g.C L=some l
 ·obtain⟨v0,e,sz,l,hO,hC⟩:=hex
  have S:=(h.own.1 L v0 e sz hO).2;rcases S with Z|⟨b,n,cap,cur,l',Z,hok,hh,hnc,hcm,hcs,S,hl⟩
  ·
   refine⟨{g with C:=fun k=>if k=L then none else g.C k},T _ (lift _ fun y v D=>?_) rfl rfl h.gok ⟨fun j v p o A=>?_,h.own.2⟩ (fun k cs b d hb=>?_) ⟨fun _ _=>rfl,.refl _⟩ h.g1⟩
   ·cases y with
    |slz k p t r o2 M c' N I Q=>
     show aX _ (bif L==k then V.sl p t (some L) r else .slz k p t r o2 M c' N I Q) v;obtain⟨l',H,J,K,q4⟩:=D;by_cases d:L=k
     ·subst d
      rw[E8];refine⟨H,?_⟩;rcases K.1 with q5|⟨b,cap,q5⟩
      ·exact .inl q5
      ·rw[hO] at H
       simp only[aF,bP] at H;rw[←H.1,Z] at q5;cases q5
     ·rw[beq_eq_false_iff_ne.2 d]
      exact⟨l',H,(if_neg (fun P=>d P.symm)).trans J,K,q4⟩
    |epz k p o M u=>
     show aX _ (bif L==k then V.any else .epz k p o M u) v;by_cases d:L=k
     ·subst d
      rw[E8];show aJ g.G .any v;unfold aJ;trivial
     ·rw[beq_eq_false_iff_ne.2 d]
      obtain⟨v1,b,l',H,J,K⟩:=D;exact⟨v1,b,l',H,(if_neg (fun P=>d P.symm)).trans J,K⟩
    |sl p t o' r=>cases o'<;>exact D
    |_=>exact D
   ·obtain⟨H,J⟩:=h.own.1 j v p o A
    by_cases Y:j=L
    ·subst Y
     have A:g.O j=some (v,p,o):=A;rw[hO] at A;simp only[aF,bP] at A;exact⟨H,.inl (by rw[←A.1];exact Z)⟩
    ·refine⟨H,J.imp id ?_⟩
     rintro⟨R,n',cap',cur',m,U,hB',X,hnc,hcm,hcs',S,hl⟩;exact⟨R,n',cap',cur',m,U,hB',X,hnc,hcm,hcs',S.keep (if_neg Y) rfl,hl⟩
   ·obtain⟨R,_,_,W,_,_,_,_,p6,_⟩:=h.bxs.1 k cs d
    rw[hb] at W;simp only[aF] at W;rw[W];exact p6
  ·obtain⟨zq,P,ht⟩:=S.nested hC
   subst P;have q: ∀j,j≠b→upd g.G b l j=g.G j:=fun j A=>fE _ _ _ _ A
   have F:jB g.G (upd g.G b l):=fun j m A=>by
    have hjb:j≠b:=fun P=>by subst P;rw[zq] at A;cases A
    exact⟨m,by rw[q j hjb];exact A,IC _⟩
   have hown: ∀{sh:List Kd} {xs:af} {k p o:Nat} {v:Value},g.O k=some (v,p,o)→oW g.G sh xs v→oW (upd g.G b l) sh xs v:=by
    intro sh xs k p o v d ho;refine tX ho F fun R hb'=>?_
    refine q R fun P=>?_
    subst P;rcases ho with⟨hq,_⟩|⟨b2,_,l2,hq,_,hG2,_⟩
    ·rw[hq] at hb';cases hb'
    ·rw[hq] at hb'
     simp only[Value.ownBlock,aF] at hb';subst hb';rw[zq] at hG2;cases hG2
   have Y3: ∀{C':Nat→Option (List Value)} {l2:List Value} {VC:Nat} {o2:Option Nat} {i:Int} {c e2:Nat} {Oo:List Kd} {ys:af},nG g l2 VC o2 i c e2 Oo ys→nG {g with G:=upd g.G b l,C:=C'} l2 VC o2 i c e2 Oo ys:=by
    intro C' l2 VC o2 i c e2 Oo ys hq
    cases o2 with
    |none=>trivial
    |some L2=>
     obtain⟨v2,H,J,K⟩:=hq;exact⟨v2,H,hown H J,K⟩
   refine⟨{g with G:=upd g.G b l,C:=fun k=>if k=L then none else g.C k},T _ (lift _ fun y v D=>?_) rfl rfl (fun j m A=>?_) ⟨fun j v p o A=>?_,h.own.2⟩ (fun k cs R d hb=>?_) ⟨fun j A=>q j fun P=>A (P▸hok.1),F⟩ h.g1⟩
   ·cases y with
    |slz k p t r o2 M c' N I Q=>
     show aX _ (bif L==k then V.sl p t (some L) r else .slz k p t r o2 M c' N I Q) v;obtain⟨l',H,J,K,q4⟩:=D;by_cases d:L=k
     ·subst d
      rw[E8];have q1':=H;rw[hO] at q1';simp only[aF,bP] at q1';obtain⟨rfl,rfl,rfl⟩:=q1';rw[hC] at J;simp only[aF] at J;subst J;refine⟨H,.inr ?_⟩;rcases K.1 with⟨q5,_⟩|⟨b2,cap2,q5⟩
      ·rw[Z] at q5;cases q5
      ·have q6:=q5
       rw[Z] at q6;simp only[Value.slice.injEq,aF,Addr.mk.injEq] at q6;obtain⟨⟨rfl,_,_⟩,hn2,rfl⟩:=q6;exact⟨b,cap,l,q5,by omega,upd_same _ _ _,K.2.1,gy F _ _ _ _ K.2.2 (IC _)⟩
     ·rw[beq_eq_false_iff_ne.2 d]
      exact⟨l',H,(if_neg (fun P=>d P.symm)).trans J,⟨K.1,K.2.1,gy F _ _ _ _ K.2.2 (IC _)⟩,Y3 q4⟩
    |epz k p o M u=>
     show aX _ (bif L==k then V.any else .epz k p o M u) v;by_cases d:L=k
     ·subst d
      rw[E8];show aJ (upd g.G b l) .any v;unfold aJ;trivial
     ·rw[beq_eq_false_iff_ne.2 d]
      obtain⟨v1,b1,l',H,J,K⟩:=D;exact⟨v1,b1,l',H,(if_neg (fun P=>d P.symm)).trans J,K⟩
    |sl p t o' r=>
     cases o' with
     |none=>exact fI F _ _ D
     |some k=>exact⟨D.1,hown D.1 D.2⟩
    |eptr k p t r M u=>
     obtain⟨v1,b1,H,J,K⟩:=D;exact⟨v1,b1,H,hown H J,K⟩
    |box k off=>exact D
    |old x=>exact⟨D.1,fI F _ _ D.2.1,D.2.2⟩
    |_=>exact fI F _ _ D
   ·by_cases hjb:j=b
    ·subst hjb
     have A:upd g.G j l j=some m:=A;rw[upd_same] at A;simp only[aF] at A;subst A;exact⟨cur,e,(0,0),hh,ht⟩
    ·have A:upd g.G b l j=some m:=A
     rw[q j hjb] at A;exact h.gok j m A
   ·obtain⟨H,J⟩:=h.own.1 j v p o A
    refine⟨H,J.imp id ?_⟩;rintro⟨R,n',cap',cur',m,U,hB',X,hnc',hcm',hcs',hrow',hl'⟩;by_cases Y:j=L
    ·subst Y
     have A:g.O j=some (v,p,o):=A;rw[hO] at A;simp only[aF,bP] at A;obtain⟨rfl,rfl,rfl⟩:=A;rw[Z] at U;simp only[Value.slice.injEq,aF,Addr.mk.injEq] at U;obtain⟨⟨rfl,_,_⟩,rfl,rfl⟩:=U;rw[hh] at X;simp only[aF,Obj.cells.injEq] at X;obtain⟨rfl,_⟩:=X;exact⟨b,n,cap,cur,l,Z,hB',hh,hnc,hcm,hcs,kz.mk0 (if_pos rfl) (upd_same _ _ _),hl⟩
    ·have hne:R≠b:=fun P=>Y (h.own.2 j L v v0 p e o _ R A hO (by rw[U];rfl) (by rw[Z,P];rfl))
     exact⟨R,n',cap',cur',m,U,hB',X,hnc',hcm',hcs',hrow'.keep (if_neg Y) (q R hne),hl'⟩
   ·obtain⟨b2,_,_,W,_,_,_,_,p6,_⟩:=h.bxs.1 k cs d
    rw[hb] at W;simp only[aF] at W;subst W;have hne:R≠b:=fun P=>h.zb k cs L v0 e sz b d hO (by rw[Z];rfl) (by rw[←P];exact hb)
    show upd g.G b l R=none;rw[q R hne];exact p6
 ·
  refine⟨g,T g (lift g fun y v D=>?_) rfl rfl h.gok h.own (fun k cs b d hb=>?_) ⟨fun _ _=>rfl,.refl _⟩ h.g1⟩
  ·cases y with
   |slz k p t r o2 M c' N I Q=>
    show aX _ (bif L==k then V.sl p t (some L) r else .slz k p t r o2 M c' N I Q) v;obtain⟨l',H,J,K,q4⟩:=D;by_cases d:L=k
    ·subst d;exact absurd ⟨_,_,_,_,H,J⟩ hex
    ·rw[beq_eq_false_iff_ne.2 d];exact⟨l',H,J,K,q4⟩
   |epz k p o M u=>
    show aX _ (bif L==k then V.any else .epz k p o M u) v;obtain⟨v1,b,l',H,J,K⟩:=D;by_cases d:L=k
    ·subst d;exact absurd ⟨_,_,_,_,H,J⟩ hex
    ·rw[beq_eq_false_iff_ne.2 d];exact⟨v1,b,l',H,J,K⟩
   |_=>exact D
  ·obtain⟨R,_,_,W,_,_,_,_,p6,_⟩:=h.bxs.1 k cs d
   rw[hb] at W;simp only[aF] at W;rw[W];exact p6
theorem F4: ∀(l:List Nat) (s:St) (g:Gh),Inv E B G0 w0 s g a w→ ∃g',Inv E B G0 w0 (VT s l) g' a w
 |[],s,g,h=>⟨g,h⟩
 |L::l,s,g,h=>by
  obtain⟨g',b⟩:=h.Kg L;exact F4 l _ g' b
theorem uj (h:Inv E B G0 w0 s g a w) (P:Program) (ops:List Oper): ∃g',Inv E B G0 w0 (Ox P ops s) g' a w:=by
 unfold Ox
 cases(s.bx.any (fun(_,cs)=>cs.any isZ)&&ops.any (O1 P)) with
 |true=>exact F4 _ _ _ h
 |false=>exact⟨g,h⟩
end
section
variable {E:Env} {B:Own} {G0:aI} {w0:World} {s s':St} {g:Gh} {a:Act} {w:World} {bx:List (Nat×af)} {o:Oper} {eff:Eff}
theorem Oe.sub {P:Program} {bx c:List (Nat×af)} (h:Oe P B g c w) (f: ∀k a,aj bx k=some a→aj c k=some a):Oe P B g bx w:=
 ⟨fun k a d=>h.1 k a (f k a d),fun k i a b d e=>h.2 k i a b (f k a d) (f i b e)⟩
theorem AY {G:aI} {w:World} {B:Nat→Prop} {x:V} {v:Value} {g:Gh} (a:g.G=G) (hl:nZ x=false) (h:jO G w B x v):aX g x v:=by
 subst a
 cases x with
 |sl e sh b xs=>
  cases b with
  |none=>exact h
  |some L=>cases hl
 |box k off=>simp only[jO] at h;unfold aJ at h;exact h.elim
 |eptr _ _ _ _ _ _=>simp only[jO] at h;unfold aJ at h;exact h.elim
 |old _=>simp only[jO] at h;unfold aJ at h;exact h.elim
 |slz _ _ _ _ _ _ _ _ _ _=>simp only[jO] at h;unfold aJ at h;exact h.elim
 |epz _ _ _ _ _=>simp only[jO] at h;unfold aJ at h;exact h.elim
 |_=>exact h
theorem xx: ∀(d:Nat) (l:af),l.countP nZ=0→ ∀b,fC d b l=l
 |d,[],_,b=>by cases b<;>rfl
 |d,x::l,h,b=>by
  rw[RO] at h;have hx:nZ x=false:=by
   cases c:nZ x with
   |false=>rfl
   |true=>rw[c] at h;simp at h
  rw[hx] at h;have a:=xx d l (by simpa using h) b
  cases x with
  |sl e sh f xs=>
   cases f with
   |none=>cases b<;>simp only[fC,a]
   |some L=>cases hx
  |_=>cases b<;>simp only[fC,a]
theorem MZ (h:Inv E B G0 w0 s g a w) {d:Nat} {r:V} {v:Value} {b0:Nat} (S:s.aV d=true) (J:B.n≤b0∧ ∀b,b0≤b→B.m b) (P: ∀L v e F b,g.O L=some (v,e,F)→v.ownBlock=some b→b<b0) (i:d9 g.G w (b0≤ ·) r v):
  ∃g',Inv E B G0 w0 s g' a w∧aB g' (r.FD d) v:=by
 have j: ∀{e sh xs u},gq g.G w (b0≤ ·) e sh xs u→gq g.G w (B.ok d) e sh xs u:=by
  rintro e sh xs u ⟨p,o⟩;refine⟨p,o.imp id ?_⟩;rintro⟨b,cap,D,l,N,M,H⟩;exact⟨b,cap,D,l,N,⟨J.2 b M,fun _=>zl J.1 M⟩,H⟩
 have kX: ∀{e sh xs u},gq g.G w (b0≤ ·) e sh xs u→ ∀L v e F b,g.O L=some (v,e,F)→L≠d→v.ownBlock=some b→u.ownBlock≠some b:=by
  rintro e sh xs u ⟨p,o⟩ L v X F b hL _ M R;have h3:=P L v X F b hL M;rcases o with⟨rfl,_⟩|⟨b',cap,D,l,rfl,Z,_⟩
  ·cases R
  ·simp[Value.ownBlock] at R
   omega
 cases r with
 |tup vs=>
  obtain⟨us,rfl,I,z⟩:=i;have Q: ∀(xs:af) (us:List Value),PW (jO g.G w (b0≤ ·)) xs us→xs.countP nZ≤1→ ∃g',g'.G=g.G∧Inv E B G0 w0 s g' a w∧PW (aX g') (fC d true xs) us:=by
   intro xs;induction xs with
   |nil=>intro us I _;exact⟨g,rfl,h,by rw[I.bH];exact .nil⟩
   |cons x xs W=>
    intro us I z;obtain⟨u,t,rfl,p,o⟩:=I.cons_inv;rw[RO] at z
    cases hx:nZ x with
    |true=>
     rw[hx] at z;have T:xs.countP nZ=0:=by rw[if_pos rfl] at z;omega
     cases x with
     |sl e sh K ys=>
      cases K with
      |none=>cases hx
      |some L=>
       have p:gq g.G w (b0≤ ·) e sh ys u:=p;obtain⟨g',C,q,A⟩:=h.label (e:=e) (sh:=sh) (xs:=ys) (u:=u) S (j p) (kX p);refine⟨g',C,q,?_⟩;show PW (aX g') (V.sl e sh (some d) ys::fC d false xs) (u::t);rw[xx d xs T];refine .cons A (o.mono fun y Y v N=>AY C ?_ N);have:=List.countP_eq_zero.1 T y Y;simpa using this
     |_=>cases hx
    |false=>
     rw[hx] at z;obtain⟨g',C,q,A⟩:=W t o (by simpa using z);refine⟨g',C,q,?_⟩;have U:fC d true (x::xs)=x::fC d true xs:=by
      cases x with
      |sl e sh K ys=>cases K with
       |none=>rfl
       |some L=>cases hx
      |_=>rfl
     rw[U];exact .cons (AY C hx p) A
  obtain⟨g',_,q,A⟩:=Q vs us I z;exact⟨g',q,us,rfl,A⟩
 |sl e sh K xs=>
  cases K with
  |none=>exact⟨g,h,i⟩
  |some L=>
   have i:gq g.G w (b0≤ ·) e sh xs v:=i;obtain⟨g',C,q,A⟩:=h.label (e:=e) (sh:=sh) (xs:=xs) (u:=v) S (j i) (kX i);exact⟨g',q,A⟩
 |box k off=>simp only[d9,jO] at i;unfold aJ at i;exact i.elim
 |eptr _ _ _ _ _ _=>simp only[d9,jO] at i;unfold aJ at i;exact i.elim
 |old _=>simp only[d9,jO] at i;unfold aJ at i;exact i.elim
 |slz _ _ _ _ _ _ _ _ _ _=>simp only[d9,jO] at i;unfold aJ at i;exact i.elim
 |epz _ _ _ _ _=>simp only[d9,jO] at i;unfold aJ at i;exact i.elim
 |fn f c=>
  simp only[d9,jO] at i;have o:=i;unfold aJ at o;obtain⟨_,rfl⟩:=o;exact⟨g,h,bA rfl i⟩
 |_=>exact⟨g,h,i⟩
theorem Ql {x y:V} (h:x.deep=some y):y.qK=y:=by
 cases x with
 |fn f c=>cases c<;>simp[V.deep] at h;subst h;rfl
 |_=>simp[V.deep] at h<;>subst h<;>rfl
theorem AZ {g:Gh} {bx:List (Nat×af)} {MB ML:List (Nat×Nat)}: ∀(m args:af) (vs:List Value),iE m=[]→eT bx MB ML m=some args→fV args=false→PW (DL g) m vs→PW (aJ g.G) (args.map V.qK) vs
 |[],args,vs,_,h,_,q=>by
  simp only[eT,aF] at h;subst h;rw[q.bH];exact .nil
 |x::m,args,vs,i,h,n,q=>by
  unfold iE at i;obtain⟨d,i⟩:=List.append_eq_nil_iff.1 i;obtain⟨v,t,rfl,s,u⟩:=q.cons_inv;unfold eT at h;split at h
  ·rename_i y ys b p
   simp only[aF] at h;subst h;unfold fV at n;rw[UO,zi] at n;rw[yJ];refine .cons ?_ (AZ m ys t i p n.2 u);have a:x.deep=some y→aJ g.G y.qK v:=by
    intro o;rw[Ql o];exact s.elim (fun h=>lq h o) (fun h=>vR h o)
   cases x with
   |box k off=>
    unfold pq at b;simp only at b;split at b
    ·simp only[aF] at b
     subst b
     cases n.1
    ·cases b
   |sl e sh z xs=>
    cases z with
    |none=>exact a b
    |some L=>
     have b:some (qG MB ML (.sl e sh (some L) xs))=some y:=b;simp only[aF] at b;subst b;have w:aX g (.sl e sh (some L) xs) v:=s.elim (fun h=>aL rfl h) id;exact lM w.2
   |fn f c=>
    cases c with
    |nil=>exact a b
    |cons c r=>
     obtain⟨l,_⟩:=au (show(bif Nat.blt f rA&&rD (c::r) then some (V.fn f ((c::r).map (qG MB ML))) else none)=some y from b);rw[bB] at l;have j:=l.2;unfold rD at j;rw[Me,bB] at j;have j:=j.1;simp only at d;split at j
     ·rw[List.filterMap_cons] at d
      cases d
     ·cases j
   |_=>exact a b
  ·cases h
theorem uL {G:aI} {x:V} {u v:Value} (h:kD x=some u) (a:aJ G x v):v=u:=by
 cases x with
 |bool b=>simp only[kD,aF] at h;unfold aJ at a;rw[a,h]
 |int k n=>simp only[kD,aF] at h;unfold aJ at a;rw[a,h]
 |_=>cases h
theorem uM {G:aI}: ∀(xs:af) (us vs:List Value),kE xs=some us→PW (aJ G) xs vs→vs=us
 |[],us,vs,h,c=>by simp only[kE,aF] at h;rw[c.bH,h]
 |x::xs,us,vs,h,c=>by
  obtain⟨v,t,rfl,g,d⟩:=c.cons_inv;unfold kE at h;split at h
  ·rename_i a b f e
   simp only[aF] at h;rw[←h,uL f g,uM xs b t e d]
  ·cases h
theorem xA {G:aI} {x:V} {u v:Value} (h:bG x=some u) (b:aJ G x v):v=u:=by
 unfold bG at h;split at h
 ·rename_i t f
  split at h
  ·rename_i l hl
   simp only[aF] at h;unfold aJ at b;obtain⟨z,rfl,c⟩:=b;unfold aJ at c;obtain⟨a,rfl,d⟩:=c;rw[dI] at d;rw[uM f l a hl d,h]
  ·cases h
 ·rename_i t y _
  split at h
  ·rename_i z c
   simp only[aF] at h;unfold aJ at b;obtain⟨q,rfl,e⟩:=b;rw[uL c e,h]
  ·cases h
 ·cases h
theorem EN {g:Gh} {x:V} {u v:Value} (h:bG x=some u) (a:aB g x v):v=u:=by
 cases x with
 |iface t y=>exact xA (G:=g.G) h a
 |_=>cases h
theorem Tc (h:Inv E B G0 w0 s g a w) (p:Does E.P a.eval o B w g s.bx eff) {v:V} (j:D7 E s eff v s') {next:Act→World→Prop} {Q:Exit→Act→World→Prop}
  (k: ∀g' w' u,Inv E B G0 w0 s' g' a w'→bG v=some u→Q (.panic [{v:=u,recovered:=false}]) a w'):o.wp E.P a w next Q:=by
 unfold Oper.wp;obtain⟨⟨u,b⟩,j⟩:=j
 cases eff with
 |call f args mb ml=>
  obtain⟨vs,z,m,r,d,i⟩:=p;rw[m];rcases j with⟨bs,n,c⟩|⟨n,rfl⟩
  rotate_left
  ·refine Calls.mono (n (qT g w mb ml) (mI g mb ml) w vs rfl (lY h r d i)) ?_
   rintro e w' ⟨q,rfl,hx,t⟩;exact k _ _ _ (h.still t) hx
  refine Calls.mono (n (qT g w mb ml) (mI g mb ml) w vs rfl (lY h r d i)) ?_;rintro e w' ⟨g1,q,rfl,hx⟩;obtain⟨A,x⟩:=wu h d i c hx;have l:=EN b hx.fr.head;subst l;exact k _ _ _ x b
 |jN y=>
  obtain⟨q,m,l⟩:=p;obtain⟨rfl,rfl⟩:=j;rw[m];have:=xA b l;subst this;exact k _ _ _ h b
 |_=>exact j.elim
theorem oq (h:Inv E B G0 w0 s g a w) (hd:Does E.P a.eval o B w g bx eff) (hs: ∀k cs,aj bx k=some cs→aj s.bx k=some cs) {dr:Bool} (hsb:dr=false→bx=s.bx) (hr:zQ E dr s o.dst eff s') {next:Act→World→Prop} {Q:Exit→Act→World→Prop}
  (N: ∀g' a' w',Inv E B G0 w0 s' g' a' w'→(∃u,a'=a.put o.dst u)→next a' w'):o.wp E.P a w next Q:=by
 unfold Oper.wp
 cases eff with
 |val v=>
  obtain⟨u,K,ht⟩:=hd;have M:s'=s.put o.dst v:=hr;subst M;rw[K];exact N g _ _ (h.put o.dst ht) ⟨u,rfl⟩
 |newSl e sh xs=>
  obtain⟨u,w',G',K,hn,ht⟩:=hd;obtain⟨F,_⟩:=h.new hn;rw[K];have M:s'=s.put o.dst (.sl e sh none xs):=hr;subst M;exact N _ _ _ (F.put o.dst (v:=.sl e sh none xs) ht) ⟨u,rfl⟩
 |own e sh xs=>
  obtain⟨u,w',G',K,hn,hf⟩:=hd;obtain⟨k,I,S,Y,rfl⟩:=hr;obtain⟨F,_⟩:=h.new hn;rw[K];have hf':gq G' w' (B.ok k) e sh xs u:=by
   refine⟨hf.1,hf.2.imp id ?_⟩;rintro⟨b,cap,D,l,z,m,R⟩;exact⟨b,cap,D,l,z,⟨h.hB.2 b m,fun _=>zl h.hB.1 m⟩,R⟩
  have h1':=F.put (some k) (v:=.any) (u:=u) gm;obtain⟨g',hg,hi,ht⟩:=h1'.label (e:=e) (sh:=sh) (xs:=xs) (u:=u) S hf' (by
   intro L v X W b hL _ m p;have h3:=rG h.gok h.own hL m;rcases hf.2 with⟨rfl,_⟩|⟨b',cap,D,l,rfl,hb',_⟩
   ·cases p
   ·simp[Value.ownBlock] at p;omega)
  have:=hi.put (some k) (v:=.sl e sh (some k) xs) (u:=u) ht;rw[show(s.put (some k) .any).put (some k) (.sl e sh (some k) xs)=s.put (some k) (.sl e sh (some k) xs) by simp[St.put],show(a.put (some k) u).put (some k) u=a.put (some k) u by simp[Act.put]] at this;rw[Oper.upon_value];rw[I] at N⊢;exact N _ _ _ this ⟨u,rfl⟩
 |app L e sh xs=>
  obtain⟨v0,u,w',G',Z,K,U,hG1,hmore,XX,hf,p⟩:=hd;obtain⟨k,I,S,Y,rfl⟩:=hr;have F:=h.kill L;rw[K];have hrow: ∀b,v0.ownBlock=some b→B.ok L b:=by
   intro b m;rcases(h.own.1 L v0 e sh.length Z).2 with z|⟨b',n,cap,D,l,z,hB',_⟩
   ·rw[z] at m;cases m
   ·rw[z] at m;simp[Value.ownBlock] at m;subst m;exact hB'
  have C: ∀L' v X W b,(if L'=L then none else g.O L')=some (v,X,W)→v.ownBlock=some b→b<w.heap.size∧some b≠v0.ownBlock:=by
   intro L' v X W b q m;split at q
   ·cases q
   ·rename_i hne
    refine⟨rG h.gok h.own q m,fun M=>hne ?_⟩;exact h.own.2 L' L v v0 _ _ _ _ b q Z m M.symm
  have hext:Ext {g with O:=fun k=>if k=L then none else g.O k} {g with O:=(fun k=>if k=L then none else g.O k),G:=G'}:=
   ⟨hmore,fun _ _ h=>h,fun L' v X W b q m=>by obtain⟨h2,h3⟩:=C L' v X W b q m;exact hG1 b h2 h3,fun _ _ h=>h,rfl,fun _ _ _=>rfl⟩
  have h2:Inv E B G0 w0 (s.kill L) {g with O:=(fun k=>if k=L then none else g.O k),G:=G'} a w':=by
   refine⟨F.fr.mono fun x _ v=>nI hext,F.df,XX,⟨fun L' v X W q=>?_,F.own.2⟩,⟨fun j cs hj=>?_,F.bxs.2⟩,?_,yN h.hB U.size,⟨fun b m=>?_,h.ext.2.1.trans hmore,h.ext.2.2⟩,F.glob,F.g1,F.zb⟩
   ·obtain⟨p1,p2⟩:=F.own.1 L' v X W q
    refine⟨p1,p2.imp id ?_⟩;rintro⟨b,n,cap,D,l,z,m,hh,hnc,hcm,hcs,zq,hl⟩;obtain⟨q1,q2⟩:=C L' v X W b q (by rw[z];rfl);exact⟨b,n,cap,D,l,z,m,by rw[U.block b q1 q2];exact hh,hnc,hcm,hcs,zq.keep rfl (hG1 b q1 q2),hl⟩
   ·obtain⟨b,c,e2,m,hBb,hh,hp,ho,zq,hq⟩:=F.bxs.1 j cs hj
    have hlt:=(Array.getElem?_eq_some_iff.1 hh).1;have hne:some b≠v0.ownBlock:=by
     intro M;have hj:aj (s.kill L).bx j=some cs:=hj;rw[lu] at hj
     cases Xw:aj s.bx j with
     |none=>rw[Xw] at hj;cases hj
     |some ds=>exact h.zb j ds L v0 e sh.length b Xw Z M.symm m
    exact⟨b,c,e2,m,hBb,by rw[U.block b hlt hne];exact hh,hp.mono fun x _ v=>nI hext,ho,by show G' b=_;rw[hG1 b hlt hne];exact zq,hq⟩
   ·refine h.gN.trans ⟨⟨U.os,U.tape,U.output,U.size,fun b m=>by omega⟩,fun b m=>U.block b (N9 fun e=>m (h.hB.2 b e)) fun M=>m (hrow b M.symm).1,fun b es c m=>(U.block b (Array.getElem?_eq_some_iff.1 m).1 fun M=>by obtain⟨_,_,_,hq⟩:=CJ h.own Z M.symm;rw[m] at hq;cases hq).trans m⟩
   ·have hlt:b<w.heap.size:=N9 fun e=>m (h.hB.2 b e)
    have hne:some b≠v0.ownBlock:=fun M=>m (hrow b M.symm).1
    exact(hG1 b hlt hne).trans (h.ext.1 b m)
  have hf2:gq G' w' (B.ok (dZ true L k)) e sh xs u:=by
   refine⟨hf.1,hf.2.imp id ?_⟩;rintro⟨b,cap,D,l,z,m,R⟩;exact⟨b,cap,D,l,z,⟨m.1,fun hlt=>m.2 (zS Y hlt)⟩,R⟩
  obtain⟨g',hg,hi,ht⟩:=h2.label (e:=e) (sh:=sh) (xs:=xs) (u:=u) S hf2 (by
   intro L' v X W b q _ m J;obtain⟨q1,q2⟩:=C L' v X W b q m;rcases p with p|p
   ·rw[J] at p;exact q2 p
   ·have:=p b J;omega)
  have:=hi.put (some k) (v:=.sl e sh (some (dZ true L k)) xs) (u:=u) ht;rw[Oper.upon_value];rw[I] at N⊢;exact N _ _ _ this ⟨u,rfl⟩
 |kN e cs=>
  obtain⟨c,K,hp,ho,hq⟩:=hd;obtain⟨k,I,S,hk3,Y,rfl⟩:=hr;rw[K];obtain⟨g',hi⟩:=h.kN (e:=e) Y S hp ho hk3 hq;rw[Oper.upon_value];rw[I] at N⊢;exact N _ _ _ hi ⟨_,rfl⟩
 |put k off cs=>
  obtain⟨b,c,e,us,old,m,hl,hh,hp,K,z,ho,hle⟩:=hd;obtain⟨old',hl',hq,rfl⟩:=hr;rw[hs k old hl] at hl';simp only[aF] at hl';subst hl';rw[K];have F:=h.store (off:=off) (vs:=cs) (us:=us) m (hs k old hl) hh hp z ho hle hq;exact N _ _ _ (F.put o.dst (v:=.tup []) (u:=undef) ⟨[],rfl,.nil⟩) ⟨_,rfl⟩
 |call f args mb ml=>
  obtain⟨vs,as,K,hp,hof,Xx⟩:=hd;rw[K];rcases hr with⟨hbx,hr⟩|⟨hdr,x,bs,hc,hback⟩|⟨hdr,x,hc,rfl⟩
  ·have hpl:PW (aJ g.G) (args.map V.qK) vs:=by
    obtain⟨M,e2,z,_⟩:=p8 hof;obtain⟨A,H,rfl,hA,hH⟩:=ni as (iE as) args z;have Yp:fV A=false∧fV H=false:=by
     unfold fV at hbx⊢;rw[List.any_append,zi] at hbx;exact hbx
    have hH0:=Ta (Eh (iE as) H (pZ as) hH) Yp.2;subst hH0;have hh0:iE as=[]:=by
     cases hq:iE as with
     |nil=>rfl
     |cons x t=>
      rw[hq] at hH;unfold eT at hH;split at hH<;>simp at hH
    rw[Oa];exact AZ as A vs hh0 hA Yp.1 hp
   have key: ∀r,ak E f (args.map V.qK) r→(∀v w' G',New w w' g.G G'→d9 G' w' (w.heap.size≤ ·) r v→next (a.put o.dst v) w')→o.upon E.P a next Q (.ok (.enter f vs.toArray) w):=by
    intro r hc hn;refine Calls.mono (hc g.G w vs h.gok h.eD hpl) ?_;rintro e w' ⟨v,G',rfl,F,h2⟩;exact hn v w' G' F h2
   rcases hr with⟨k,r,I,S,hk3,hc,rfl⟩|⟨r,I,hc,rfl⟩
   ·refine key r hc fun v w' G' hn hres=>?_
    obtain⟨F,_⟩:=h.new hn;obtain⟨g',hi,ht⟩:=MZ F (d:=k) (r:=r) (v:=v) (b0:=w.heap.size) S h.hB (fun L v e W b hL m=>rG h.gok h.own hL m) hres;have:=hi.put (some k) ht;rw[I] at N⊢;exact N _ _ _ this ⟨v,rfl⟩
   ·refine key r hc fun v w' G' hn hres=>?_
    obtain⟨F,_⟩:=h.new hn;have:=F.put none (v:=.any) (u:=v) gm;rw[I] at N⊢;exact N _ _ _ this ⟨v,rfl⟩
  ·rw[hsb hdr] at hof
   refine Calls.mono (hc (qT g w mb ml) (mI g mb ml) w vs rfl (lY h hp hof Xx)) ?_;rintro e w' ⟨g1,v,rfl,hx⟩;obtain⟨g2,hi⟩:=wu h hof Xx hback hx;exact N _ _ _ hi ⟨v,rfl⟩
  ·rw[hsb hdr] at hof
   refine Calls.mono (hc (qT g w mb ml) (mI g mb ml) w vs rfl (lY h hp hof Xx)) ?_;rintro e w' ⟨v,rfl,⟨hx,z⟩,m⟩;refine N _ _ _ ((h.still m).put o.dst (v:=x) (u:=v) ?_) ⟨v,rfl⟩
   cases x with
   |tup vs=>
    cases vs with
    |nil=>exact⟨[],z,.nil⟩
    |cons _ _=>cases hx
   |bool b=>exact gK (g:=⟨fun _=>none,fun _=>none,fun _=>none,fun _=>none,fun _=>none⟩) rfl z
   |int k n=>exact gK (g:=⟨fun _=>none,fun _=>none,fun _=>none,fun _=>none,fun _=>none⟩) rfl z
   |str l=>exact gK (g:=⟨fun _=>none,fun _=>none,fun _=>none,fun _=>none,fun _=>none⟩) rfl z
   |_=>cases hx
 |jN v=>exact hr.elim
 |pick b x y=>
  obtain⟨u,K,ht⟩:=hd;rw[K]
  cases b with
  |true=>
   have M:s'=s.put o.dst x:=hr;subst M;exact N _ _ _ (h.put o.dst ht) ⟨u,rfl⟩
  |false=>
   have M:s'=s.put o.dst y:=hr;subst M;exact N _ _ _ (h.put o.dst ht) ⟨u,rfl⟩
 |zu L e k ys=>
  obtain⟨v0,b,c,l,i,u,xs,F,h2,h3,h4,h5,h6,h7,h8,h9,h10,K⟩:=hd;obtain⟨r1,rfl⟩:=hr;rw[K];obtain⟨g',hi⟩:=h.forget.zu F h2 h3 h4 h5 h6 h7 h8 h9 h10 (EM s) r1;exact N g' _ _ (hi.put o.dst (v:=.tup []) (u:=undef) ⟨[],rfl,.nil⟩) ⟨_,rfl⟩
 |alts i vs=>
  obtain⟨j,v,F,h2,rfl⟩:=hr;obtain⟨u,K,ht⟩:=hd j v F h2;rw[K];exact N g _ _ (h.put o.dst ht) ⟨u,rfl⟩
 |ownz e sh xs c e2 T=>
  obtain⟨u,w',l,K,m,hz,hE,hk0,hlk⟩:=hd;obtain⟨k,I,S,hk3,Y,rfl⟩:=hr;rw[K];have hkH:k<HL:=by unfold dz at Y;omega
  have F:=(h.still m).put (some k) (v:=.any) (u:=u) gm;have hnew: ∀b,u.ownBlock=some b→w.heap.size≤b:=by
   intro b p;rcases hz.2.2 with⟨rfl,_⟩|⟨b',cap,D,rfl,hb',_⟩
   ·cases p
   ·simp[Value.ownBlock] at p;omega
  have hz':rF g.G w' (B.ok k) e sh.length xs.length u l:=by
   refine⟨hz.1,hz.2.1,hz.2.2.imp id ?_⟩;rintro⟨b,cap,D,z,hb',R⟩;exact⟨b,cap,D,z,⟨h.hB.2 b hb',fun _=>zl h.hB.1 hb'⟩,R⟩
  obtain⟨g1,hg1,hi1,ho1,hc1,_⟩:=F.Pb (d:=k) (e:=e) (sh:=sh) (xs:=xs) (u:=u) (l:=l) S hz' (by
   intro L v X W b hL _ hb' p;have:=rG h.gok h.own hL hb';have:=hnew b p;omega) (by
   intro j cs b hj p hβ;have hj:aj s.bx j=some cs:=hj;obtain⟨b',_,_,p1,_,p3,_⟩:=h.bxs.1 j cs hj;rw[hβ] at p1;simp only[aF] at p1;subst p1;have:=(Array.getElem?_eq_some_iff.1 p3).1;have:=hnew b p;omega)
  obtain⟨g2,hg2,hi2,hs2,hx2⟩:=hi1.I6 (d:=dz k) (e:=e2) (sh:=T) (xs:=[]) (u:=.slice none 0 0) hk3 ⟨hk0,.inl ⟨rfl,rfl⟩⟩ (by intro L v X W b _ _ _ hq;cases hq);have hkd:k≠dz k:=by unfold dz;omega
  have ht:aB g2 (.slz k e sh xs (some (dz k)) 0 c e2 T []) u:=by
   refine kF.2 ⟨l,(hx2 k hkd).1.trans ho1,(hx2 k hkd).2.trans hc1,⟨?_,hz.2.1,by rw[hg2,hg1];exact hE⟩,_,hs2.1,hs2.2,fun y _ hy=>hlk y ?_⟩
   ·rcases hz.2.2 with⟨z,hn⟩|⟨b,cap,D,z,_⟩
    ·exact .inl ⟨z,RN hn⟩
    ·exact .inr ⟨b,cap,z⟩
   ·simpa using hy
  have:=hi2.put (some k) (v:=.slz k e sh xs (some (dz k)) 0 c e2 T []) (u:=u) ht;rw[show(s.put (some k) .any).put (some k) (.slz k e sh xs (some (dz k)) 0 c e2 T [])=s.put (some k) (.slz k e sh xs (some (dz k)) 0 c e2 T []) by simp[St.put],show(a.put (some k) u).put (some k) u=a.put (some k) u by simp[Act.put]] at this;rw[Oper.upon_value];rw[I] at N⊢;exact N _ _ _ this ⟨u,rfl⟩
 |appz L e sh xs i c e2 T=>
  obtain⟨v0,u,w',l,Z,K,U,hG0,hz,hE,p,hk0,hlk⟩:=hd;obtain⟨k,I,S,hk3,Y,rfl⟩:=hr;rw[K];have hkH:k<HL:=by unfold dz at Y;omega
  have hrow: ∀b,v0.ownBlock=some b→B.ok L b:=by
   intro b m;rcases(h.own.1 L v0 e sh.length Z).2 with z|⟨b',n,cap,D,l,z,hB',_⟩
   ·rw[z] at m;cases m
   ·rw[z] at m;simp[Value.ownBlock] at m;subst m;exact hB'
  have C: ∀L' v X W b,(if L'=L then none else g.O L')=some (v,X,W)→v.ownBlock=some b→b<w.heap.size∧some b≠v0.ownBlock:=by
   intro L' v X W b q m;split at q
   ·cases q
   ·rename_i hne
    refine⟨rG h.gok h.own q m,fun M=>hne ?_⟩;exact h.own.2 L' L v v0 _ _ _ _ b q Z m M.symm
  have Yq: ∀j cs b,aj (s.kill L).bx j=some cs→g.β j=some b→b<w.heap.size∧some b≠v0.ownBlock:=by
   intro j cs b hj hβ;rw[lu] at hj
   cases Xw:aj s.bx j with
   |none=>rw[Xw] at hj;cases hj
   |some ds=>
    obtain⟨b',_,_,p1,_,p3,_⟩:=h.bxs.1 j ds Xw;rw[hβ] at p1;simp only[aF] at p1;subst p1;exact⟨(Array.getElem?_eq_some_iff.1 p3).1,fun M=>h.zb j ds L v0 e sh.length b Xw Z M.symm hβ⟩
  have F:=(h.kill L).grow U hG0 (fun L' v X W b q m=>(C L' v X W b q m).2) (fun j cs b hj m=>(Yq j cs b hj m).2) (fun b m=>(hrow b m).1) (fun b m=>CJ h.own Z m);have hz':rF g.G w' (B.ok (dZ true L k)) e sh.length xs.length u l:=by
   refine⟨hz.1,hz.2.1,hz.2.2.imp id ?_⟩;rintro⟨b,cap,D,z,m,R⟩;exact⟨b,cap,D,z,⟨m.1,fun hlt=>m.2 (zS hkH hlt)⟩,R⟩
  obtain⟨g1,hg1,hi1,ho1,hc1,_⟩:=F.Pb (d:=dZ true L k) (e:=e) (sh:=sh) (xs:=xs) (u:=u) (l:=l) S hz' (by
   intro L' v X W b q _ m J;obtain⟨q1,q2⟩:=C L' v X W b q m;rcases p with p|p
   ·rw[J] at p;exact q2 p
   ·have:=p b J;omega) (by
   intro j cs b hj J hβ;obtain⟨q1,q2⟩:=Yq j cs b hj hβ;rcases p with p|p
   ·rw[J] at p;exact q2 p
   ·have:=p b J;omega)
  obtain⟨g2,hg2,hi2,hs2,hx2⟩:=hi1.I6 (d:=dz k) (e:=e2) (sh:=T) (xs:=[]) (u:=.slice none 0 0) hk3 ⟨hk0,.inl ⟨rfl,rfl⟩⟩ (by intro L v X W b _ _ _ hq;cases hq);have hkd:dZ true L k≠dz k:=by
   unfold dZ dz;rw[On];unfold dz at Y
   cases Nat.ble HL L
   ·show k≠k+500000000;omega
   ·show HL+k≠k+500000000;unfold HL;omega
  have ht:aB g2 (.slz (dZ true L k) e sh xs (some (dz k)) i c e2 T []) u:=by
   refine kF.2 ⟨l,(hx2 _ hkd).1.trans ho1,(hx2 _ hkd).2.trans hc1,⟨?_,hz.2.1,by rw[hg2,hg1];exact hE⟩,_,hs2.1,hs2.2,fun y h0 hy=>hlk y h0 hy⟩;rcases hz.2.2 with⟨z,hn⟩|⟨b,cap,D,z,_⟩
   ·exact .inl ⟨z,RN hn⟩
   ·exact .inr ⟨b,cap,z⟩
  have:=hi2.put (some k) (v:=.slz (dZ true L k) e sh xs (some (dz k)) i c e2 T []) (u:=u) ht;rw[Oper.upon_value];rw[I] at N⊢;exact N _ _ _ this ⟨u,rfl⟩
 |zw L e sh xs i c L3 e2 T ys=>
  obtain⟨v0,b,D,l,u,F,h2,h3,h4,h5,h6,h7,h8,h9,K⟩:=hd;have M:s'=(s.vC L e sh xs i c L3 e2 T ys).put o.dst (.tup []):=hr;subst M;rw[K];obtain⟨g',hi⟩:=h.zw F h2 h3 h4 h5 h7 h8 h9;exact N g' _ _ (hi.put o.dst (v:=.tup []) (u:=undef) ⟨[],rfl,.nil⟩) ⟨_,rfl⟩
def ja (ops:List Oper) (s:St) (o:Oper):Option Bool:=
 match o.guard with
 |none=>some true
 |some (j,a)=>match ops[j]? with
  |none=>none
  |some c=>match c.dst with
   |none=>none
   |some d=>match slot s.fr d with
    | .bool b=>some (b==a)
    | .tup []=>some false
    |_=>none
theorem KR (h:PW (aB g) s.fr a.tmps.toList) {d:Nat} {x:V} (hx:slot s.fr d=x) (b:x≠.any):d<s.fr.length∧ ∃u,a.tmps[d]? =some u∧aB g x u:=by
 unfold slot at hx;have e:d<s.fr.length:=by
  refine N9 fun c=>b ?_
  rw[←hx,sQ,Xi c];rfl
 obtain⟨u,i,f⟩:=h.get (getD_some e);rw[hx] at f;exact⟨e,u,by simpa using i,f⟩
theorem di {ops:Array Oper} (h:PW (aB g) s.fr a.tmps.toList) {b:Bool} (f:ja ops.toList s o=some b):Region.wanted o (yielded ops a.tmps)=b:=by
 unfold ja at f;unfold Region.wanted;split at f
 ·rename_i m
  rw[m];simp only[aF] at f;exact f
 ·rename_i j r m
  rw[m];simp only;split at f
  ·cases f
  ·rename_i t n
   split at f
   ·cases f
   ·rename_i d q
    have i:ops[j]? =some t:=by simpa using n
    split at f
    ·rename_i c p
     obtain⟨_,u,l,k⟩:=KR h p (by intro e;cases e);rw[bn] at k;subst k;simp only[aF] at f;subst f;simp[yielded,i,q,l]
    ·rename_i p
     obtain⟨_,u,l,k⟩:=KR h p (by intro e;cases e);obtain⟨us,rfl,v⟩:=k;simp only[aF] at f;subst f;simp[yielded,i,q,l]
    ·cases f
def ql (E:Env) (ops:List Oper) (bx:Option (List (Nat×af))) (s:St) (o:Oper) (s':St):Prop:=
 (ja ops s o=some true∧ ∃eff,yh E s.fr (match bx with|some b=>b|none=>s.bx) o=some (true,eff)∧(bx.isSome&&DW eff)=false∧zQ E bx.isSome s o.dst eff s')∨(ja ops s o=some false∧s'=s.put o.dst (.tup []))
inductive Trace (E:Env) (ops:List Oper) (bx:Option (List (Nat×af))):List Oper→St→St→Prop
 |nil (s:St):Trace E ops bx [] s s
 |cons {o:Oper} {l:List Oper} {s s1 s':St} (h:ql E ops bx s o s1) (t:Trace E ops bx l s1 s'):Trace E ops bx (o::l) s s'
theorem jg {α:Type} {c:Bool} {x y:Option α} {r:α} (h:sel c x y=some r):(c=true∧x=some r)∨(c=false∧y=some r):=by
 cases c
 ·exact .inr ⟨rfl,h⟩
 ·exact .inl ⟨rfl,h⟩
theorem Qm {fr:af} {d:Nat} {x:V} (h:slot fr d=x):fr.set d x=fr:=by
 by_cases a:d<fr.length
 ·unfold slot at h
  rw[sQ,gQ a] at h;simp only[oQ] at h;rw[←h];exact List.set_getElem_self a
 ·exact List.set_eq_of_length_le (by omega)
theorem CX {β:Type}: ∀(l:af) (k:af→β),DX l k=k l
 |[],_=>rfl
 |v::l,k=>by unfold DX;exact CX l _
theorem OO {α:Type} (K:St→Option α):pf K=K:=by
 funext s
 unfold pf;rw[CX]
inductive rH (E:Env) (ops:List Oper):List Oper→St→V→St→Prop
 |here {o:Oper} {l:List Oper} {s s':St} {eff:Eff} {v:V} (hw:ja ops s o=some true) (ho:yh E s.fr s.bx o=some (true,eff)) (h:D7 E s eff v s'):rH E ops (o::l) s v s'
 |next {o:Oper} {l:List Oper} {s s1 s':St} {v:V} (h:ql E ops none s o s1) (t:rH E ops l s1 v s'):rH E ops (o::l) s v s'
theorem Qn {α:Type} {call:Caller α} (i:fM E call) {bx:Option (List (Nat×af))} {K:St→Option α} {KP:V→St→Option α} {r:α} (h:Oy E call bx o s K KP=some r):
  (∃eff s',(yh E s.fr (match bx with|some b=>b|none=>s.bx) o=some (true,eff)∧(bx.isSome&&DW eff)=false∧zQ E bx.isSome s o.dst eff s')∧K s'=some r)∨
  (bx=none∧ ∃eff v s',yh E s.fr s.bx o=some (true,eff)∧D7 E s eff v s'∧KP v s'=some r):=by
 unfold Oy at h;split at h
 ·cases h
 ·rename_i c eff f
  cases d:bx.isSome&&DW eff with
  |true=>rw[d] at h;cases h
  |false=>
  rw[d,fQ] at h;rcases jg h with⟨rfl,h⟩|⟨_,h⟩
  ·rcases Qg i h with⟨s',e,a⟩|⟨g,v,s',e,a⟩
   ·exact .inl ⟨eff,s',⟨f,d,e⟩,a⟩
   ·cases bx with
    |some b=>cases g
    |none=>exact .inr ⟨rfl,eff,v,s',f,e,a⟩
  ·cases h
theorem bX {α:Type} {call:Caller α} (w:fM E call) {ops:List Oper} {bx:Option (List (Nat×af))} {KP:V→St→Option α}: ∀(l:List Oper) (s:St) (K:St→Option α) (r:α),iZ E call ops bx KP l s K=some r→
  (∃s',Trace E ops bx l s s'∧K s'=some r)∨(bx=none∧ ∃v s',rH E ops l s v s'∧KP v s'=some r)
 |[],s,K,r,h=> .inl ⟨s,.nil s,h⟩
 |o::l,s,K,r,h=>by
  have i: ∀(m:ja ops s o=some false),iZ E call ops bx KP l (s.put o.dst (.tup [])) K=some r→(∃s',Trace E ops bx (o::l) s s'∧K s'=some r)∨(bx=none∧ ∃v s',rH E ops (o::l) s v s'∧KP v s'=some r):=by
   intro m h;rcases bX w l _ K r h with⟨s',p,q⟩|⟨f,v,s',p,q⟩
   ·exact .inl ⟨s',.cons (.inr ⟨m,rfl⟩) p,q⟩
   ·subst f
    exact .inr ⟨rfl,v,s',.next (.inr ⟨m,rfl⟩) p,q⟩
  have take: ∀(m:ja ops s o=some true),Oy E call bx o s (fun s=>iZ E call ops bx KP l s K) KP=some r→(∃s',Trace E ops bx (o::l) s s'∧K s'=some r)∨(bx=none∧ ∃v s',rH E ops (o::l) s v s'∧KP v s'=some r):=by
   intro m h;rcases Qn w h with⟨eff,z,u,h3⟩|⟨f,eff,v,s',u,y,h3⟩
   ·rcases bX w l z K r h3 with⟨s',p,q⟩|⟨f,v,s',p,q⟩
    ·exact .inl ⟨s',.cons (.inl ⟨m,eff,u⟩) p,q⟩
    ·subst f
     exact .inr ⟨rfl,v,s',.next (.inl ⟨m,eff,u⟩) p,q⟩
   ·subst f
    exact .inr ⟨rfl,v,s',.here m u y,h3⟩
  unfold iZ at h;simp only[OO] at h;split at h
  ·rename_i n
   exact take (by unfold ja;rw[n]) h
  ·rename_i j k n
   unfold O3 at h;split at h
   ·cases h
   ·rename_i A g
    split at h
    ·cases h
    ·rename_i d t
     split at h
     ·rename_i b f
      have x: ∀c,b=c→(⟨s.fr.set d (.bool c),s.bx⟩:St)=s:=by
       intro c e;subst e;rw[Qm f]
      rcases jg h with⟨a,h⟩|⟨a,h⟩
      ·rw[x true a] at h
       cases k with
       |true=>exact take (by unfold ja;simp[n,g,t,f,a]) h
       |false=>exact i (by unfold ja;simp[n,g,t,f,a]) h
      ·rw[x false a] at h
       cases k with
       |true=>exact i (by unfold ja;simp[n,g,t,f,a]) h
       |false=>exact take (by unfold ja;simp[n,g,t,f,a]) h
     ·rename_i f
      exact i (by unfold ja;simp[n,g,t,f]) h
     ·cases h
theorem kG (hE:oU E) {ops:Array Oper} {Q:Exit→Act→World→Prop}: ∀(l:List Oper) (i:Nat) (s s':St) (g:Gh) (a:Act) (w:World),ops.toList.drop i=l→Trace E ops.toList none l s s'→Inv E B G0 w0 s g a w→
  (∀g' e w',Inv E B G0 w0 s' g' e w'→Q .normal e w')→wpOps E.P ops Q (List.range' i l.length) a w
 |[],i,s,s',g,a,w,f,b,h,d=>by
  cases b;exact d g a w h
 |o::l,i,s,s',g,a,w,f,b,h,d=>by
  cases b with
  |cons r b=>
   rename_i q;have t:ops[i]? =some o:=by
    have:=congrArg (fun l=>l[0]?) f;simpa using this
   have c:ops.toList.drop (i+1)=l:=by
    rw[←Ke,f];rfl
   rw[iy,ZE];unfold wpOps;rw[t];simp only;rcases r with⟨k,eff,n,_,p⟩|⟨k,rfl⟩
   ·rw[if_pos (di h.fr k)]
    refine .inl ?_;have j:=gV (ac:=a) (B:=B) (w:=w) (g:=g) hE rfl h.gok h.own h.bxs h.hB h.m1 h.eD (fun y=>bR h.fr h.eD y) n;exact oq h j (fun _ _ h=>h) (fun _=>rfl) p fun g' e w' m _=>kG hE l (i+1) q s' g' e w' c b m d
   ·rw[if_neg (by rw[di h.fr k];decide)]
    exact kG hE l (i+1) _ s' g _ w c b (h.put o.dst (v:=.tup []) (u:=undef) ⟨[],rfl,.nil⟩) d
theorem nP (hE:oU E) {ops:Array Oper} {Q:Exit→Act→World→Prop} {v:V}: ∀(l:List Oper) (i:Nat) (s s':St) (g:Gh) (a:Act) (w:World),ops.toList.drop i=l→rH E ops.toList l s v s'→Inv E B G0 w0 s g a w→
  (∀g' j w' u,Inv E B G0 w0 s' g' j w'→bG v=some u→Q (.panic [{v:=u,recovered:=false}]) j w')→wpOps E.P ops Q (List.range' i l.length) a w
 |[],i,s,s',g,a,w,k,c,h,f=>by cases c
 |o::l,i,s,s',g,a,w,k,c,h,f=>by
  have z:ops[i]? =some o:=by
   have:=congrArg (fun l=>l[0]?) k;simpa using this
  have e:ops.toList.drop (i+1)=l:=by
   rw[←Ke,k];rfl
  rw[iy,ZE];unfold wpOps;rw[z];simp only
  cases c with
  |here d n p=>
   rw[if_pos (di h.fr d)];refine .inl ?_;have b:=gV (ac:=a) (B:=B) (w:=w) (g:=g) hE rfl h.gok h.own h.bxs h.hB h.m1 h.eD (fun y=>bR h.fr h.eD y) n;exact Tc h b p fun g' w' u m r=>f g' a w' u m r
  |next x c=>
   rename_i t;rcases x with⟨d,eff,n,_,q⟩|⟨d,rfl⟩
   ·rw[if_pos (di h.fr d)]
    refine .inl ?_;have b:=gV (ac:=a) (B:=B) (w:=w) (g:=g) hE rfl h.gok h.own h.bxs h.hB h.m1 h.eD (fun y=>bR h.fr h.eD y) n;exact oq h b (fun _ _ h=>h) (fun _=>rfl) q fun g' j w' m _=>nP hE l (i+1) t s' g' j w' e c m f
   ·rw[if_neg (by rw[di h.fr d];decide)]
    exact nP hE l (i+1) _ s' g _ w e c (h.put o.dst (v:=.tup []) (u:=undef) ⟨[],rfl,.nil⟩) f
end
structure mD where
 d:Nat
 v:V
 bx:Option (af)
def mD.app (c:mD) (s:St):St:=⟨s.fr.set c.d c.v,match c.bx with|some cs=>(c.d,cs)::s.bx|none=>s.bx⟩
def aP (sel:Nat→Bool):List mD→Nat→St→St
 |[],_,s=>s
 |c::l,k,s=>aP sel l (k+1) (if sel k=true then c.app s else s)
structure Alike (s s':St):Prop where
 fr:s.fr=s'.fr
 bx: ∀k,aj s.bx k=aj s'.bx k
theorem Alike.refl (s:St):Alike s s:=⟨rfl,fun _=>rfl⟩
theorem Alike.trans {a b c:St} (h:Alike a b) (k:Alike b c):Alike a c:=⟨h.fr.trans k.fr,fun j=>(h.bx j).trans (k.bx j)⟩
theorem Alike.app {a b:St} (h:Alike a b) (c:mD):Alike (c.app a) (c.app b):=by
 refine⟨by simp[mD.app,h.fr],fun k=>?_⟩;unfold mD.app
 cases c.bx with
 |none=>exact h.bx k
 |some d=>simp only[aj];rw[h.bx k]
theorem Alike.comm (s:St) {c a:mD} (h:c.d≠a.d):Alike (c.app (a.app s)) (a.app (c.app s)):=by
 refine⟨by simp[mD.app,List.set_comm _ _ (fun e=>h e.symm)],fun k=>?_⟩;unfold mD.app
 cases j:c.bx<;>cases g:a.bx<;>simp only[aj]
 by_cases f:c.d=k
 ·have b:(c.d==k)=true:=by simpa using f
  have i:(a.d==k)=false:=by rw[oZ];intro e;exact h (f.trans e.symm)
  rw[b,i];rfl
 ·have b:(c.d==k)=false:=by simpa using f
  rw[b];rfl
theorem xB (sel:Nat→Bool): ∀(l:List mD) (k:Nat) (s s':St),Alike s s'→Alike (aP sel l k s) (aP sel l k s')
 |[],_,_,_,h=>h
 |c::l,k,s,s',h=>by
  unfold aP;refine xB sel l (k+1) _ _ ?_;split
  ·exact h.app c
  ·exact h
theorem CY (sel:Nat→Bool) (c:mD): ∀(l:List mD) (k:Nat) (s:St),(∀c'∈l,c'.d≠c.d)→Alike (c.app (aP sel l k s)) (aP sel l k (c.app s))
 |[],_,_,_=> .refl _
 |c'::l,k,s,h=>by
  unfold aP;refine(CY sel c l (k+1) _ fun x hx=>h x (vg _ hx)).trans (xB sel l (k+1) _ _ ?_);split
  ·exact Alike.comm s fun e=>h c' sS e.symm
  ·exact .refl _
theorem iO (sel a:Nat→Bool): ∀(l:List mD) (k:Nat) (s:St),(∀i,k≤i→i<k+l.length→sel i=a i)→aP sel l k s=aP a l k s
 |[],_,_,_=>rfl
 |c::l,k,s,h=>by
  unfold aP;rw[h k (iA _) (by simp)];exact iO sel a l (k+1) _ fun i d b=>h i (by omega) (by simp;omega)
theorem su (sel:Nat→Bool) (i:Nat): ∀(l:List mD) (k:Nat) (s:St) (c:mD),k≤i→l[i-k]? =some c→sel i=false→(l.map (·.d)).Nodup→
  Alike (c.app (aP sel l k s)) (aP (fun j=>if j=i then true else sel j) l k s)
 |[],k,s,c,g,a,_,_=>by simp at a
 |c'::l,k,s,c,g,a,f,b=>by
  simp only[yJ,UM] at b;by_cases e:i=k
  ·subst e
   simp only[Xt,BZ,aF] at a;subst a;unfold aP;rw[f,if_neg (by decide),if_pos rfl,if_pos rfl];refine(CY sel c' l (i+1) s fun x hx e=>b.1 (e▸acD hx)).trans ?_;rw[iO sel (fun j=>if j=i then true else sel j) l (i+1) _ fun j n _=>by
    have:j≠i:=by omega
    simp[this]]
   exact .refl _
  ·unfold aP
   have m: ¬k=i:=fun h=>e h.symm
   rw[if_neg m];refine su sel i l (k+1) _ c (by omega) ?_ f b.2;rw[show i-k=(i-(k+1))+1 by omega] at a;simpa using a
theorem CZ (sel:Nat→Bool): ∀(l:List mD) (k:Nat) (s:St),(aP sel l k s).fr.length=s.fr.length
 |[],_,_=>rfl
 |c::l,k,s=>by
  unfold aP;rw[CZ sel l (k+1)];split
  ·simp[mD.app]
  ·rfl
theorem xC {fr:af} {d t:Nat} {v:V} (h:t≠d):slot (fr.set d v) t=slot fr t:=by
 unfold slot;rw[sQ,sQ,List.getElem?_set_ne (fun e=>h e.symm)]
theorem Ht {fr:af} {d:Nat} {v:V} (h:d<fr.length):slot (fr.set d v) d=v:=by
 unfold slot;rw[sQ,Zv h];rfl
theorem gI (sel:Nat→Bool) (t:Nat): ∀(l:List mD) (k:Nat) (s:St),(∀c∈l,c.d≠t)→slot (aP sel l k s).fr t=slot s.fr t
 |[],_,_,_=>rfl
 |c::l,k,s,h=>by
  unfold aP;rw[gI sel t l (k+1) _ fun x hx=>h x (vg _ hx)];split
  ·exact xC fun e=>h c sS e.symm
  ·rfl
theorem jv (sel:Nat→Bool) (j:Nat): ∀(l:List mD) (k:Nat) (s:St) (c:mD),k≤j→l[j-k]? =some c→(l.map (·.d)).Nodup→c.d<s.fr.length→slot (aP sel l k s).fr c.d=if sel j=true then c.v else slot s.fr c.d
 |[],k,s,c,h,a,_,_=>by simp at a
 |c'::l,k,s,c,h,a,f,g=>by
  simp only[yJ,UM] at f;unfold aP;by_cases e:j=k
  ·subst e
   simp only[Xt,BZ,aF] at a;subst a;rw[gI sel c'.d l (j+1) _ fun x hx e=>f.1 (e▸acD hx)];split
   ·exact Ht g
   ·rfl
  ·rw[show j-k=(j-(k+1))+1 by omega] at a
   have b:l[j-(k+1)]? =some c:=by simpa using a
   rw[jv sel j l (k+1) _ c (by omega) b f.2 (by split<;>simpa[mD.app] using g)];split
   ·rfl
   ·split
    ·refine xC fun i=>f.1 ?_
     rw[←i];exact acD (Bz b)
    ·rfl
section
variable {E:Env} {B:Own} {G0:aI} {w0:World}
theorem Inv.alike {s s':St} {g:Gh} {a:Act} {w:World} (h:Inv E B G0 w0 s g a w) (k:Alike s s'):Inv E B G0 w0 s' g a w:=
 ⟨by rw[←k.fr];exact h.fr,h.df,h.gok,h.own,⟨fun j d c=>h.bxs.1 j d ((k.bx j).trans c),fun j l d i c f=>h.bxs.2 j l d i ((k.bx j).trans c) ((k.bx l).trans f)⟩,h.gN,h.hB,h.ext,h.glob,h.g1,fun j d L v e m b c=>h.zb j d L v e m b ((k.bx j).trans c)⟩
end
theorem M0 {P:Program} {r k:Operand→V} {bx:List (Nat×af)} {o:Oper} (h: ∀x∈o.op.operands.toList,r x=k x):ID P r bx o=ID P k bx o:=by
 have s: ∀l:List Operand,(∀x∈l,r x=k x)→l.map r=l.map k:=fun l hl=>R8 hl
 unfold ID;simp only
 cases a:o.op with
 |move x=>simp only;rw[h x (by simp[a,Op.operands])]
 |assign x=>simp only;rw[h x (by simp[a,Op.operands])]
 |pick c x y=>simp only;rw[h c (by simp[a,Op.operands]),h x (by simp[a,Op.operands]),h y (by simp[a,Op.operands])]
 |alloc t=>rfl
 |box t x=>simp only;rw[h x (by simp[a,Op.operands])]
 |build t e=>
  simp only;have:(e.toList.map fun(i,x)=>(i,r x))=e.toList.map fun(i,x)=>(i,k x):=by
   refine R8 fun p A=>?_
   obtain⟨i,x⟩:=p;simp only;rw[h x (by rw[a];simp only[Op.operands];simp;exact⟨i,by simpa using A⟩)]
  rw[this]
 |buildSlice t n e=>
  simp only;have:(e.toList.map fun(i,x)=>(i,r x))=e.toList.map fun(i,x)=>(i,k x):=by
   refine R8 fun p A=>?_
   obtain⟨i,x⟩:=p;simp only;rw[h x (by rw[a];simp only[Op.operands];simp;exact⟨i,by simpa using A⟩)]
  rw[this]
 |load t x=>simp only;rw[h x (by simp[a,Op.operands])]
 |store t x y=>simp only;rw[h x (by simp[a,Op.operands]),h y (by simp[a,Op.operands])]
 |nilCheck x=>simp only;rw[h x (by simp[a,Op.operands])]
 |binOp op t x y I=>simp only;rw[h x (by simp[a,Op.operands]),h y (by simp[a,Op.operands])]
 |makeInterface t x=>simp only;rw[h x (by simp[a,Op.operands])]
 |typeAssert x J t b=>
  cases b with
  |true=>simp only;rw[h x (by simp[a,Op.operands])]
  |false=>rfl
 |panic x=>simp only;rw[h x (by simp[a,Op.operands])]
 |unOp op t x=>simp only;rw[h x (by simp[a,Op.operands])]
 |convert H D x=>simp only;rw[h x (by simp[a,Op.operands])]
 |makeFunc fn first w=>
  cases fn with
  |func f=>
   simp only;rw[s w.toList fun x hx=>h x (by rw[a];simp only[Op.operands];simp;right;simpa using hx),s first.toList fun x hx=>h x (by rw[a];simp only[Op.operands];simp;left;simpa using hx)]
  |_=>rfl
 |makeSlice t l c=>simp only;rw[h l (by simp[a,Op.operands]),h c (by simp[a,Op.operands])]
 |slice t x C B G=>
  cases G with
  |some m=>rfl
  |none=>
   simp only;rw[h x (by simp[a,Op.operands])];have F:C.map r=C.map k:=by
    cases C with
    |none=>rfl
    |some y=>simp only[qJ];rw[h y (by simp[a,Op.operands])]
   have E:B.map r=B.map k:=by
    cases B with
    |none=>rfl
    |some y=>simp only[qJ];rw[h y (by simp[a,Op.operands])]
   rw[F,E]
 |fieldAddr t x f=>simp only;rw[h x (by simp[a,Op.operands])]
 |field t x f=>simp only;rw[h x (by simp[a,Op.operands])]
 |indexAddr t x i=>simp only;rw[h x (by simp[a,Op.operands]),h i (by simp[a,Op.operands])]
 |index t x i=>simp only;rw[h x (by simp[a,Op.operands]),h i (by simp[a,Op.operands])]
 |extract x i=>simp only;rw[h x (by simp[a,Op.operands])]
 |call c=>
  obtain⟨j,args,g⟩:=c;have d: ∀x∈args.toList,r x=k x:=fun x hx=>h x (by rw[a];cases j<;>simp only[Op.operands,Call.operands]<;>simp<;>(try right)<;>simpa using hx)
  cases j with
  |value f=>
   simp only;rw[h f (by rw[a];simp[Op.operands,Call.operands]),s args.toList d]
  |invoke q m=>rfl
  |builtin b=>
   simp only;have v: ∀(f:V→V→zo),(match args.toList with|[x,y]=>f (r x) (r y)|_=>none)=(match args.toList with|[x,y]=>f (k x) (k y)|_=>none):=by
    intro f
    cases hl:args.toList with
    |nil=>rfl
    |cons x l=>
     cases l with
     |nil=>rfl
     |cons y l=>
      cases l with
      |nil=>simp only;rw[d x (by rw[hl];simp),d y (by rw[hl];simp)]
      |cons z l=>rfl
   cases b<;>simp only
   ·
    cases hl:args.toList with
    |nil=>rfl
    |cons x l=>
     cases l with
     |nil=>rfl
     |cons y l=>
      cases l with
      |nil=>simp only;rw[d x (by rw[hl];simp),d y (by rw[hl];simp)]
      |cons z l=>rfl
   ·
    cases hl:args.toList with
    |nil=>cases g.toList with
     |nil=>rfl
     |cons t g=>cases g<;>rfl
    |cons x l=>
     cases l with
     |nil=>
      cases g.toList with
      |nil=>rfl
      |cons t g=>
       cases g with
       |nil=>simp only;rw[d x (by rw[hl];simp)]
       |cons u g=>rfl
     |cons y l=>cases g.toList with
      |nil=>rfl
      |cons t g=>cases g<;>rfl
   ·
    cases hl:args.toList with
    |nil=>cases g.toList with
     |nil=>rfl
     |cons t g=>cases g<;>rfl
    |cons x l=>
     cases l with
     |nil=>
      cases g.toList with
      |nil=>rfl
      |cons t g=>
       cases g with
       |nil=>simp only;rw[d x (by rw[hl];simp)]
       |cons u g=>rfl
     |cons y l=>cases g.toList with
      |nil=>rfl
      |cons t g=>cases g<;>rfl
   ·exact v (qg true)
   ·exact v (qg false)
 |_=>rfl
theorem wz {E:Env} {fr fr':af} {bx:List (Nat×af)} {o:Oper} (h: ∀x∈o.op.operands.toList,iD E fr x=iD E fr' x):yh E fr bx o=yh E fr' bx o:=by
 have g:wS E fr o=wS E fr' o:=by
  unfold wS
  cases d:o.op with
  |lookup t x i c=>
   rw[d] at h
   cases c with
   |false=>simp only[h x (by simp[Op.operands]),h i (by simp[Op.operands])]
   |true=>rfl
  |_=>rfl
 unfold yh;rw[g];simp only;have e: ∀f:V→V,∀bx:List (Nat×af),ID E.P (fun x=>f (iD E fr x)) bx o=ID E.P (fun x=>f (iD E fr' x)) bx o:=fun f bx=>M0 fun x hx=>by rw[h x hx]
 have a:(o.op.operands.toList.any fun x=>(iD E fr x).FC)=o.op.operands.toList.any fun x=>(iD E fr' x).FC:=by
  rw[Kc,BF,BF];constructor
  ·rintro⟨x,hx,b⟩;exact⟨x,hx,by rw[←h x hx];exact b⟩
  ·rintro⟨x,hx,b⟩;exact⟨x,hx,by rw[h x hx];exact b⟩
 rw[a,e V.VS [],e V.wP bx,e (fun x=>x) bx]
theorem sw {E:Env} {fr fr':af} {l:List Operand} (h: ∀t∈tmpsOf l,slot fr t=slot fr' t): ∀x∈l,iD E fr x=iD E fr' x:=by
 intro x hx
 cases x with
 |tmp t=>exact h t (by unfold tmpsOf;rw[List.mem_filterMap];exact⟨_,hx,rfl⟩)
 |_=>rfl
section
variable {E:Env} {B:Own} {G0:aI} {w0:World}
theorem Inv.drew {s:St} {g:Gh} {a:Act} {w:World} (h:Inv E B G0 w0 s g a w):Inv E B G0 w0 s g a {w with drawn:=w.drawn+1}:=
 ⟨h.fr,h.df,h.gok,h.own,h.bxs,⟨⟨h.gN.gN.os,h.gN.gN.tape,h.gN.gN.output,h.gN.gN.size,h.gN.gN.block⟩,h.gN.row,h.gN.map⟩,h.hB,h.ext,h.glob,h.g1,h.zb⟩
theorem Qo {ops:List Oper} {bx:List (Nat×af)} {s s':St} {o:Oper} {d:Nat} (z:o.dst=some d) (h:ql E ops (some bx) s o s'):
  ∃c:mD,c.d=d∧s'=c.app s∧ ∀S:St,ja ops S o=ja ops s o→yh E S.fr bx o=yh E s.fr bx o→S.aV d=true→S.iG d=true→ql E ops (some bx) S o (c.app S):=by
 rcases h with⟨w,eff,I,a,l⟩|⟨w,rfl⟩
 ·simp only[Option.isSome_some,On] at a
  have g: ∀c:mD,c.d=d→s'=c.app s→(∀S:St,S.aV d=true→S.iG d=true→zQ E true S o.dst eff (c.app S))→_:=fun c C t h3=>
   (⟨c,C,t,fun S p D hl u=> .inl ⟨p.trans w,eff,D.trans I,by simpa using a,h3 S hl u⟩⟩: ∃c:mD,c.d=d∧s'=c.app s∧ ∀S:St,ja ops S o=ja ops s o→yh E S.fr bx o=yh E s.fr bx o→S.aV d=true→S.iG d=true→ql E ops (some bx) S o (c.app S))
  rw[z] at l g
  cases eff with
  |val v=>exact g ⟨d,v,none⟩ rfl l fun S _ _=>rfl
  |newSl e sh xs=>exact g ⟨d,.sl e sh none xs,none⟩ rfl l fun S _ _=>rfl
  |own e sh xs=>
   obtain⟨k,n,_,m,rfl⟩:=l;simp only[aF] at n;subst n;exact g ⟨d,.sl e sh (some d) xs,none⟩ rfl rfl fun S hl _=>⟨d,rfl,Ho hl,m,rfl⟩
  |app L e sh xs=>cases a
  |kN e G=>
   obtain⟨k,n,_,F,m,rfl⟩:=l;simp only[aF] at n;subst n;exact g ⟨d,.box d 0,some G⟩ rfl rfl fun S _ u=>⟨d,rfl,u,F,m,rfl⟩
  |put k off G=>cases a
  |call f args mb ml=>
   rcases l with⟨B,l⟩|⟨A,_⟩|⟨A,_⟩
   ·rcases l with⟨k,r,n,_,m,J,rfl⟩|⟨r,n,_⟩
    ·simp only[aF] at n
     subst n;exact g ⟨d,r.FD d,none⟩ rfl rfl fun S hl _=> .inl ⟨B,.inl ⟨d,r,rfl,hl,m,J,rfl⟩⟩
    ·cases n
   ·cases A
   ·cases A
  |jN v=>exact l.elim
  |pick b x y=>
   cases b with
   |true=>exact g ⟨d,x,none⟩ rfl l fun S _ _=>rfl
   |false=>exact g ⟨d,y,none⟩ rfl l fun S _ _=>rfl
  |zu L e k ys=>cases a
  |ownz e sh xs c H q=>cases a
  |appz L e sh xs i c H q=>cases a
  |zw L e sh xs i c L3 H q ys=>cases a
  |alts i vs=>
   obtain⟨j,v,C,t,rfl⟩:=l;exact g ⟨d,v,none⟩ rfl rfl fun S _ _=>⟨j,v,C,t,rfl⟩
 ·rw[z]
  exact⟨⟨d,.tup [],none⟩,rfl,rfl,fun S p _ _ _=> .inr ⟨p.trans w,by rw[z];rfl⟩⟩
theorem sD {ops:List Oper} {bx:List (Nat×af)}: ∀(l:List Oper) (s s':St),(∀o∈l,∃d,o.dst=some d)→Trace E ops (some bx) l s s'→
  ∃a:List mD,a.length=l.length∧(∀(i:Nat) o c,l[i]? =some o→a[i]? =some c→o.dst=some c.d∧
   ∃n,Alike n (aP (fun j=>decide (j<i)) a 0 s)∧n=aP (fun j=>decide (j<i)) a 0 s∧ ∀S:St,ja ops S o=ja ops n o→yh E S.fr bx o=yh E n.fr bx o→S.aV c.d=true→S.iG c.d=true→ql E ops (some bx) S o (c.app S))∧
   s'=aP (fun _=>true) a 0 s
 |[],s,s',_,h=>by
  cases h;exact⟨[],rfl,fun i o c h=>by simp at h,rfl⟩
 |o::l,s,s',z,h=>by
  cases h with
  |cons G C=>
   rename_i H;obtain⟨d,v⟩:=z o sS;obtain⟨c,u,rfl,m⟩:=Qo v G;obtain⟨a,p,w,r⟩:=sD l _ s' (fun x hx=>z x (vg _ hx)) C;have e: ∀(sel:Nat→Bool) (b:Nat→Bool) (k:Nat),(∀j,sel (j+1)=b j)→ ∀(a:List mD) (k:Nat) (s:St),aP sel a (k+1) s=aP b a k s:=by
    intro sel b _ q a;induction a with
    |nil=>intro k s;rfl
    |cons c a y=>
     intro k s;unfold aP;rw[q k,y]
   refine⟨c::a,by simp[p],?_,?_⟩
   ·intro i o' B g f
    cases i with
    |zero=>
     simp only[BZ,aF] at g f;subst g;subst f;have t:aP (fun j=>decide (j<0)) (c::a) 0 s=s:=by
      have: ∀(a:List mD) (k:Nat) (s:St),aP (fun j=>decide (j<0)) a k s=s:=by
       intro a;induction a with
       |nil=>intro k s;rfl
       |cons c a y=>intro k s;unfold aP;rw[y];simp
      exact this _ _ _
     exact⟨by rw[v,u],s,by rw[t];exact .refl _,t.symm,by rw[u];exact m⟩
    |succ i=>
     simp only[XG] at g f;obtain⟨F,n,A,h3,D⟩:=w i o' B g f;have t:aP (fun j=>decide (j<i+1)) (c::a) 0 s=aP (fun j=>decide (j<i)) a 0 (c.app s):=by
      rw[aP];rw[if_pos (by simp)];exact e _ _ 0 (fun j=>by simp) a 0 _
     exact⟨F,n,by rw[t];exact A,by rw[t];exact h3,D⟩
   ·rw[r,aP,if_pos rfl]
    exact(e (fun _=>true) (fun _=>true) 0 (fun j=>rfl) a 0 _).symm
theorem C4 {l:List Nat} (h:l.Nodup) {i j:Nat} (d:i<l.length) (c:j<l.length) (e:l[i]=l[j]):i=j:=by
 have b:=List.pairwise_iff_getElem.1 h;rcases Nat.lt_trichotomy i j with a|a|a
 ·exact absurd e (b i j d c a)
 ·exact a
 ·exact absurd e.symm (b j i c d a)
theorem tN {α:Type} {l:List α} {p:α×Nat→Bool} (h:l.zipIdx.all p=true): ∀(i:Nat) (x:α),l[i]? =some x→p (x,i)=true:=by
 intro i x hx;rw[jJ] at h;exact h (x,i) (List.mem_zipIdx_iff_getElem?.2 hx)
def Closed (ops:List Oper) (sel:Nat→Bool):Prop:=∀(j:Nat) o,ops[j]? =some o→sel j=true→ ∀e∈o.after,Region.binds .any e=true→sel e.on=true
theorem iY {ops:List Oper} {sel:Nat→Bool} (c:Closed ops sel): ∀(n j i:Nat),waits ops n j i=true→sel j=true→sel i=true
 |0,_,_,h,_=>by cases h
 |n+1,j,i,h,g=>by
  unfold waits at h;split at h
  ·rename_i o d
   rw[BF] at h;obtain⟨e,f,h⟩:=h;rw[bB,yH,fT] at h;have b:=c j o d g e (by simpa using f) h.1;rcases h.2 with a|a
   ·rw[←a];exact b
   ·exact iY c n e.on i a b
  ·cases h
theorem uN (sel:Nat→Bool): ∀(l:List mD) (k:Nat) (s:St) (p:Nat×af),p∈(aP sel l k s).bx→p∈s.bx∨ ∃(j:Nat) (c:mD) (a:af),l[j]? =some c∧sel (k+j)=true∧c.bx=some a∧p=(c.d,a)
 |[],k,s,p,h=> .inl h
 |c::l,k,s,p,h=>by
  unfold aP at h;rcases uN sel l (k+1) _ p h with h|⟨j,f,a,m,e,h3,i⟩
  ·split at h
   ·rename_i g
    unfold mD.app at h
    cases b:c.bx with
    |none=>rw[b] at h;exact .inl h
    |some a=>
     rw[b] at h;simp only[Xr] at h;rcases h with rfl|h
     ·exact .inr ⟨0,c,a,rfl,by simpa using g,b,rfl⟩
     ·exact .inl h
   ·exact .inl h
  ·exact .inr ⟨j+1,f,a,by simpa using m,by rw[show k+(j+1)=k+1+j by omega];exact e,h3,i⟩
theorem EO (l:List mD): ∀(k:Nat) (s:St),(∀p∈s.bx,p∈(aP (fun _=>true) l k s).bx)∧ ∀(j:Nat) (c:mD) (a:af),l[j]? =some c→c.bx=some a→(c.d,a)∈(aP (fun _=>true) l k s).bx:=by
 induction l with
 |nil=>intro k s;exact⟨fun p h=>h,fun j c a h=>by simp at h⟩
 |cons c l m=>
  intro k s;unfold aP;rw[if_pos rfl];obtain⟨f,i⟩:=m (k+1) (c.app s);refine⟨fun p e=>f p ?_,fun j n a b g=>?_⟩
  ·unfold mD.app
   cases c.bx with
   |none=>exact e
   |some a=>exact vg _ e
  ·cases j with
   |zero=>
    simp only[BZ,aF] at b;subst b;refine f _ ?_;unfold mD.app;rw[g];exact sS
   |succ j=>exact i j n a (by simpa using b) g
theorem lZ {b:Bool} (h:b=false):aS b=true:=by subst h;rfl
theorem C5 {ops:List Oper} {f:St} {a:List mD} {sel:Nat→Bool} (B:a.length=ops.length) (H: ∀(i:Nat) o c,ops[i]? =some o→a[i]? =some c→o.dst=some c.d) (T:(a.map (·.d)).Nodup) (hfr: ∀c∈a,c.d<f.fr.length)
  (k:dh ops f=true) (n:iT ops (aP (fun _=>true) a 0 f)=true) (Q:Closed ops sel) {i:Nat} {c:mD} (S:a[i]? =some c) (m:sel i=false):
  (aP sel a 0 f).aV c.d=true∧(aP sel a 0 f).iG c.d=true:=by
 have L:i<ops.length:=by rw[←B];exact(List.getElem?_eq_some_iff.1 S).1
 have R:=gQ L;have O:=H i _ c R S;unfold dh at k;rw[jJ] at k;have k:=k _ (Fg L);rw[O] at k;simp only[bB] at k;obtain⟨v,w⟩:=k;unfold iT at n;simp only at n;have n:=tN n i _ R;simp only[O,bB] at n;obtain⟨J,D⟩:=n;have G: ∀t,t<f.fr.length→(slot (aP sel a 0 f).fr t).cr c.d=false∧(slot (aP sel a 0 f).fr t).fB c.d=false:=by
  intro t A;have h0:(slot f.fr t).cr c.d=false∧(slot f.fr t).fB c.d=false:=by
   have C:slot f.fr t∈f.fr:=by
    unfold slot;rw[sQ,gQ A];exact Fg A
   exact⟨oH v _ C,ug w _ C⟩
  by_cases N: ∃s∈a,s.d=t
  ·obtain⟨s,C,rfl⟩:=N
   obtain⟨j,u⟩:=BD C;have X:j<ops.length:=by rw[←B];exact(List.getElem?_eq_some_iff.1 u).1
   have K:=gQ X;rw[jv sel j a 0 f s (Ca _) (by simpa using u) T A];split
   ·rename_i g
    have b:=tN J j _ K;simp only[H j _ s K u] at b;rw[jv (fun _=>true) j a 0 f s (Ca _) (by simpa using u) T A,if_pos rfl] at b;simp only[yH,bB,fT] at b;rcases b with(b|b)|b
    ·subst b;rw[m] at g;cases g
    ·exact⟨dX b.1,dX b.2⟩
    ·have:=iY Q _ _ _ b g
     rw[m] at this;cases this
   ·exact h0
  ·rw[gI sel t a 0 f fun s C e=>N ⟨s,C,e⟩]
   exact h0
 have l: ∀x∈(aP sel a 0 f).fr,x.cr c.d=false∧x.fB c.d=false:=by
  intro x hx;obtain⟨t,A,rfl⟩:=acB hx;have h:=G t (by rw[CZ] at A;exact A);unfold slot at h;rw[sQ,gQ A] at h;exact h
 have E: ∀p∈(aP sel a 0 f).bx,p.1≠c.d∧ ∀x∈p.2,x.cr c.d=false∧x.fB c.d=false:=by
  intro p y;rcases uN sel a 0 f p y with y|⟨j,s,ds,u,g,W,rfl⟩
  ·unfold St.aV at v
   unfold St.iG at w;simp only[bB,jJ] at v w;have h1:=v.2 p y;have b:=w.2 p y;refine⟨fun e=>?_,fun x hx=>⟨dX (h1 x hx),dX (b.2 x hx)⟩⟩;have:=dX b.1;rw[oZ] at this;exact this e
  ·rw[Fh] at g
   have V:s.d≠c.d:=by
    intro e;have:i=j:=by
     have Z:i<(a.map (·.d)).length:=by rw[vk];exact(List.getElem?_eq_some_iff.1 S).1
     have F:j<(a.map (·.d)).length:=by rw[vk];exact(List.getElem?_eq_some_iff.1 u).1
     refine C4 T Z F ?_;simp only[ZF];rw[(List.getElem?_eq_some_iff.1 S).2,(List.getElem?_eq_some_iff.1 u).2,e]
    subst this;rw[m] at g;cases g
   refine⟨V,?_⟩;have C:=(EO a 0 f).2 j s ds u W;rw[jJ] at D;have b:=D _ C;simp only[yH,jJ,BF,bB,fT] at b;rcases b with b|⟨⟨Y,I⟩,U,P,hw⟩
   ·exact fun x hx=>⟨dX (b x hx).1,dX (b x hx).2⟩
   ·exfalso
    have r:=List.mem_zipIdx_iff_getElem?.1 U;simp only at r P hw;have hj'L:I<ops.length:=(List.getElem?_eq_some_iff.1 r).1;have z:I<a.length:=by omega
    have q:=H I Y _ r (gQ z);rw[P] at q;simp only[aF] at q;have:j=I:=by
     have F:j<(a.map (·.d)).length:=by rw[vk];exact(List.getElem?_eq_some_iff.1 u).1
     have M:I<(a.map (·.d)).length:=by rw[vk];exact z
     refine C4 T F M ?_;simp only[ZF];rw[(List.getElem?_eq_some_iff.1 u).2,q]
    subst this;have:=iY Q _ _ _ hw g;rw[m] at this;cases this
 unfold St.aV St.iG;simp only[bB,jJ];exact⟨⟨fun x hx=>lZ (l x hx).1,fun p y x hx=>lZ ((E p y).2 x hx).1⟩,⟨fun x hx=>lZ (l x hx).2,fun p y=>⟨lZ (by rw[oZ];exact(E p y).1),fun x hx=>lZ ((E p y).2 x hx).2⟩⟩⟩
end
end Nt.Ev
