/-
  From operations to states: what an operation's effect leaves true.
-/
import Derived.Test.YtcmockbdkppglaaGreatDoorMAA
set_option linter.all false
namespace Nt.Ev
open Go Go.RowKit
def mD:V→Bool
 | .sl _ _ (some _) _=>true
 |_=>false
def kz (G:aJ) (w:World) (B:Nat→Prop):V→Value→Prop
 | .sl e sh (some _) xs,v=>gJ G w B e sh xs v
 |x,v=>aK G x v
def fo (G:aJ) (w:World) (B:Nat→Prop):V→Value→Prop
 | .tup vs,v=>∃a:List Value,v=.tuple a.toArray∧PW (kz G w B) vs a∧vs.countP mD≤1
 |x,v=>kz G w B x v
def aj (E:Env) (f:Nat) (args:af) (r:V):Prop:=
 ∀(G:aJ) (w:World) (vs:List Value),vk G w→kC E G w→PW (aK G) args vs→
  Calls E.P f vs.toArray w fun e w'=>∃v G',e=.returned v∧New w w' G G'∧fo G' w' (w.heap.size≤ ·) r v
def XC (E:Env) (f:Nat) (args:af) (p:Bool) (x:V) (bs:List (af)):Prop:=
 ∀(B:Own) (g:Gh) (w:World) (vs:List Value),B.df=[]→Inv E B g.G w ⟨bF 0 args,dF 0 args⟩ g ⟨vs.toArray,[]⟩ w→
  Calls E.P f vs.toArray w fun e w'=>∃g' v,e=(match p with|false=> .returned v|true=> .panicked [{v:=v,recovered:=false}])∧Inv E B g.G w ⟨[x],eY 0 args bs⟩ g' ⟨#[v],[]⟩ w'
def keepR (p:Bool) (x:V) (v:Value):Prop:=
 match p with
 |true=>bQ x=some v
 |false=>Rf x=true∧(match x with| .tup []=>v=.tuple #[]|x=>aK (fun _=>none) x v)
def KC (E:Env) (f:Nat) (args:af) (p:Bool) (x:V):Prop:=
 ∀(B:Own) (g:Gh) (w:World) (vs:List Value),B.df=[]→Inv E B g.G w ⟨bF 0 args,dF 0 args⟩ g ⟨vs.toArray,[]⟩ w→
  Calls E.P f vs.toArray w fun e w'=>∃v,e=(match p with|false=> .returned v|true=> .panicked [{v:=v,recovered:=false}])∧keepR p x v∧Below w.heap.size w w'
def BH (E:Env) (dr:Bool) (s:St) (d:Option Nat) (eff:Eff) (s':St):Prop:=
 match eff with
 | .val v=>s'=s.put d v
 | .newSl e sh xs=>s'=s.put d (.sl e sh none xs)
 | .own e sh xs=>∃k,d=some k∧(s.put (some k) .any).bn k=true∧k<HL∧s'=s.put (some k) (.sl e sh (some k) xs)
 | .app L e sh xs=>∃k,d=some k∧(s.kill L).bn (fe true L k)=true∧k<HL∧s'=(s.kill L).put (some k) (.sl e sh (some (fe true L k)) xs)
 | .lD _ g=>∃k,d=some k∧s.iR k=true∧g.all (fun v=>aT (v.fO k))=true∧k<HL∧s'=⟨s.fr.set k (.box k 0),(k,g)::s.bx⟩
 | .put k off g=>∃old,aA s.bx k=some old∧(iQ (over old off g)=true→iQ old=true)∧s'=St.put ⟨s.fr,gm s.bx k (over old off g)⟩ d (.tup [])
 | .call f args mb ml=>(gG args=false∧((∃k r,d=some k∧s.bn k=true∧k<HL∧aj E f (args.map V.sZ) r∧s'=s.put (some k) (r.Ic k))∨(∃r,d=none∧aj E f (args.map V.sZ) r∧s'=s)))∨
  (dr=false∧ ∃x bs,XC E f args false x bs∧mO s d mb ml x bs=some s')∨(dr=false∧ ∃x,KC E f args false x∧s'=s.put d x)
 | .ku _=>False
 | .pick b x y=>s'=s.put d (match b with|true=>x|false=>y)
 | .Bd L e k ys=>L<HL∧s'=St.put (s.forget.upd L e k ys) d (.tup [])
 | .alts i vs=>∃(j:Nat) (v:V),i=(j:Int)∧vs[j]? =some v∧s'=s.put d v
 | .ownz e sh xs c h a=>∃k,d=some k∧(s.put (some k) .any).bn k=true∧(s.put (some k) .any).bn (dz k)=true∧dz k<HL∧s'=s.put (some k) (.slz k e sh xs (some (dz k)) 0 c h a [])
 | .appz L e sh xs i c h a=>∃k,d=some k∧(s.kill L).bn (fe true L k)=true∧(s.kill L).bn (dz k)=true∧dz k<HL∧s'=(s.kill L).put (some k) (.slz (fe true L k) e sh xs (some (dz k)) i c h a [])
 | .Be L e sh xs i c L3 h a ys=>s'=(s.xK L e sh xs i c L3 h a ys).put d (.tup [])
def FW (E:Env) (s:St) (eff:Eff) (v:V) (s':St):Prop:=
 (∃u,bQ v=some u)∧match eff with
 | .call f args mb ml=>(∃bs,XC E f args true v bs∧mO s none mb ml v bs=some s')∨(KC E f args true v∧s'=s)
 | .ku a=>a=v∧s'=s
 |_=>False
def o5:V→Bool
 | .out _ _ _=>true
 | .keep _ _=>true
 |_=>false
def gz (E:Env) {α:Type} (call:Caller α):Prop:=∀f args (K:V→Option α) r,call f args K=some r→ ∃v,K v=some r∧((o5 v=false∧aj E f (args.map V.sZ) v)∨(∃p x bs,v=.out p x bs∧XC E f args p x bs)∨ ∃p x,v=.keep p x∧KC E f args p x)
theorem EA {α:Type} {i:Int} {K:V→Option α} {r:α}: ∀(vs:af) (a:Nat),Vm i K a vs=some r→ ∃(j:Nat) (v:V),i=((a+j:Nat):Int)∧vs[j]? =some v∧K v=some r
 |[],a,h=>by cases h
 |v::l,a,h=>by
  unfold Vm at h
  cases b:ieq i (a:Int) with
  |true=>
   rw[b] at h;have e:i=(a:Int):=by unfold ieq at b;simpa using b
   exact⟨0,v,by simpa using e,rfl,h⟩
  |false=>
   rw[b] at h;obtain⟨j,c,f,d,h3⟩:=EA l (a+1) h;exact⟨j+1,c,by rw[f];congr 1;omega,by simpa using d,h3⟩
theorem iJ {d n:Nat} (h:Nat.blt d n=true):d<n:=by rwa [A9] at h
theorem SG {E:Env} {α:Type} {call:Caller α} (C:gz E call) {dr:Bool} {s:St} {d:Option Nat} {eff:Eff} {K:St→Option α} {KP:V→St→Option α} {r:α} (h:YD dr call s d eff K KP=some r):
  (∃s',BH E dr s d eff s'∧K s'=some r)∨(dr=false∧ ∃v s',FW E s eff v s'∧KP v s'=some r):=by
 cases eff with
 |val v=>exact .inl ⟨_,rfl,h⟩
 |newSl e sh xs=>exact .inl ⟨_,rfl,h⟩
 |own e sh xs=>
  cases d with
  |none=>cases h
  |some k=>obtain⟨a,g⟩:=aC h;rw[bL] at a;exact .inl ⟨_,⟨k,rfl,a.1,iJ a.2,rfl⟩,g⟩
 |app L e sh xs=>
  cases d with
  |none=>cases h
  |some k=>obtain⟨a,g⟩:=aC h;rw[bL] at a;exact .inl ⟨_,⟨k,rfl,a.1,iJ a.2,rfl⟩,g⟩
 |lD e A=>
  cases d with
  |none=>cases h
  |some k=>obtain⟨a,g⟩:=aC h;rw[bL,bL] at a;exact .inl ⟨_,⟨k,rfl,a.1.1,a.1.2,iJ a.2,rfl⟩,g⟩
 |put k off A=>
  unfold YD at h;simp only at h;split at h
  ·rename_i old q;obtain⟨h,z⟩:=KM h;exact .inl ⟨_,⟨old,q,z,rfl⟩,h⟩
  ·cases h
 |call f args mb ml=>
  obtain⟨v,a,g⟩:=C f args _ r h;rcases g with⟨q,g⟩|⟨p,x,bs,rfl,g⟩|⟨p,x,rfl,g⟩
  ·have h3:(bif gG args then none else(match d with
    |some d=>bif s.bn d&&Nat.blt d HL then K (s.put (some d) (v.Ic d)) else none
    |none=>K s))=some r:=by
    cases v<;>first|exact a|cases q
   cases o:gG args with
   |true=>rw[o] at h3;cases h3
   |false=>
    rw[o,gF] at h3
    cases d with
    |none=>exact .inl ⟨s,.inl ⟨o,.inr ⟨v,rfl,g,rfl⟩⟩,h3⟩
    |some k=>
     obtain⟨l,B⟩:=aC h3;rw[bL] at l;exact .inl ⟨_,.inl ⟨o,.inl ⟨k,v,rfl,l.1,iJ l.2,g,rfl⟩⟩,B⟩
  ·cases dr with
   |true=>cases a
   |false=>
    cases p with
    |true=>
     have a:(match mO s none mb ml x bs with
      |some s'=>(match bQ x with|some _=>KP x s'|none=>none)
      |none=>none)=some r:=a
     split at a
     ·rename_i s' t
      split at a
      ·rename_i u n
       exact .inr ⟨rfl,x,s',⟨⟨u,n⟩,.inl ⟨bs,g,t⟩⟩,a⟩
      ·cases a
     ·cases a
    |false=>
     have a:(match mO s d mb ml x bs with
      |some s'=>K s'
      |none=>none)=some r:=a
     split at a
     ·rename_i s' t
      exact .inl ⟨s',.inr (.inl ⟨rfl,x,bs,g,t⟩),a⟩
     ·cases a
  ·cases dr with
   |true=>cases a
   |false=>
    cases p with
    |true=>
     have a:(match bQ x with|some _=>KP x s|none=>none)=some r:=a;split at a
     ·rename_i u n
      exact .inr ⟨rfl,x,s,⟨⟨u,n⟩,.inr ⟨g,rfl⟩⟩,a⟩
     ·cases a
    |false=>
     have a:(bif Rf x then K (s.put d x) else none)=some r:=a;obtain⟨h3,l⟩:=aC a;exact .inl ⟨_,.inr (.inr ⟨rfl,x,g,rfl⟩),l⟩
 |ku v=>
  cases dr with
  |true=>cases h
  |false=>
   have h:(match bQ v with|some _=>KP v s|none=>none)=some r:=h;split at h
   ·rename_i u n
    exact .inr ⟨rfl,v,s,⟨⟨u,n⟩,rfl,rfl⟩,h⟩
   ·cases h
 |pick b x y=>cases b<;>exact .inl ⟨_,rfl,h⟩
 |Bd L e k ys=>obtain⟨a,g⟩:=aC h;exact .inl ⟨_,⟨iJ a,rfl⟩,g⟩
 |alts i vs=>
  obtain⟨j,v,a,g,h3⟩:=EA vs 0 h;exact .inl ⟨_,⟨j,v,by simpa using a,g,rfl⟩,h3⟩
 |ownz e sh xs c w m=>
  cases d with
  |none=>cases h
  |some k=>obtain⟨a,g⟩:=aC h;rw[bL,bL] at a;exact .inl ⟨_,⟨k,rfl,a.1,a.2.1,iJ a.2.2,rfl⟩,g⟩
 |appz L e sh xs i c w m=>
  cases d with
  |none=>cases h
  |some k=>obtain⟨a,g⟩:=aC h;rw[bL,bL] at a;exact .inl ⟨_,⟨k,rfl,a.1,a.2.1,iJ a.2.2,rfl⟩,g⟩
 |Be L e sh xs i c L3 w m ys=>exact .inl ⟨_,rfl,h⟩
section
variable {E:Env} {B:Own} {G0:aJ} {w0:World} {s:St} {g:Gh} {a:Act} {w:World}
theorem wO (a:Act) (d:Nat) (u:Value):(a.put (some d) u).tmps.toList=a.tmps.toList.set d u:=by
 simp[Act.put]
theorem Inv.put (h:Inv E B G0 w0 s g a w) (d:Option Nat) {v:V} {u:Value} (b:aG g v u):Inv E B G0 w0 (s.put d v) g (a.put d u) w:=by
 cases d with
 |none=>exact⟨h.fr,h.df,h.gok,h.own,h.bxs,h.iq,h.hB,h.ext,h.glob,h.g1,h.zb⟩
 |some d=>exact⟨by rw[wO];exact h.fr.set d b,h.df,h.gok,h.own,h.bxs,h.iq,h.hB,h.ext,h.glob,h.g1,h.zb⟩
theorem SH {w':World} {G G':aJ} (c:vk G w) (h:New w w' G G'):jP G G':=fun b l a=>⟨l,by rw[h.2.1 b (eU c a)];exact a,Kn _⟩
theorem uz (m:vk g.G w) (j:Ho B g w) {L:Nat} {v:Value} {e d b:Nat} (h:g.O L=some (v,e,d)) (a:v.ownBlock=some b):b<w.heap.size:=by
 rcases(j.1 L v e d h).2 with c|⟨k,n,cap,f,l,c,_,i,_⟩
 ·rw[c] at a;cases a
 ·rw[c] at a
  simp[Value.ownBlock] at a;subst a;exact(Array.getElem?_eq_some_iff.1 i).1
theorem EB (k:Ho B g w) {L:Nat} {v:Value} {e f b:Nat} (h:g.O L=some (v,e,f)) (a:v.ownBlock=some b): ∃c e fr,w.heap[b]? =some (.cells c e fr):=by
 rcases(k.1 L v e f h).2 with d|⟨m,n,cap,i,l,d,_,j,_⟩
 ·rw[d] at a;cases a
 ·rw[d] at a
  simp[Value.ownBlock] at a;subst a;exact⟨_,_,_,j⟩
theorem Inv.new {w':World} {G':aJ} (h:Inv E B G0 w0 s g a w) (f:New w w' g.G G'):Inv E B G0 w0 s {g with G:=G'} a w'∧Ext g {g with G:=G'}:=by
 have z:=SH h.gok f;have u:Ext g {g with G:=G'}:=⟨z,fun _ _ h=>h,fun L v e y b hL i=>f.2.1 b (uz h.gok h.own hL i),fun _ _ h=>h,rfl,fun _ _ _=>rfl⟩
 refine⟨⟨h.fr.mono fun x _ v=>o7 u,h.df,f.2.2,⟨fun L v e y hL=>?_,h.own.2⟩,⟨fun k F C=>?_,h.bxs.2⟩,h.iq.trans (jH.of_below f.1 h.hB.2),Am h.hB f.1.size,⟨fun b i=>(f.2.1 b (Qy fun e=>i (h.hB.2 b e))).trans (h.ext.1 b i),h.ext.2.1.trans z,h.ext.2.2⟩,h.glob,h.g1,h.zb⟩,u⟩
 ·obtain⟨H,A⟩:=h.own.1 L v e y hL
  refine⟨H,A.imp id ?_⟩;rintro⟨b,n,cap,q,l,K,i,m,r,o,t,j,hl⟩;have d:=(Array.getElem?_eq_some_iff.1 m).1;exact⟨b,n,cap,q,l,K,i,by rw[f.1.block b d];exact m,r,o,t,j.keep rfl (f.2.1 b d),hl⟩
 ·obtain⟨b,c,e,i,p,m,I,J,j,D⟩:=h.bxs.1 k F C
  have d:=(Array.getElem?_eq_some_iff.1 m).1;exact⟨b,c,e,i,p,by rw[f.1.block b d];exact m,I.mono fun x _ v=>o7 u,J,by show G' b=_;rw[f.2.1 b d];exact j,D⟩
theorem VE {g:Gh} {O':Nat→Option (Value×Nat×Nat)} {C':Nat→Option (List Value)} {d:Nat} (m: ∀L,L≠d→O' L=g.O L) {l:List Value} {f:Nat} {o2:Option Nat} {i:Int} {c j:Nat} {a:List Kd} {ys:af} (hx:lkO d o2=false) (h:oZ g l f o2 i c j a ys):oZ {g with O:=O',C:=C'} l f o2 i c j a ys:=by
 cases o2 with
 |none=>trivial
 |some L2=>
  have b:L2≠d:=fun e=>by subst e;simp[lkO] at hx
  obtain⟨n,o,k⟩:=h;exact⟨n,(m L2 b).trans o,k⟩
theorem KO {g:Gh} {O':Nat→Option (Value×Nat×Nat)} {C':Nat→Option (List Value)} {d:Nat} (k: ∀L,L≠d→O' L=g.O L) (n: ∀L,L≠d→C' L=g.C L) {x:V} {v:Value} (hx:iA d x=false) (h:bA g x v):bA {g with O:=O',C:=C'} x v:=by
 cases x with
 |sl e sh q xs=>
  cases q with
  |none=>exact h
  |some L=>
   have a:L≠d:=fun e=>by subst e;simp[iA] at hx
   exact⟨(k L a).trans h.1,h.2⟩
 |eptr L e sh xs i off=>
  have a:L≠d:=fun e=>by subst e;simp[iA] at hx
  obtain⟨m,b,j,f⟩:=h;exact⟨m,b,(k L a).trans j,f⟩
 |slz L e sh xs o2 i c r p ys=>
  have hx:(d==L||lkO d o2)=false:=hx;rw[Fv] at hx;have a:L≠d:=fun e=>by subst e;simp at hx
  obtain⟨l,j,f,h3,o⟩:=h;exact⟨l,(k L a).trans j,(n L a).trans f,h3,VE k hx.2 o⟩
 |epz L e s i off=>
  have a:L≠d:=fun e=>by subst e;simp[iA] at hx
  obtain⟨m,b,l,j,f,h3⟩:=h;exact⟨m,b,l,(k L a).trans j,(n L a).trans f,h3⟩
 |_=>exact h
theorem FX {g:Gh} {O':Nat→Option (Value×Nat×Nat)} {C':Nat→Option (List Value)} {d:Nat} (j: ∀L,L≠d→O' L=g.O L) (b: ∀L,L≠d→C' L=g.C L) {x:V} {v:Value} (hx:x.dG d=false) (h:aG g x v):aG {g with O:=O',C:=C'} x v:=by
 cases x with
 |tup vs=>
  obtain⟨a,rfl,h⟩:=h;simp only[V.dG,U1] at hx;exact⟨a,rfl,h.mono fun y e v i=>KO j b (by have:=hx y e;simpa using this) i⟩
 |fn f c=>
  obtain⟨a,rfl,h⟩:=h;simp only[V.dG,U1] at hx;exact⟨a,rfl,h.mono fun y e v i=>KO j b (by have:=hx y e;simpa using this) i⟩
 |_=>simp only[aG] at h⊢;exact KO j b hx h
theorem eZ {b:Bool} (h:aT b=true):b=false:=by cases b;rfl;cases h
theorem qf {d:Nat} (h:s.bn d=true): ∀x∈s.fr,x.dG d=false:=by
 unfold St.bn at h;rw[bL,ko] at h;exact fun x hx=>eZ (h.1 x hx)
theorem iX: ∀(l:List (Nat×af)) (k:Nat) (a:af),aA l k=some a→(k,a)∈l
 |[],k,a,h=>by cases h
 |(j,c)::l,k,a,h=>by
  unfold aA at h
  cases b:j==k with
  |true=>
   rw[b] at h;simp only[iy,aI] at h;rw[ig] at b;subst b;subst h;exact vg
  |false=>
   rw[b] at h;simp only[gF] at h;exact xE _ (iX l k a h)
theorem uP {d:Nat} (h:s.bn d=true): ∀k a,aA s.bx k=some a→ ∀x∈a,x.dG d=false:=by
 intro k a c x hx;unfold St.bn at h;rw[bL,ko,ko] at h;have b:=h.2 _ (iX _ _ _ c);simp only[ko] at b;exact eZ (b x hx)
theorem JA {d:Nat} (h:s.bn d=true):(s.put (some d) .any).bn d=true:=by
 unfold St.bn at h⊢;rw[bL,ko] at h⊢;refine⟨fun x hx=>?_,h.2⟩;rcases List.mem_or_eq_of_mem_set hx with a|rfl
 ·exact h.1 x a
 ·rfl
theorem Inv.KQ (h:Inv E B G0 w0 s g a w) {d e:Nat} {sh:List Kd} {xs:af} {u:Value} (hd:s.bn d=true) (q:gJ g.G w (B.ok d) e sh xs u)
  (R: ∀L v e j b,g.O L=some (v,e,j)→L≠d→v.ownBlock=some b→u.ownBlock≠some b):
  ∃g',g'.G=g.G∧Inv E B G0 w0 s g' a w∧bA g' (.sl e sh (some d) xs) u∧ ∀L,L≠d→g'.O L=g.O L∧g'.C L=g.C L:=by
 let O':Nat→Option (Value×Nat×Nat):=fun L=>if L=d then some (u,e,sh.length) else g.O L
 let C':Nat→Option (List Value):=fun L=>if L=d then none else g.C L
 have i: ∀L,L≠d→O' L=g.O L:=fun L hL=>if_neg hL
 have z: ∀L,L≠d→C' L=g.C L:=fun L hL=>if_neg hL
 have hbG: ∀k t b,aA s.bx k=some t→g.β k=some b→g.G b=none:=fun k t b K f=>by
  obtain⟨b',_,_,T,_,_,_,_,q6,_⟩:=h.bxs.1 k t K;rw[f] at T;simp only[aI] at T;rw[T];exact q6
 refine⟨{g with O:=O',C:=C'},rfl,⟨h.fr.mono fun x hx v=>FX i z (qf hd x hx),h.df,h.gok,⟨?_,?_⟩,⟨fun k t K=>?_,h.bxs.2⟩,h.iq,h.hB,h.ext,h.glob,h.g1,?_⟩,⟨if_pos rfl,?_⟩,fun L hL=>⟨i L hL,z L hL⟩⟩
 ·intro L v A j hL
  by_cases Kr:L=d
  ·subst Kr
   have hL:(if L=L then some (u,e,sh.length) else g.O L)=some (v,A,j):=hL;rw[if_pos rfl] at hL;simp only[aI,bU] at hL;obtain⟨rfl,rfl,rfl⟩:=hL;refine⟨q.1,?_⟩;rcases q.2 with⟨q,_⟩|⟨b,cap,o,l,J,f,Q,m,r,D,F,hl,hE⟩
   ·exact .inl q
   ·exact .inr ⟨b,_,cap,o,l,J,f,Q,m,r,D,kX.mk0 (if_pos rfl) F,hl⟩
  ·have hL:O' L=some (v,A,j):=hL
   rw[i L Kr] at hL;obtain⟨T,q2⟩:=h.own.1 L v A j hL;refine⟨T,q2.imp id ?_⟩;rintro⟨b,n,cap,o,l,J,f,Q,Y,r,D,S,hl⟩;exact⟨b,n,cap,o,l,J,f,Q,Y,r,D,S.keep (z L Kr) rfl,hl⟩
 ·intro L L' v X W U j y b M H f P
  have M:O' L=some (v,W,j):=M;have H:O' L'=some (X,U,y):=H;by_cases hL:L=d<;>by_cases p:L'=d
  ·rw[hL,p]
  ·subst hL
   have N:(if L=L then some (u,e,sh.length) else g.O L)=some (v,W,j):=M;rw[if_pos rfl] at N;simp only[aI,bU] at N;rw[i L' p] at H;exact absurd (by rw[N.1];exact f) (R L' X U y b H p P)
  ·subst p
   have I:(if L'=L' then some (u,e,sh.length) else g.O L')=some (X,U,y):=H;rw[if_pos rfl] at I;simp only[aI,bU] at I;rw[i L hL] at M;exact absurd (by rw[I.1];exact P) (R L v W j b M hL f)
  ·rw[i L hL] at M
   rw[i L' p] at H;exact h.own.2 L L' v X W U j y b M H f P
 ·obtain⟨b,c,A,f,Z,Q,hp,ho,F,hq⟩:=h.bxs.1 k t K
  exact⟨b,c,A,f,Z,Q,hp.mono fun x hx v=>FX i z (uP hd k t K x hx),ho,F,hq⟩
 ·intro k t L v A j b K hL f hβ
  have hL:O' L=some (v,A,j):=hL;by_cases Kr:L=d
  ·subst Kr
   have hL:(if L=L then some (u,e,sh.length) else g.O L)=some (v,A,j):=hL;rw[if_pos rfl] at hL;simp only[aI,bU] at hL;obtain⟨rfl,rfl,rfl⟩:=hL;have hn:=hbG k t b K hβ;rcases q.2 with⟨q,_⟩|⟨b',cap,o,l,J,_,_,_,_,_,F,_⟩
   ·rw[q] at f;cases f
   ·rw[J] at f
    simp only[Value.ownBlock,aI] at f;subst f;rw[hn] at F;cases F
  ·rw[i L Kr] at hL
   exact h.zb k t L v A j b K hL f hβ
 ·rcases q.2 with⟨q,hx⟩|⟨b,cap,o,l,J,f,Q,m,r,D,F,hl,hE⟩
  ·exact .inl ⟨q,hx⟩
  ·exact .inr ⟨b,cap,l,J,m,F,hl,hE⟩
theorem Inv.label (h:Inv E B G0 w0 s g a w) {d e:Nat} {sh:List Kd} {xs:af} {u:Value} (f:s.bn d=true) (k:gJ g.G w (B.ok d) e sh xs u)
  (c: ∀L v e i b,g.O L=some (v,e,i)→L≠d→v.ownBlock=some b→u.ownBlock≠some b):
  ∃g',g'.G=g.G∧Inv E B G0 w0 s g' a w∧bA g' (.sl e sh (some d) xs) u:=by
 obtain⟨g',l,j,h3,_⟩:=h.KQ f k c;exact⟨g',l,j,h3⟩
theorem Iz (L e:Nat) (sh:List Kd) (k:Nat) (xs:af):tF L (.sl e sh (some k) xs)=bif L==k then .sl e sh none xs else .sl e sh (some k) xs:=rfl
theorem CK (L k e:Nat) (sh:List Kd) (xs:af) (i:Int) (off:Nat):tF L (.eptr k e sh xs i off)=bif L==k then .any else .eptr k e sh xs i off:=rfl
theorem EC (L k e:Nat) (sh:List Kd) (xs:af) (o2:Option Nat) (i:Int) (c b:Nat) (a:List Kd) (ys:af):tF L (.slz k e sh xs o2 i c b a ys)=bif L==k then .any else .slz k e sh xs (MR L o2) i c b a ys:=rfl
theorem ED (L k e a:Nat) (i:Int) (off:Nat):tF L (.epz k e a i off)=bif L==k then .any else .epz k e a i off:=rfl
theorem kN {g:Gh} {O':Nat→Option (Value×Nat×Nat)} {L:Nat} (m: ∀k,k≠L→O' k=g.O k) {x:V} {v:Value} (h:bA g x v):bA {g with O:=O'} (tF L x) v:=by
 cases x with
 |sl e sh u xs=>
  cases u with
  |none=>exact h
  |some k=>
   rw[Iz];by_cases a:L=k
   ·have:(L==k)=true:=by simpa using a
    rw[this];show aK g.G (V.sl e sh none xs) v;exact jZ h.2
   ·have:(L==k)=false:=by simpa using a
    rw[this];exact⟨(m k (fun e=>a e.symm)).trans h.1,h.2⟩
 |eptr k e sh xs i off=>
  rw[CK];by_cases a:L=k
  ·have:(L==k)=true:=by simpa using a
   rw[this];show aK g.G V.any v;unfold aK;trivial
  ·have:(L==k)=false:=by simpa using a
   rw[this];obtain⟨o,b,j,f⟩:=h;exact⟨o,b,(m k (fun e=>a e.symm)).trans j,f⟩
 |slz k e sh xs o2 i c s n ys=>
  rw[EC];by_cases a:L=k
  ·have:(L==k)=true:=by simpa using a
   rw[this];show aK g.G V.any v;unfold aK;trivial
  ·have:(L==k)=false:=by simpa using a
   rw[this];obtain⟨l,j,f,h3,p⟩:=h;refine⟨l,(m k (fun e=>a e.symm)).trans j,f,h3,?_⟩
   cases o2 with
   |none=>trivial
   |some L2=>
    by_cases d:L=L2
    ·subst d
     show oZ _ l sh.length (bif L==L then none else some L) i c s n ys;rw[Hl];trivial
    ·have r:MR L (some L2)=some L2:=by
      show(bif L==L2 then none else some L2)=some L2;rw[beq_eq_false_iff_ne.2 d];rfl
     rw[r];obtain⟨t,q,w⟩:=p;exact⟨t,(m L2 (fun e=>d e.symm)).trans q,w⟩
 |epz k e y i off=>
  rw[ED];by_cases a:L=k
  ·have:(L==k)=true:=by simpa using a
   rw[this];show aK g.G V.any v;unfold aK;trivial
  ·have:(L==k)=false:=by simpa using a
   rw[this];obtain⟨o,b,l,j,f⟩:=h;exact⟨o,b,l,(m k (fun e=>a e.symm)).trans j,f⟩
 |_=>exact h
theorem IA {g:Gh} {O':Nat→Option (Value×Nat×Nat)} {L:Nat} (c: ∀k,k≠L→O' k=g.O k) {xs:af} {vs:List Value} (h:PW (bA g) xs vs):PW (bA {g with O:=O'}) (xs.map (tF L)) vs:=by
 refine⟨by simp[h.1],fun i x v hx b=>?_⟩;rw[rF] at hx
 cases a:xs[i]? with
 |none=>rw[a] at hx;cases hx
 |some y=>
  rw[a] at hx;simp only[sW,aI] at hx;subst hx;exact kN c (h.2 i y v a b)
theorem dQ {R R':V→Value→Prop} {f:V→V} {xs:af} {vs:List Value} (h:PW R xs vs) (b: ∀z∈xs,∀v,R z v→R' (f z) v):PW R' (xs.map f) vs:=by
 refine⟨by simp[h.1],fun i x v hx c=>?_⟩;rw[rF] at hx
 cases a:xs[i]? with
 |none=>rw[a] at hx;cases hx
 |some y=>
  rw[a] at hx;simp only[sW,aI] at hx;subst hx;exact b y (Dp a) v (h.2 i y v a c)
theorem lZ {L:Nat} {x:V} (h:x.single=true):(tF L x).single=true:=by
 cases x with
 |sl e sh b xs=>
  cases b with
  |none=>rfl
  |some k=>rw[Iz];cases L==k<;>rfl
 |eptr k e sh xs i off=>rw[CK];cases L==k<;>rfl
 |slz k e sh xs o2 i c f a ys=>rw[EC];cases L==k<;>rfl
 |epz k e d i off=>rw[ED];cases L==k<;>rfl
 |tup _=>cases h
 |fn _ _=>cases h
 |_=>rfl
theorem O3 {g:Gh} {O':Nat→Option (Value×Nat×Nat)} {L:Nat} (d: ∀k,k≠L→O' k=g.O k) {x:V} {v:Value} (h:aG g x v):aG {g with O:=O'} (x.kill L) v:=by
 cases x with
 |tup vs=>obtain⟨a,rfl,h⟩:=h;exact⟨a,rfl,IA d h⟩
 |fn f c=>obtain⟨a,rfl,h⟩:=h;exact⟨a,rfl,IA d h⟩
 |sl e sh n xs=>
  have b:=kN (L:=L) d (aP rfl h);exact bq (lZ rfl) b
 |eptr k e sh xs i off=>
  have b:=kN (L:=L) d (aP (x:=.eptr k e sh xs i off) rfl h);exact bq (lZ (x:=.eptr k e sh xs i off) rfl) b
 |slz k e sh xs o2 i c l j ys=>
  have b:=kN (L:=L) d (aP (x:=.slz k e sh xs o2 i c l j ys) rfl h);exact bq (lZ (x:=.slz k e sh xs o2 i c l j ys) rfl) b
 |epz k e m i off=>
  have b:=kN (L:=L) d (aP (x:=.epz k e m i off) rfl h);exact bq (lZ (x:=.epz k e m i off) rfl) b
 |_=>simp only[aG] at h⊢;exact kN d h
theorem Nb {g:Gh} {O':Nat→Option (Value×Nat×Nat)} {L:Nat} (c: ∀k,k≠L→O' k=g.O k) {xs:af} {vs:List Value} (h:PW (aG g) xs vs):PW (aG {g with O:=O'}) (xs.map (V.kill L)) vs:=by
 refine⟨by simp[h.1],fun i x v hx b=>?_⟩;rw[rF] at hx
 cases a:xs[i]? with
 |none=>rw[a] at hx;cases hx
 |some y=>
  rw[a] at hx;simp only[sW,aI] at hx;subst hx;exact O3 c (h.2 i y v a b)
theorem fK (f:af→af): ∀(l:List (Nat×af)) (k:Nat),aA (l.map fun(k,cs)=>(k,f cs)) k=(aA l k).map f
 |[],k=>rfl
 |(j,a)::l,k=>by
  simp only[Aj,aA]
  cases j==k
  ·exact fK f l k
  ·rfl
theorem mh (s:St) (L k:Nat):aA (s.kill L).bx k=(aA s.bx k).map (List.map (V.kill L)):=fK _ _ _
theorem Inv.kill (h:Inv E B G0 w0 s g a w) (L:Nat):Inv E B G0 w0 (s.kill L) {g with O:=fun k=>if k=L then none else g.O k} a w:=by
 have A: ∀k,k≠L→(if k=L then none else g.O k)=g.O k:=fun k d=>if_neg d
 refine⟨Nb A h.fr,h.df,h.gok,⟨fun k v e l d=>?_,fun k m v x e z l o b j f=>?_⟩,⟨fun k y d=>?_,fun k m y F j f=>?_⟩,h.iq,h.hB,h.ext,h.glob,h.g1,fun k y L' v e l b d hL q=>?_⟩
 ·have d:(if k=L then none else g.O k)=some (v,e,l):=d
  split at d
  ·cases d
  ·exact h.own.1 k v e l d
 ·have j:(if k=L then none else g.O k)=some (v,e,l):=j
  have f:(if m=L then none else g.O m)=some (x,z,o):=f;split at j
  ·cases j
  ·split at f
   ·cases f
   ·exact h.own.2 k m v x e z l o b j f
 ·rw[mh] at d
  cases i:aA s.bx k with
  |none=>rw[i] at d;cases d
  |some n=>
   rw[i] at d;simp only[sW,aI] at d;subst d;obtain⟨b,c,e,q,r,G,C,D,H,u⟩:=h.bxs.1 k n i;exact⟨b,c,e,q,r,G,Nb A C,D,H,jA (OL _) u⟩
 ·rw[mh] at j f
  cases i:aA s.bx k with
  |none=>rw[i] at j;cases j
  |some n=>
   cases p:aA s.bx m with
   |none=>rw[p] at f;cases f
   |some t=>exact h.bxs.2 k m n t i p
 ·rw[mh] at d
  have hL:(if L'=L then none else g.O L')=some (v,e,l):=hL;split at hL
  ·cases hL
  ·cases i:aA s.bx k with
   |none=>rw[i] at d;cases d
   |some n=>exact h.zb k n L' v e l b i hL q
end
section
variable {E:Env} {B:Own} {G0:aJ} {w0:World} {s:St} {g:Gh} {a:Act} {w:World}
theorem KR {g:Gh} {β':Nat→Option Nat} {d:Nat} (hβ: ∀k,k≠d→β' k=g.β k) {x:V} {v:Value} (hx:pZ d x=false) (h:bA g x v):bA {g with β:=β'} x v:=by
 cases x with
 |box k off=>
  obtain⟨b,c,i⟩:=h;have a:k≠d:=fun e=>by subst e;simp[pZ] at hx
  exact⟨b,(hβ k a).trans c,i⟩
 |sl e sh f xs=>cases f<;>exact h
 |eptr _ _ _ _ _ _=>exact h
 |_=>exact h
theorem BI {g:Gh} {β':Nat→Option Nat} {d:Nat} (hβ: ∀k,k≠d→β' k=g.β k) {x:V} {v:Value} (hx:x.fO d=false) (h:aG g x v):aG {g with β:=β'} x v:=by
 cases x with
 |tup vs=>
  obtain⟨a,rfl,h⟩:=h;simp only[V.fO,U1] at hx;exact⟨a,rfl,h.mono fun y b v e=>KR hβ (by have:=hx y b;simpa using this) e⟩
 |fn f c=>
  obtain⟨a,rfl,h⟩:=h;simp only[V.fO,U1] at hx;exact⟨a,rfl,h.mono fun y b v e=>KR hβ (by have:=hx y b;simpa using this) e⟩
 |_=>simp only[aG] at h⊢;exact KR hβ hx h
theorem vZ {d:Nat} (h:s.iR d=true): ∀x∈s.fr,x.fO d=false:=by
 unfold St.iR at h;rw[bL,ko] at h;exact fun x hx=>eZ (h.1 x hx)
theorem j3 {d:Nat} (h:s.iR d=true): ∀k b,aA s.bx k=some b→k≠d∧ ∀x∈b,x.fO d=false:=by
 intro k b c;unfold St.iR at h;rw[bL,ko,ko] at h;have a:=h.2 _ (iX _ _ _ c);simp only[bL,ko] at a;refine⟨fun e=>?_,fun x hx=>eZ (a.2 x hx)⟩;have:=eZ a.1;subst e;simp at this
theorem EE {G:aJ} (a:vk G w) (o:Obj):New w (w.alloc o) G G:=by
 refine⟨iZ w o,fun _ _=>rfl,fun b l h=>?_⟩;obtain⟨c,e,fr,f,d⟩:=a b l h;exact⟨c,e,fr,by rw[Below.heap_alloc w o b (eU a h)];exact f,d⟩
theorem Inv.lD (h:Inv E B G0 w0 s g a w) {k e:Nat} {t:af} {c:Array Value} (W:k<HL) (O:s.iR k=true) (S:PW (aG g) t c.toList) (U: ∀u∈c.toList,u.oneCell'=true) (A:t.all (fun v=>aT (v.fO k))=true) (I:iQ t=true→mK E.P e t.length=true):
  ∃g',Inv E B G0 w0 ⟨s.fr.set k (.box k 0),(k,t)::s.bx⟩ g' (a.put (some k) (.pointer (some ⟨w.heap.size,0,none⟩))) (w.alloc (.cells c e)):=by
 obtain⟨n,hx⟩:=h.new (EE h.gok (.cells c e));let β':Nat→Option Nat:=fun j=>if j=k then some w.heap.size else g.β j
 have hβ: ∀j,j≠k→β' j=g.β j:=fun j f=>if_neg f
 have C:PW (aG {g with β:=β'}) s.fr a.tmps.toList:=n.fr.mono fun x hx v=>BI hβ (vZ O x hx)
 rw[ko] at A;refine⟨{g with β:=β'},by rw[wO];exact C.set k ⟨w.heap.size,if_pos rfl,rfl⟩,n.df,n.gok,n.own,⟨fun j q f=>?_,fun j p q y f o m=>?_⟩,n.iq,n.hB,⟨n.ext.1,n.ext.2.1,fun j f=>(hβ j (by omega)).trans (n.ext.2.2 j f)⟩,n.glob,n.g1,fun j q L v R T b f hL m ZM=>?_⟩
 ·unfold aA at f
  by_cases d:k=j
  ·subst d
   rw[Hl,iy] at f;simp only[aI] at f;subst f;refine⟨w.heap.size,c,e,if_pos rfl,h.hB.2 _ (iI _),heap_alloc_new w _,S.mono fun x hx v=>BI hβ (eZ (A x hx)),U,?_,I⟩;show g.G w.heap.size=none
   cases I:g.G w.heap.size with
   |none=>rfl
   |some l=>have:=eU h.gok I;omega
  ·have:(k==j)=false:=by simpa using d
   rw[this,gF] at f;obtain⟨b,D,J,m,H,z,F,K,X,M⟩:=n.bxs.1 j q f;exact⟨b,D,J,by show β' j=_;rw[hβ j (fun e=>d e.symm)];exact m,H,z,F.mono fun x hx v=>BI hβ ((j3 O j q f).2 x hx),K,X,M⟩
 ·unfold aA at f o
  have m:β' j=β' p:=m;by_cases d:k=j<;>by_cases i:k=p
  ·rw[←d,←i]
  ·subst d
   have h3:(k==p)=false:=by simpa using i
   rw[h3,gF] at o;obtain⟨b,D,J,r,_,z,_⟩:=h.bxs.1 p y o;have N:β' k=some w.heap.size:=if_pos rfl;rw[N,hβ p (fun e=>i e.symm),r] at m;simp only[aI] at m;have:=(Array.getElem?_eq_some_iff.1 z).1;omega
  ·subst i
   have h3:(k==j)=false:=by simpa using d
   rw[h3,gF] at f;obtain⟨b,D,J,r,_,z,_⟩:=h.bxs.1 j q f;have N:β' k=some w.heap.size:=if_pos rfl;rw[N,hβ j (fun e=>d e.symm),r] at m;simp only[aI] at m;have:=(Array.getElem?_eq_some_iff.1 z).1;omega
  ·have h3:(k==j)=false:=by simpa using d
   have Q:(k==p)=false:=by simpa using i
   rw[h3,gF] at f;rw[Q,gF] at o;rw[hβ j (fun e=>d e.symm),hβ p (fun e=>i e.symm)] at m;exact n.bxs.2 j p q y f o m
 ·have ZM:β' j=some b:=ZM
  by_cases d:k=j
  ·subst d
   rw[show β' k=some w.heap.size from if_pos rfl] at ZM;simp only[aI] at ZM;have:=uz h.gok h.own hL m;omega
  ·unfold aA at f
   have h3:(k==j)=false:=by simpa using d
   rw[h3,gF] at f;rw[hβ j (fun e=>d e.symm)] at ZM;exact h.zb j q L v R T b f hL m ZM
theorem mZ: ∀(l:List (Nat×af)) (k j:Nat) (b old:af),aA l k=some old→aA (gm l k b) j=if j=k then some b else aA l j
 |[],k,j,b,old,h=>by cases h
 |(i,f)::l,k,j,b,old,h=>by
  unfold aA at h;unfold gm
  cases c:i==k with
  |true=>
   rw[iy];unfold aA;have e:i=k:=by simpa using c
   subst e;by_cases a:i=j
   ·subst a;simp
   ·have:(i==j)=false:=by simpa using a
    rw[this,gF,gF,if_neg (fun e=>a e.symm)]
  |false=>
   rw[c,gF] at h;rw[gF];have d:i≠k:=by simpa using c
   unfold aA;rw[mZ l k j b old h];by_cases a:i=j
   ·subst a
    rw[Hl,iy,iy,if_neg d]
   ·have:(i==j)=false:=by simpa using a
    rw[this,gF,gF]
theorem Inv.store (h:Inv E B G0 w0 s g a w) {k off b e:Nat} {old vs:af} {c:Array Value} {us:List Value} (O:g.β k=some b) (hl:aA s.bx k=some old) (J:w.heap[b]? =some (.cells c e (0,0))) (hp:PW (aG g) old c.toList)
  (P:PW (aG g) vs us) (ho: ∀u∈us,u.oneCell'=true) (hle:off+vs.length≤old.length) (hq:iQ (over old off vs)=true→iQ old=true):
  Inv E B G0 w0 ⟨s.fr,gm s.bx k (over old off vs)⟩ g a (w.setRow b (c.toList.take off++us++c.toList.drop (off+us.length)).toArray):=by
 obtain⟨b',c',e',x,H,y,hp',K,N,hq0⟩:=h.bxs.1 k old hl;rw[O] at x;simp only[aI] at x;subst x;rw[J] at y;simp only[aI,Obj.cells.injEq] at y;obtain⟨rfl,rfl,_⟩:=y;have hl':=hl;have M:=setRow_heap w b c (c.toList.take off++us++c.toList.drop (off+us.length)).toArray e (0,0) J;have f: ∀j,j≠b→(w.setRow b (c.toList.take off++us++c.toList.drop (off+us.length)).toArray).heap[j]? =w.heap[j]? :=fun j d=>setRow_other w b j _ d
 have D:(w.setRow b (c.toList.take off++us++c.toList.drop (off+us.length)).toArray).heap.size=w.heap.size:=by simp[World.setRow]
 have Q: ∀j l,g.G j=some l→j≠b:=fun j l d e=>by subst e;rw[N] at d;cases d
 refine⟨h.fr,h.df,fun j l d=>?_,⟨fun L v i F hL=>?_,h.own.2⟩,⟨fun j t d=>?_,fun j j' t C d o=>?_⟩,?_,by rw[D];exact h.hB,h.ext,h.glob,h.g1,fun j t L v i F A d hL m=>?_⟩
 ·obtain⟨Z,i,fr,hc,ht⟩:=h.gok j l d
  exact⟨Z,i,fr,by rw[f j (Q j l d)];exact hc,ht⟩
 ·obtain⟨h1,h2⟩:=h.own.1 L v i F hL
  refine⟨h1,h2.imp id ?_⟩;rintro⟨j,n,cap,Y,l,P,d,hhj,hnc,S,hcs,W,hl⟩;have T:j≠b:=fun e=>h.zb k old L v i F j hl' hL (by rw[P];rfl) (by rw[e];exact O)
  exact⟨j,n,cap,Y,l,P,d,by rw[f j T];exact hhj,hnc,S,hcs,W,hl⟩
 ·rw[mZ s.bx k j _ old hl] at d
  split at d
  ·rename_i r
   subst r;simp only[aI] at d;subst d;refine⟨b,_,e,O,H,M,by simpa using M8 hp P off,fun u p=>?_,N,fun J=>by rw[Sr hle];exact hq0 (hq J)⟩;simp only[X6] at p;rcases p with(p|p)|p
   ·exact K u (List.mem_of_mem_take p)
   ·exact ho u p
   ·exact K u (List.mem_of_mem_drop p)
  ·rename_i r
   obtain⟨A,Z,i,m,I,U,X,ho2,hG2,hq2⟩:=h.bxs.1 j t d;have R:A≠b:=by
    intro e3;subst e3;exact r (h.bxs.2 j k t old d hl (m.trans O.symm))
   exact⟨A,Z,i,m,I,by rw[f A R];exact U,X,ho2,hG2,hq2⟩
 ·rw[mZ s.bx k _ _ old hl] at d o
  refine fun q=>?_
  split at d<;>split at o
  ·rename_i z i;rw[z,i]
  ·rename_i z i;subst z;exact h.bxs.2 _ _ old C hl o q
  ·rename_i z i;subst i;exact h.bxs.2 _ _ t old d hl q
  ·exact h.bxs.2 _ _ t C d o q
 ·refine h.iq.trans ⟨⟨rfl,rfl,rfl,by rw[D];exact iI _,fun j d=>by omega⟩,fun j d=>f j fun e=>d (e▸H),qb J fun j d _=>f j d⟩
 ·rw[mZ s.bx k j _ old hl] at d
  split at d
  ·rename_i z;rw[z];exact h.zb k old L v i F A hl hL m
  ·exact h.zb j t L v i F A d hL m
theorem FY {f:af→af} {bx:List (Nat×af)} {g:Gh} (h: ∀k a L v e c b,aA bx k=some a→g.O L=some (v,e,c)→v.ownBlock=some b→g.β k≠some b): ∀k a L v e c b,aA (bx.map fun(k,a)=>(k,f a)) k=some a→g.O L=some (v,e,c)→v.ownBlock=some b→g.β k≠some b:=by
 intro k a L v e c b d;rw[fK] at d
 cases i:aA bx k with
 |none=>rw[i] at d;cases d
 |some j=>exact h k j L v e c b i
theorem ji {G G':aJ} {x:V} {v:Value} (hx:yU x=true) (h:aK G x v):aK G' x v:=by
 cases x<;>first|cases hx|skip
 all_goals (unfold aK at h⊢;exact h)
theorem SI {sh:List Kd} {x:V} (e:sh.all flatK=true) (b:bJ sh x.cells=true): ∀c∈x.cells,yU c=true:=by
 have f: ∀(sh:List Kd) (a:af),sh.all flatK=true→bJ sh a=true→ ∀c∈a,yU c=true:=by
  intro sh;induction sh with
  |nil=>intro a _ b c d;cases a with
   |nil=>cases d
   |cons _ _=>simp[bJ] at b
  |cons k sh h=>
   intro a e b c d
   cases a with
   |nil=>cases d
   |cons y a=>
    rw[U3,bL] at e;simp only[bJ] at b;obtain⟨i,g⟩:=aS b;rcases List.mem_cons.1 d with rfl|d
    ·cases k<;>first|(cases e.1;done)|skip
     all_goals (cases c<;>first|rfl|(simp[fits] at i))
    ·exact h a e.2 g c d
 exact f sh x.cells e b
theorem O4 {G G':aJ} {sh:List Kd} {x:V} {u:Value} (e:sh.all flatK=true) (c:fG sh x=true) (h:aK G x u):aK G' x u:=by
 have b:=SI e c
 cases x with
 |agg g=>
  unfold aK at h⊢;obtain⟨a,rfl,h⟩:=h;refine⟨a,rfl,?_⟩;rw[eD] at h⊢;exact h.mono fun y d v f=>ji (b y d) f
 |_=>exact ji (b _ vg) h
theorem yx {G G':aJ} {sh:List Kd} (b:sh.all flatK=true): ∀(xs:af) (cells:List Value),bM G sh xs cells→bM G' sh xs cells
 |[],_,_=>gH
 |x::xs,cells,h=>by
  unfold bM at h⊢;obtain⟨a,⟨u,c,e⟩,d⟩:=h;exact⟨a,⟨u,O4 b a c,e⟩,yx b xs _ d⟩
theorem EF {G G':aJ} {sh:List Kd} {xs:af} {v:Value} (e:sh.all flatK=true) (h:qC G sh xs v) (d: ∀b,v.ownBlock=some b→G' b=G b):qC G' sh xs v:=by
 rcases h with h|⟨b,cap,l,rfl,a,f,hl,c⟩
 ·exact .inl h
 ·exact .inr ⟨b,cap,l,rfl,a,by rw[d b rfl];exact f,hl,yx e _ _ c⟩
theorem Nc (L e:Nat) (k:List Kd) (ys:af) (a:Nat) (sh:List Kd) (j:Nat) (xs:af):H6 L e k ys (.sl a sh (some j) xs)=bif L==j then .sl e k (some L) ys else .sl a sh (some j) xs:=rfl
theorem EG (L e:Nat) (k:List Kd) (ys:af) (j a:Nat) (sh:List Kd) (xs:af) (i:Int) (off:Nat):H6 L e k ys (.eptr j a sh xs i off)=bif L==j then .eptr L e k ys i off else .eptr j a sh xs i off:=rfl
theorem za {g:Gh} {x:V} {v:Value} (h:aG g x v):aG g x.forget v:=by
 unfold V.forget
 cases x.flat
 ·exact gI
 ·exact h
theorem JB: ∀x:V,x.forget=.nilp→x=.nilp:=by
 intro x h;unfold V.forget at h
 cases a:x.flat<;>rw[a] at h
 ·cases h
 ·exact h
theorem ze (x:V):x.forget.flat=true:=by
 unfold V.forget
 cases a:x.flat
 ·rfl
 ·exact a
theorem Inv.forget (h:Inv E B G0 w0 s g a w):Inv E B G0 w0 s.forget g a w:=by
 have hl: ∀k,aA s.forget.bx k=(aA s.bx k).map (List.map V.forget):=fun k=>fK _ _ _
 refine⟨dQ h.fr fun z _ v o=>za o,h.df,h.gok,h.own,⟨fun k F d=>?_,fun k t F y q l=>?_⟩,h.iq,h.hB,h.ext,h.glob,h.g1,FY (f:=List.map V.forget) h.zb⟩
 ·rw[hl] at d
  cases i:aA s.bx k with
  |none=>rw[i] at d;cases d
  |some p=>
   rw[i] at d;simp only[sW,aI] at d;subst d;obtain⟨b,c,e,C,n,A,u,x,D,r⟩:=h.bxs.1 k p i;exact⟨b,c,e,C,n,A,dQ u fun z _ v o=>za o,x,D,jA JB r⟩
 ·rw[hl] at q l
  cases i:aA s.bx k with
  |none=>rw[i] at q;cases q
  |some p=>
   cases j:aA s.bx t with
   |none=>rw[j] at l;cases l
   |some m=>exact h.bxs.2 k t p m i j
theorem GH (s:St):s.forget.MN=true:=by
 unfold St.MN St.forget;rw[bL,ko,ko];refine⟨fun x hx=>?_,fun p a=>?_⟩
 ·obtain⟨y,_,rfl⟩:=List.mem_map.1 hx
  exact ze y
 ·obtain⟨q,_,rfl⟩:=List.mem_map.1 a
  show(q.2.map V.forget).all V.flat=true;rw[ko];intro x hx;obtain⟨y,_,rfl⟩:=List.mem_map.1 hx;exact ze y
theorem Inv.Bd (h:Inv E B G0 w0 s g a w) {L e b i:Nat} {k:List Kd} {W u:Value} {c:Array Value} {l:List Value} {xs ys:af} (hO:g.O L=some (W,e,k.length)) (J:W.ownBlock=some b) (hh:w.heap[b]? =some (.cells c e (0,0))) (Bc:g.G b=some l) (hi:i<l.length)
  (hown:qC g.G k xs W) (Y:ys.length=xs.length) (hk:k.all flatK=true) (hr:bM g.G k ys (l.set i u)) (hone:u.oneCell'=true) (hn:s.MN=true) (hL:L<HL):
  ∃g',Inv E B G0 w0 (s.upd L e k ys) g' a (w.setRow b (c.toList.take i++[u]++c.toList.drop (i+1)).toArray):=by
 have Z:B.ok L b:=by
  rcases(h.own.1 L W e k.length hO).2 with t|⟨C,n,cap,cur,l',t,hB',_⟩
  ·rw[t] at J;cases J
  ·rw[t] at J;simp[Value.ownBlock] at J;subst J;exact hB'
 obtain⟨c0,e0,fr0,hc0,ht0⟩:=h.gok b l Bc;rw[hh] at hc0;simp only[aI,Obj.cells.injEq] at hc0;obtain⟨rfl,rfl,rfl⟩:=hc0;have hil:i<c.toList.length:=by
  have:=congrArg List.length ht0;rw[Dv] at this;omega
 have hset:c.toList.take i++[u]++c.toList.drop (i+1)=c.toList.set i u:=by
  rw[ZX,if_pos hil];simp
 rw[hset];let G':aJ:=fun j=>if j=b then some (l.set i u) else g.G j
 have I: ∀j,j≠b→G' j=g.G j:=fun j d=>if_neg d
 have U9:G' b=some (l.set i u):=if_pos rfl;have hnew:=setRow_heap w b c (c.toList.set i u).toArray e (0,0) hh;have F: ∀j,j≠b→(w.setRow b (c.toList.set i u).toArray).heap[j]? =w.heap[j]? :=fun j d=>setRow_other w b j _ d
 have hsz:(w.setRow b (c.toList.set i u).toArray).heap.size=w.heap.size:=by simp[World.setRow]
 have hv0:qC G' k ys W:=by
  rcases hown with⟨t,hx0⟩|⟨C,cap,l',t,hcap,hGl,hll,hE⟩
  ·rw[t] at J;cases J
  ·rw[t] at J
   simp only[Value.ownBlock,aI] at J;subst J;rw[Bc] at hGl;simp only[aI] at hGl;subst hGl;exact .inr ⟨C,cap,l.set i u,by rw[t,Y],by rw[Y];exact hcap,U9,by rw[QL,Y];exact hll,yx hk _ _ hr⟩
 have hlenL: ∀(sh:List Kd) (K:af),g.O L=some (W,e,sh.length)→qC g.G sh K W→K.length=xs.length:=by
  intro sh K _ hz;rcases hz with⟨t,hz⟩|⟨C,cap,l',t,_⟩
  ·rw[t] at J;cases J
  ·rcases hown with⟨S,_⟩|⟨b2,cap2,l2,S,_⟩
   ·rw[S] at J;cases J
   ·rw[t] at S
    simp only[Value.slice.injEq] at S;exact S.2.1
 have M: ∀j v H sz C,j≠L→g.O j=some (v,H,sz)→v.ownBlock=some C→C≠b:=by
  intro j v H sz C d hOj Q P;subst P;exact d (h.own.2 j L v W H e sz k.length C hOj hO Q J)
 have hm1:jP g.G1 G':=fun j m d=>by
  obtain⟨m1,q1,q2⟩:=h.g1 j m d;have D:j≠b:=fun e=>by have h1:=h.glob.2 j m1 q1;have h2:=Z.2 hL;omega
  obtain⟨m2,q3,q4⟩:=h.ext.2.1 j m1 q1;exact⟨m2,(I j D).trans q3,q2.trans q4⟩
 have o: ∀(y:V) (v:Value),Ee y=true→bA g y v→bA {g with G:=G'} (H6 L e k ys y) v:=by
  intro y v A t
  cases y with
  |sl H sh ow K=>
   cases ow with
   |none=>cases A
   |some j=>
    rw[Nc];obtain⟨N,p2⟩:=t;by_cases d:L=j
    ·have P:(L==j)=true:=by simpa using d
     rw[P,iy];subst d;rw[hO] at N;simp only[aI,bU] at N;obtain⟨rfl,rfl,_⟩:=N;exact⟨hO,hv0⟩
    ·have P:(L==j)=false:=by simpa using d
     rw[P,gF];exact⟨N,EF A p2 fun C Q=>I C (M j v H _ C (fun e=>d e.symm) N Q)⟩
  |eptr j H sh K q off=>
   rw[EG];obtain⟨v1,b1,N,p2,p3,p4,p5,p6⟩:=t;by_cases d:L=j
   ·have P:(L==j)=true:=by simpa using d
    rw[P,iy];subst d;have p1':=N;rw[hO] at N;simp only[aI,bU] at N;obtain⟨rfl,rfl,hsl⟩:=N;have hzl:=hlenL sh K p1' p2;refine⟨W,b1,hO,hv0,p3,by rw[Y];omega,p5,?_⟩;rw[p6,hsl]
   ·have P:(L==j)=false:=by simpa using d
    rw[P,gF];exact⟨v1,b1,N,EF A p2 fun C Q=>I C (M j v1 H _ C (fun e=>d e.symm) N Q),p3,p4,p5,p6⟩
  |box j off=>exact t
  |old x=>exact⟨t.1,gq hm1 _ _ t.1,t.2.2⟩
  |any=>show aK G' .any v;unfold aK;trivial
  |bool _=>exact ji (G:=g.G) rfl t
  |int _ _=>exact ji (G:=g.G) rfl t
  |str _=>exact ji (G:=g.G) rfl t
  |nilsl=>exact ji (G:=g.G) rfl t
  |nilif=>exact ji (G:=g.G) rfl t
  |nilp=>exact ji (G:=g.G) rfl t
  |iface _ _=>cases A
  |bxa _ _=>cases A
  |out _ _ _=>cases A
  |sK _ _ _=>cases A
  |agg _=>cases A
  |tup _=>cases A
  |rptr _ _ _=>cases A
  |fn _ _=>cases A
  |slz _ _ _ _ _ _ _ _ _ _=>cases A
  |epz _ _ _ _ _=>cases A
  |keep _ _=>cases A
 have R: ∀(y:V) (v:Value),y.flat=true→aG g y v→aG {g with G:=G'} (y.upd L e k ys) v:=by
  intro y v A t
  cases y with
  |tup vs=>
   obtain⟨a,rfl,p⟩:=t;have A:vs.all Ee=true:=A;rw[ko] at A;exact⟨a,rfl,dQ p fun z hz v t=>o z v (A z hz) t⟩
  |fn f vs=>
   obtain⟨a,rfl,p⟩:=t;have A:vs.all Ee=true:=A;rw[ko] at A;exact⟨a,rfl,dQ p fun z hz v t=>o z v (A z hz) t⟩
  |agg T=>
   obtain⟨a,rfl,p⟩:=gK.1 t;have A:T.all yU=true:=A;rw[ko] at A;exact gK.2 ⟨a,rfl,p.mono fun z hz v t=>ji (A z hz) t⟩
  |sl H sh ow K=>
   have h2:=o (.sl H sh ow K) v A (aP (x:=.sl H sh ow K) rfl t);refine bq ?_ h2
   cases ow with
   |none=>cases A
   |some j=>show(H6 L e k ys (V.sl H sh (some j) K)).single=true;rw[Nc];cases L==j<;>rfl
  |eptr j H sh K q off=>
   have h2:=o (.eptr j H sh K q off) v A (aP (x:=.eptr j H sh K q off) rfl t);refine bq ?_ h2;show(H6 L e k ys (V.eptr j H sh K q off)).single=true;rw[EG];cases L==j<;>rfl
  |any=>exact bq rfl (o (.any) v rfl (aP (x:=.any) rfl t))
  |bool q=>exact bq rfl (o (.bool q) v rfl (aP (x:=.bool q) rfl t))
  |int q r=>exact bq rfl (o (.int q r) v rfl (aP (x:=.int q r) rfl t))
  |str q=>exact bq rfl (o (.str q) v rfl (aP (x:=.str q) rfl t))
  |nilsl=>exact bq rfl (o (.nilsl) v rfl (aP (x:=.nilsl) rfl t))
  |nilif=>exact bq rfl (o (.nilif) v rfl (aP (x:=.nilif) rfl t))
  |nilp=>exact bq rfl (o (.nilp) v rfl (aP (x:=.nilp) rfl t))
  |iface _ _=>cases A
  |bxa _ _=>cases A
  |out _ _ _=>cases A
  |sK _ _ _=>cases A
  |box q r=>exact bq rfl (o (.box q r) v rfl (aP (x:=.box q r) rfl t))
  |old q=>exact bq rfl (o (.old q) v rfl (aP (x:=.old q) rfl t))
  |rptr _ _ _=>cases A
  |slz _ _ _ _ _ _ _ _ _ _=>cases A
  |epz _ _ _ _ _=>cases A
  |keep _ _=>cases A
 unfold St.MN at hn;rw[bL,ko,ko] at hn;obtain⟨n1,n2⟩:=hn;refine⟨{g with G:=G'},dQ h.fr fun y A v t=>R y v (n1 y A) t,h.df,fun j m d=>?_,⟨fun j v e2 sz d=>?_,h.own.2⟩,⟨fun j ds d=>?_,fun j j' ds ds' d U=>?_⟩,?_,by rw[hsz];exact h.hB,⟨fun j d=>(I j fun e=>d (e▸Z.1)).trans (h.ext.1 j d),fun j m d=>by
  have D:j≠b:=fun e=>by have h1:=h.glob.2 j m d;have h2:=Z.2 hL;omega
  obtain⟨m',h1,h2⟩:=h.ext.2.1 j m d;exact⟨m',by show G' j=_;rw[I j D];exact h1,h2⟩,h.ext.2.2⟩,h.glob,h.g1,FY (f:=List.map (V.upd L e k ys)) h.zb⟩
 ·by_cases D:j=b
  ·subst D
   have d:G' j=some m:=d;rw[U9] at d;simp only[aI] at d;subst d;refine⟨_,_,_,hnew,?_⟩;rw[QL,ab6];rw[Z9,ht0]
  ·have d:G' j=some m:=d
   rw[I j D] at d;obtain⟨c2,e2,fr,hc,ht⟩:=h.gok j m d;exact⟨c2,e2,fr,by rw[F j D];exact hc,ht⟩
 ·obtain⟨q1,q2⟩:=h.own.1 j v e2 sz d
  refine⟨q1,q2.imp id ?_⟩;rintro⟨C,n,cap,cur,m,t,hB',X,hnc,hcm,hcs,hGj,hl⟩;by_cases D:C=b
  ·subst D
   rw[hh] at X;simp only[aI,Obj.cells.injEq] at X;obtain⟨rfl,rfl,_⟩:=X;obtain⟨e9,hCj⟩:=hGj.known Bc;subst e9;exact⟨C,n,cap,_,_,t,hB',hnew,hnc,hcm,by simpa using hcs,kX.mk0 hCj U9,by simpa using hl⟩
  ·exact⟨C,n,cap,cur,m,t,hB',by rw[F C D];exact X,hnc,hcm,hcs,hGj.keep rfl (I C D),hl⟩
 ·have d:aA (s.bx.map fun(q,T)=>(q,T.map (V.upd L e k ys))) j=some ds:=d
  rw[fK] at d
  cases hq:aA s.bx j with
  |none=>rw[hq] at d;cases d
  |some T=>
   rw[hq] at d;simp only[sW,aI] at d;subst d;obtain⟨C,c',H,N,p2,p3,p4,p5,p6,p7⟩:=h.bxs.1 j T hq;have hne:C≠b:=fun P=>by subst P;rw[Bc] at p6;cases p6
   have hfl:=n2 _ (iX _ _ _ hq);simp only[ko] at hfl;exact⟨C,c',H,N,p2,by rw[F C hne];exact p3,dQ p4 fun y A v t=>R y v (hfl y A) t,p5,by show G' C=none;rw[I C hne];exact p6,jA (Ss _ _ _ _) p7⟩
 ·have d:aA (s.bx.map fun(q,T)=>(q,T.map (V.upd L e k ys))) j=some ds:=d
  have U:aA (s.bx.map fun(q,T)=>(q,T.map (V.upd L e k ys))) j'=some ds':=U;rw[fK] at d U
  cases hq:aA s.bx j with
  |none=>rw[hq] at d;cases d
  |some T=>
   cases hq':aA s.bx j' with
   |none=>rw[hq'] at U;cases U
   |some cs'=>exact h.bxs.2 j j' T cs' hq hq'
 ·refine h.iq.trans ⟨⟨rfl,rfl,rfl,by rw[hsz];exact iI _,fun j d=>by omega⟩,fun j d=>F j fun e=>d (e▸Z.1),qb hh fun j d _=>F j d⟩
theorem EH (L i e:Nat) (sh:List Kd) (k:Nat) (xs:af):pW L i (.sl e sh (some k) xs)=bif L==k then .sl e sh (some i) xs else .sl e sh (some k) xs:=rfl
theorem zf (L i k e:Nat) (sh:List Kd) (xs:af) (j:Int) (off:Nat):pW L i (.eptr k e sh xs j off)=bif L==k then .eptr i e sh xs j off else .eptr k e sh xs j off:=rfl
theorem LJ (L i k e:Nat) (sh:List Kd) (xs:af) (o2:Option Nat) (j:Int) (c b:Nat) (a:List Kd) (ys:af):pW L i (.slz k e sh xs o2 j c b a ys)=.slz (bif L==k then i else k) e sh xs (Vk L i o2) j c b a ys:=rfl
theorem LK (L i k e a:Nat) (j:Int) (off:Nat):pW L i (.epz k e a j off)=.epz (bif L==k then i else k) e a j off:=rfl
theorem ja {g:Gh} {O':Nat→Option (Value×Nat×Nat)} {C':Nat→Option (List Value)} {L i:Nat} (u:O' i=g.O L) (q: ∀k,k≠L→k≠i→O' k=g.O k) (s:C' i=g.C L) (z: ∀k,k≠L→k≠i→C' k=g.C k) {x:V} {v:Value} (hx:iA i x=false) (h:bA g x v):bA {g with O:=O',C:=C'} (pW L i x) v:=by
 cases x with
 |sl e sh F xs=>
  cases F with
  |none=>exact h
  |some k=>
   rw[EH];by_cases a:L=k
   ·have:(L==k)=true:=by simpa using a
    rw[this];subst a;exact⟨u.trans h.1,h.2⟩
   ·have:(L==k)=false:=by simpa using a
    rw[this];have o:k≠i:=fun e=>by subst e;simp[iA] at hx
    exact⟨(q k (fun e=>a e.symm) o).trans h.1,h.2⟩
 |eptr k e sh xs j off=>
  rw[zf];obtain⟨w,b,m,f⟩:=h;by_cases a:L=k
  ·have:(L==k)=true:=by simpa using a
   rw[this];subst a;exact⟨w,b,u.trans m,f⟩
  ·have:(L==k)=false:=by simpa using a
   rw[this];have o:k≠i:=fun e=>by subst e;simp[iA] at hx
   exact⟨w,b,(q k (fun e=>a e.symm) o).trans m,f⟩
 |slz k e sh xs o2 j c y p ys=>
  rw[LJ];have hx:(i==k||lkO i o2)=false:=hx;rw[Fv,qD] at hx;obtain⟨r,d⟩:=hx;obtain⟨l,m,f,h3,E⟩:=h;have t:oZ {g with O:=O',C:=C'} l sh.length (Vk L i o2) j c y p ys:=by
   cases o2 with
   |none=>trivial
   |some L2=>
    have d:(i==L2)=false:=d;rw[qD] at d;obtain⟨B,A,D⟩:=E;by_cases n:L=L2
    ·subst n
     show oZ _ l sh.length (bif L==L then some i else some L) j c y p ys;rw[Hl];exact⟨B,u.trans A,D⟩
    ·show oZ _ l sh.length (bif L==L2 then some i else some L2) j c y p ys
     rw[beq_eq_false_iff_ne.2 n];exact⟨B,(q L2 (fun e=>n e.symm) (fun e=>d e.symm)).trans A,D⟩
  by_cases a:L=k
  ·subst a
   rw[Hl];exact⟨l,u.trans m,s.trans f,h3,t⟩
  ·rw[beq_eq_false_iff_ne.2 a]
   exact⟨l,(q k (fun e=>a e.symm) (fun e=>r e.symm)).trans m,(z k (fun e=>a e.symm) (fun e=>r e.symm)).trans f,h3,t⟩
 |epz k e G j off=>
  rw[LK];have hx:(i==k)=false:=hx;rw[qD] at hx;obtain⟨w,b,l,m,f,h3⟩:=h;by_cases a:L=k
  ·subst a
   rw[Hl];exact⟨w,b,l,u.trans m,s.trans f,h3⟩
  ·rw[beq_eq_false_iff_ne.2 a]
   exact⟨w,b,l,(q k (fun e=>a e.symm) (fun e=>hx e.symm)).trans m,(z k (fun e=>a e.symm) (fun e=>hx e.symm)).trans f,h3⟩
 |_=>exact h
theorem tT {L i:Nat} {x:V} (h:x.single=true):(pW L i x).single=true:=by
 cases x with
 |sl e sh a xs=>
  cases a with
  |none=>rfl
  |some k=>rw[EH];cases L==k<;>rfl
 |eptr k e sh xs j off=>rw[zf];cases L==k<;>rfl
 |tup _=>cases h
 |fn _ _=>cases h
 |_=>rfl
theorem CL {g:Gh} {O':Nat→Option (Value×Nat×Nat)} {C':Nat→Option (List Value)} {L i:Nat} (n:O' i=g.O L) (l: ∀k,k≠L→k≠i→O' k=g.O k) (b:C' i=g.C L) (d: ∀k,k≠L→k≠i→C' k=g.C k) {x:V} {v:Value} (hx:x.dG i=false) (h:aG g x v):aG {g with O:=O',C:=C'} (x.canon L i) v:=by
 cases x with
 |tup vs=>
  obtain⟨a,rfl,h⟩:=h;simp only[V.dG,U1] at hx;exact⟨a,rfl,dQ h fun y q v r=>ja n l b d (by have:=hx y q;simpa using this) r⟩
 |fn f c=>
  obtain⟨a,rfl,h⟩:=h;simp only[V.dG,U1] at hx;exact⟨a,rfl,dQ h fun y q v r=>ja n l b d (by have:=hx y q;simpa using this) r⟩
 |sl e sh s xs=>exact bq (tT rfl) (ja n l b d hx (aP rfl h))
 |eptr k e sh xs j off=>exact bq (tT (x:=.eptr k e sh xs j off) rfl) (ja (x:=.eptr k e sh xs j off) n l b d hx (aP (x:=.eptr k e sh xs j off) rfl h))
 |slz k e sh xs o2 j c o m ys=>exact bq (x:=.slz (bif L==k then i else k) e sh xs (Vk L i o2) j c o m ys) rfl (ja (x:=.slz k e sh xs o2 j c o m ys) n l b d hx (aP (x:=.slz k e sh xs o2 j c o m ys) rfl h))
 |epz k e p j off=>exact bq (x:=.epz (bif L==k then i else k) e p j off) rfl (ja (x:=.epz k e p j off) n l b d hx (aP (x:=.epz k e p j off) rfl h))
 |_=>simp only[aG,V.dG] at h hx⊢;exact ja n l b d hx h
theorem Inv.canon (h:Inv E B G0 w0 s g a w) {L i:Nat} (S:L≠i) (hcl:i<HL→L<HL) (hi:s.bn i=true): ∃g',Inv E B G0 w0 (s.canon L i) g' a w:=by
 let O':Nat→Option (Value×Nat×Nat):=fun k=>if k=i then g.O L else if k=L then none else g.O k
 have P:O' i=g.O L:=if_pos rfl;have h2: ∀k,k≠L→k≠i→O' k=g.O k:=fun k d z=>by show(if k=i then g.O L else if k=L then none else g.O k)=_;rw[if_neg z,if_neg d]
 let C':Nat→Option (List Value):=fun k=>if k=i then g.C L else if k=L then none else g.C k
 have A:C' i=g.C L:=if_pos rfl;have D: ∀k,k≠L→k≠i→C' k=g.C k:=fun k d z=>by show(if k=i then g.C L else if k=L then none else g.C k)=_;rw[if_neg z,if_neg d]
 have m: ∀k x,O' k=some x→ ∃j,g.O j=some x∧(j=if k=i then L else k):=by
  intro k x d;have d:(if k=i then g.O L else if k=L then none else g.O k)=some x:=d;split at d
  ·rename_i e;exact⟨L,d,by rw[if_pos e]⟩
  ·rename_i e
   split at d
   ·cases d
   ·exact⟨k,d,by rw[if_neg e]⟩
 refine⟨{g with O:=O',C:=C'},dQ h.fr fun x hx v=>CL P h2 A D (qf hi x hx),h.df,h.gok,⟨fun k v e F d=>?_,fun k q v v' e e' F Y b d f t hb'=>?_⟩,⟨fun k o d=>?_,fun k q o W d f=>?_⟩,h.iq,h.hB,h.ext,h.glob,h.g1,fun k o q v e F b d f t=>?_⟩
 ·obtain⟨j,M,I⟩:=m k _ d
  have P:=h.own.1 j v e F M;refine⟨P.1,P.2.imp id ?_⟩;rintro⟨b,n,cap,J,l,hv,t,hh,X,T,hcs,u,hl⟩;have hCk:C' k=g.C j:=by
   rw[I];by_cases N:k=i
   ·rw[if_pos N,N];exact A
   ·rw[if_neg N]
    have r:k≠L:=fun e9=>by
     subst e9;have d:(if k=i then g.O k else if k=k then none else g.O k)=some (v,e,F):=d;rw[if_neg N,if_pos rfl] at d
     cases d
    exact D k r N
  refine⟨b,n,cap,J,l,hv,⟨t.1,fun d=>t.2 ?_⟩,hh,X,T,hcs,?_,hl⟩
  ·rw[I]
   split
   ·rename_i e;exact hcl (e▸d)
   ·exact d
  ·unfold kX at u⊢
   show(match C' k with|none=>g.G b=some l|some l'=>g.G b=none∧l'=l∧J.toList.take l.length=l);rw[hCk];exact u
 ·have r: ∀k x,O' k=some x→k≠L:=by
   intro k x d e;subst e;have d:(if k=i then g.O k else if k=k then none else g.O k)=some x:=d;rw[if_neg S,if_pos rfl] at d
   cases d
  obtain⟨j,M,I⟩:=m k _ d;obtain⟨j',hj',y⟩:=m q _ f;have hjj:=h.own.2 j j' v v' e e' F Y b M hj' t hb';have hk1:=r k _ d;have hk2:=r q _ f;by_cases R:k=i<;>by_cases Q:q=i
  ·rw[R,Q]
  ·rw[if_pos R] at I;rw[if_neg Q] at y;omega
  ·rw[if_neg R] at I;rw[if_pos Q] at y;omega
  ·rw[if_neg R] at I;rw[if_neg Q] at y;omega
 ·have d:aA (s.bx.map fun(k,o)=>(k,o.map (V.canon L i))) k=some o:=d
  rw[fK] at d
  cases p:aA s.bx k with
  |none=>rw[p] at d;cases d
  |some H=>
   rw[p] at d;simp only[sW,aI] at d;subst d;obtain⟨b,c,e,t,Z,hh,hp,ho,hG,hq2⟩:=h.bxs.1 k H p;exact⟨b,c,e,t,Z,hh,dQ hp fun x hx v=>CL P h2 A D (uP hi k H p x hx),ho,hG,jA (Ls _ _) hq2⟩
 ·have d:aA (s.bx.map fun(k,o)=>(k,o.map (V.canon L i))) k=some o:=d
  have f:aA (s.bx.map fun(k,o)=>(k,o.map (V.canon L i))) q=some W:=f;rw[fK] at d f
  cases p:aA s.bx k with
  |none=>rw[p] at d;cases d
  |some H=>
   cases K:aA s.bx q with
   |none=>rw[K] at f;cases f
   |some U=>exact h.bxs.2 k q H U p K
 ·obtain⟨j,M,_⟩:=m q _ f
  have d:aA (s.bx.map fun(k,o)=>(k,o.map (V.canon L i))) k=some o:=d;rw[fK] at d
  cases p:aA s.bx k with
  |none=>rw[p] at d;cases d
  |some H=>exact h.zb k H j v e F b p M t
theorem Inv.less (h:Inv E B G0 w0 s g a w) {fr:af} {bx:List (Nat×af)} (m:PW (aG g) fr a.tmps.toList) (i: ∀k c,aA bx k=some c→aA s.bx k=some c):Inv E B G0 w0 ⟨fr,bx⟩ g a w:=
 ⟨m,h.df,h.gok,h.own,⟨fun k c f=>h.bxs.1 k c (i k c f),fun k l c d f j=>h.bxs.2 k l c d (i k c f) (i l d j)⟩,h.iq,h.hB,h.ext,h.glob,h.g1,fun k c L v e n b f=>h.zb k c L v e n b (i k c f)⟩
theorem EI {g:Gh} (a:List Nat): ∀(xs:af) (vs:List Value) (i:Nat),PW (aG g) xs vs→PW (aG g) (xQ a xs i) vs
 |[],vs,i,h=>by rw[h.bR];exact .nil
 |x::xs,vs,i,h=>by
  obtain⟨v,t,rfl,c,b⟩:=h.cons_inv;unfold xQ;refine .cons ?_ (EI a xs t (i+1) b)
  cases a.contains i
  ·exact c
  ·exact gI
theorem zh (q:Nat→Bool): ∀(l:List (Nat×af)) (k:Nat) (c:af),aA (l.filter fun(k,_)=>q k) k=some c→aA l k=some c
 |[],k,c,h=>by cases h
 |(j,g)::l,k,c,h=>by
  have b:=zh q l k c;simp only[ZE] at h;unfold aA
  cases d:j==k with
  |true=>
   have e:j=k:=by simpa using d
   subst e;rw[iy]
   cases a:q j with
   |true=>
    rw[a,if_pos rfl] at h;unfold aA at h;rw[d,iy] at h;exact h
   |false=>
    rw[a,if_neg (by decide)] at h;exfalso;have: ∀(l:List (Nat×af)),aA (l.filter fun(k,_)=>q k) j=none:=by
     intro l;induction l with
     |nil=>rfl
     |cons p l b=>
      obtain⟨i,m⟩:=p;simp only[ZE];by_cases f:q i=true
      ·rw[if_pos f]
       unfold aA;have:(i==j)=false:=by
        rw[qD];intro e;subst e;rw[f] at a;cases a
       rw[this,gF];exact b
      ·rw[if_neg f];exact b
    rw[this l] at h
    cases h
  |false=>
   rw[gF]
   cases a:q j with
   |true=>
    rw[a,if_pos rfl] at h;unfold aA at h;rw[d,gF] at h;exact b h
   |false=>
    rw[a,if_neg (by decide)] at h;exact b h
theorem BJ {L i:Nat} (b:i<HL) (h:fe true L i<HL):L<HL:=by
 unfold fe at h;rw[Fy] at h
 cases a:Nat.ble HL L with
 |true=>rw[a,iy] at h;omega
 |false=>
  refine Qy fun e=>?_
  rw[abV e] at a
  cases a
theorem DU: ∀(fr:af) (i:Nat) (b:List Nat) (s:St) (g:Gh),Inv E B G0 w0 s g a w→ ∃g',Inv E B G0 w0 (jh fr i b s) g' a w:=by
 intro fr;induction fr with
 |nil=>intro i b s g h;exact⟨g,h⟩
 |cons x fr c=>
  intro i b s g h
  cases x with
  |sl e sh l xs=>
   cases l with
   |none=>unfold jh;exact c _ _ _ _ h
   |some L=>
    unfold jh
    cases j:(b.contains L||L==fe true L i) with
    |true=>rw[iy];exact c _ _ _ _ h
    |false=>
     rw[gF]
     cases f:(s.bn (fe true L i)&&Nat.blt i HL) with
     |false=>rw[gF];exact c _ _ _ _ h
     |true=>
      rw[iy];rw[bL] at f;have d:L≠fe true L i:=by
       intro e;rw[Fv,qD] at j;exact j.2 e
      obtain⟨g',k⟩:=h.canon d (BJ (iJ f.2)) f.1;exact c _ _ _ _ k
  |_=>unfold jh;exact c _ _ _ _ h
theorem uQ (n L:Nat) (h:Inv E B G0 w0 s g a w): ∃g',Inv E B G0 w0 (BB n L s) g' a w:=by
 unfold BB
 cases d:(L==fe true L n||s.fr.any (fun v=>v.dG L)) with
 |true=>exact⟨g,h⟩
 |false=>
  rw[gF]
  cases c:(s.bn (fe true L n)&&Nat.blt n HL) with
  |false=>exact⟨g,h⟩
  |true=>
   rw[iy];rw[bL] at c;have b:L≠fe true L n:=by
    intro e;rw[Fv,qD] at d;exact d.1 e
   exact h.canon b (BJ (iJ c.2)) c.1
theorem LM (b:Nat): ∀(k:af) (i:Nat) (s:St) (g:Gh),Inv E B G0 w0 s g a w→ ∃g',Inv E B G0 w0 (lF b k i s) g' a w:=by
 intro k;induction k with
 |nil=>intro i s g h;exact⟨g,h⟩
 |cons x k d=>
  intro i s g h
  cases x with
  |sl e sh r xs=>
   cases r with
   |none=>unfold lF;exact d _ _ _ h
   |some L=>
    unfold lF
    cases o:(L==fe true L (b+i)||s.fr.any (fun v=>v.dG L)) with
    |true=>rw[iy];exact d _ _ _ h
    |false=>
     rw[gF]
     cases n:(s.bn (fe true L (b+i))&&Nat.blt (b+i) HL) with
     |false=>rw[gF];exact d _ _ _ h
     |true=>
      rw[iy];rw[bL] at n;have l:L≠fe true L (b+i):=by
       intro e;rw[Fv,qD] at o;exact o.1 e
      obtain⟨g',f⟩:=h.canon l (BJ (iJ n.2)) n.1;exact d _ _ _ f
  |slz L e sh xs o2 j c t q ys=>
   cases o2 with
   |none=>
    unfold lF;obtain⟨g',f⟩:=uQ (b+i) L h;exact d _ _ _ f
   |some L2=>
    unfold lF;obtain⟨g',f⟩:=uQ (b+i) L h;obtain⟨p,m⟩:=uQ (b+i+5000) L2 f;exact d _ _ _ m
  |_=>unfold lF;exact d _ _ _ h
theorem JC: ∀(bx:List (Nat×af)) (s:St) (g:Gh),Inv E B G0 w0 s g a w→ ∃g',Inv E B G0 w0 (Ak bx s) g' a w:=by
 intro bx;induction bx with
 |nil=>intro s g h;exact⟨g,h⟩
 |cons p bx c=>
  intro s g h;unfold Ak;obtain⟨g',b⟩:=LM _ _ 0 s g h;exact c _ _ b
theorem Inv.head (h:Inv E B G0 w0 s g a w) (b:List Nat): ∃g',Inv E B G0 w0 (BD b s) g' a w:=by
 unfold BD;rw[En];obtain⟨g1,d⟩:=DU (xQ b s.fr 0) 0 [] _ _ (h.less (EI b _ _ 0 h.fr) fun k e c=>zh (fun k=>!b.contains k||(xQ b s.fr 0).any (V.fO k)) _ _ _ c);exact JC _ _ _ d
end
theorem jr: ∀{m:List (Nat×Nat)} {k v:Nat},lk m k=some v→(k,v)∈m
 |[],k,v,h=>by cases h
 |(a,b)::m,k,v,h=>by
  unfold lk at h
  cases c:a==k with
  |true=>
   rw[c,iy] at h;simp only[aI] at h;obtain rfl:a=k:=by simpa using c
   subst h;exact vg
  |false=>
   rw[c,gF] at h;exact xE _ (jr h)
theorem qg: ∀(l:List Nat),oF l=true↔l.Nodup
 |[]=>by simp[oF]
 |a::l=>by
  unfold oF;rw[Xj,←qg l]
  cases b:l.contains a with
  |true=>simp at b;simp[b]
  |false=>simp at b;simp[b]
theorem r9: ∀{m:List (Nat×Nat)} {k v:Nat},(m.map (·.1)).Nodup→(k,v)∈m→lk m k=some v
 |[],k,v,_,h=>by cases h
 |(a,b)::m,k,v,d,h=>by
  rw[Aj,Xj] at d;unfold lk;rcases List.mem_cons.1 h with h|h
  ·simp only[bU] at h
   obtain⟨rfl,rfl⟩:=h;rw[Hl,iy]
  ·have c:a≠k:=fun e=>d.1 (List.mem_map.2 ⟨_,h,e.symm⟩)
   have:(a==k)=false:=by simpa using c
   rw[this,gF];exact r9 d.2 h
theorem O5 (m:List (Nat×Nat)):(eG m).map (·.1)=m.map (·.2):=by simp[eG,acI]
theorem mR {m:List (Nat×Nat)} {a b:Nat}:(a,b)∈eG m↔(b,a)∈m:=by
 unfold eG;rw[acS];constructor
 ·rintro⟨⟨x,y⟩,d,c⟩;simp only[bU] at c;obtain⟨rfl,rfl⟩:=c;exact d
 ·intro h;exact⟨_,h,rfl⟩
theorem jf {m:List (Nat×Nat)} {k v:Nat} (a:(m.map (·.2)).Nodup) (h:(k,v)∈m):lk (eG m) v=some k:=r9 (by rw[O5];exact a) (mR.2 h)
theorem wh {m:List (Nat×Nat)} {k v b:Nat} (c:(m.map (·.1)).Nodup) (h:(k,v)∈m) (d:(k,b)∈m):v=b:=by
 have a:=r9 c h;rw[r9 c d] at a;simp only[aI] at a;exact a.symm
theorem kH {g g':Gh} {mb ml:List (Nat×Nat)} (d:g'.G=g.G) (r: ∀L n,lk ml L=some n→g'.O n=g.O L) (t: ∀L n,lk ml L=some n→g'.C n=g.C L) (hβ: ∀k n,lk mb k=some n→g'.β n=g.β k) {x:V} {v:Value} (h:bA g x v):bA g' (sP mb ml x) v:=by
 cases x with
 |sl e sh A xs=>
  cases A with
  |none=>show aK g'.G _ _;rw[d];exact h
  |some L=>
   show bA g' (.sl e sh (lk ml L) xs) v;obtain⟨m,j⟩:=h
   cases hl:lk ml L with
   |none=>show aK g'.G _ _;rw[d];exact jZ j
   |some n=>exact⟨(r L n hl).trans m,by rw[d];exact j⟩
 |eptr _ _ _ _ _ _=>show aK g'.G .any v;unfold aK;trivial
 |epz _ _ _ _ _=>show aK g'.G .any v;unfold aK;trivial
 |slz L e sh xs o2 i c s o ys=>
  show bA g' (match lk ml L with|some L'=> .slz L' e sh xs (o2.bind (lk ml)) i c s o ys|none=> .any) v;obtain⟨l,m,j,h3,u⟩:=h
  cases hl:lk ml L with
  |none=>show aK g'.G .any v;unfold aK;trivial
  |some n=>
   refine⟨l,(r L n hl).trans m,(t L n hl).trans j,⟨h3.1,h3.2.1,by rw[d];exact h3.2.2⟩,?_⟩
   cases o2 with
   |none=>trivial
   |some L2=>
    show oZ g' l sh.length (lk ml L2) i c s o ys;obtain⟨z,w,D,y⟩:=u
    cases q:lk ml L2 with
    |none=>trivial
    |some B=>exact⟨z,(r L2 B q).trans w,by rw[d];exact D,y⟩
 |box k off=>
  show bA g' (match lk mb k with|some k'=> .box k' off|none=> .any) v;obtain⟨b,m,j⟩:=h
  cases hl:lk mb k with
  |none=>show aK g'.G .any v;unfold aK;trivial
  |some n=>exact⟨b,(hβ k n hl).trans m,j⟩
 |fn f p=>
  cases p with
  |nil=>show aK g'.G _ _;rw[d];exact h
  |cons a c=>show aK g'.G .any v;unfold aK;trivial
 |old x=>
  show bA g' (bif x.eH then x else .any) v
  cases x.eH
  ·show aK g'.G .any v;unfold aK;trivial
  ·exact Jm h.2.2 (by rw[d];exact h.2.1)
 |_=>show aK g'.G _ _;rw[d];exact h
theorem rq {mb ml:List (Nat×Nat)} {x:V} (hx:x.single=true) (d: ∀f c,x≠.fn f c) (g: ∀y,x≠.old y:=by intro y e;cases e):(sP mb ml x).single=true:=by
 cases x with
 |sl e sh h xs=>cases h<;>rfl
 |box k off=>show(match lk mb k with|some k'=>V.box k' off|none=>V.any).single=true;cases lk mb k<;>rfl
 |slz L e sh xs o2 i c b a ys=>show(match lk ml L with|some L'=>V.slz L' e sh xs (o2.bind (lk ml)) i c b a ys|none=>V.any).single=true;cases lk ml L<;>rfl
 |tup _=>cases hx
 |fn f c=>exact absurd rfl (d f c)
 |old y=>exact absurd rfl (g y)
 |_=>rfl
theorem Cb {g g':Gh} {mb ml:List (Nat×Nat)} (b:g'.G=g.G) (j: ∀L n,lk ml L=some n→g'.O n=g.O L) (d: ∀L n,lk ml L=some n→g'.C n=g.C L) (hβ: ∀k n,lk mb k=some n→g'.β n=g.β k) {x:V} {v:Value} (h:aG g x v):aG g' (x.ren mb ml) v:=by
 cases x with
 |tup vs=>
  obtain⟨a,rfl,h⟩:=h;exact⟨a,rfl,dQ h fun y _ v q=>kH b j d hβ q⟩
 |fn f m=>
  cases m with
  |nil=>obtain⟨a,rfl,h⟩:=h;exact⟨[],by rw[h.bR],.nil⟩
  |cons a c=>exact gI
 |sl e sh p xs=>exact bq (rq (x:=.sl e sh p xs) rfl (by intro f c e;cases e)) (kH b j d hβ (aP (x:=.sl e sh p xs) rfl h))
 |box k off=>exact bq (rq (ml:=ml) (x:=.box k off) rfl (by intro f c e;cases e)) (kH b j d hβ (aP (x:=.box k off) rfl h))
 |eptr _ _ _ _ _ _=>exact gI
 |epz _ _ _ _ _=>exact gI
 |slz L e sh xs o2 i c o l ys=>exact bq (rq (mb:=mb) (x:=.slz L e sh xs o2 i c o l ys) rfl (by intro f c e;cases e)) (kH b j d hβ (aP (x:=.slz L e sh xs o2 i c o l ys) rfl h))
 |old x=>
  show aG g' (bif x.eH then x else .any) v
  cases x.eH
  ·exact gI
  ·exact bI h.2.2 (by rw[b];exact h.2.1)
 |_=>simp only[aG] at h;exact kH (x:=_) b j d hβ h
theorem gN {a:Nat→Nat→Nat}: ∀(i:Nat) (l:af) (p:Nat×Nat),p∈nU a i l→ ∃j,p.2=a p.1 j
 |i,[],p,h=>by cases h
 |i,x::l,p,h=>by
  cases x with
  |sl e sh d xs=>
   cases d with
   |none=>exact gN (i+1) l p h
   |some L=>
    rcases List.mem_cons.1 h with h|h
    ·subst h;exact⟨i,rfl⟩
    ·exact gN (i+1) l p h
  |slz L e sh xs o2 j c f b ys=>
   cases o2 with
   |none=>
    rcases List.mem_cons.1 h with h|h
    ·subst h;exact⟨i,rfl⟩
    ·exact gN (i+1) l p h
   |some L2=>
    rcases List.mem_cons.1 h with h|h
    ·subst h;exact⟨i,rfl⟩
    ·rcases List.mem_cons.1 h with h|h
     ·subst h;exact⟨i+500,rfl⟩
     ·exact gN (i+1) l p h
  |_=>exact gN (i+1) l p h
theorem SK {bx:List (Nat×af)} {j:Nat} {x:V} {p:Nat×Nat} (h:p∈(oV bx j x).1):p.2=HL+j∧ ∃a,aA bx p.1=some a:=by
 cases x with
 |box k off=>
  unfold oV at h;simp only at h;split at h
  ·rename_i a c
   simp only[UK] at h;subst h;exact⟨rfl,a,c⟩
  ·cases h
 |sl e sh b xs=>cases b<;>cases h
 |_=>cases h
theorem sj {bx:List (Nat×af)}: ∀(vs:af) (j:Nat) {p:Nat×Nat},p∈(dX bx j vs).1→(∃a,j≤a∧p.2=HL+a)∧ ∃d,aA bx p.1=some d
 |[],j,p,h=>by cases h
 |x::vs,j,p,h=>by
  unfold dX at h;rcases List.mem_append.1 h with h|h
  ·obtain⟨c,b⟩:=SK h;exact⟨⟨j,iI _,c⟩,b⟩
  ·obtain⟨⟨a,c,b⟩,h3⟩:=sj vs (j+1) h;exact⟨⟨a,by omega,b⟩,h3⟩
theorem SL {bx:List (Nat×af)} {j:Nat} {x:V} {p:Nat×Nat} (h:p∈(oV bx j x).2):HL≤p.2:=by
 cases x with
 |box k off=>
  unfold oV at h;simp only at h;split at h
  ·obtain⟨i,b⟩:=gN _ _ _ h
   omega
  ·cases h
 |sl e sh a xs=>
  cases a with
  |none=>cases h
  |some L=>
   simp only[oV,UK] at h;subst h;simp only;omega
 |_=>cases h
theorem EJ {bx:List (Nat×af)}: ∀(vs:af) (j:Nat) {p:Nat×Nat},p∈(dX bx j vs).2→HL≤p.2
 |[],j,p,h=>by cases h
 |x::vs,j,p,h=>by
  unfold dX at h;rcases List.mem_append.1 h with h|h
  ·exact SL h
  ·exact EJ vs (j+1) h
theorem uR {x y:V} (h:x.deep=some y) (j:Nat):Rc j y=y∧y.vw=false:=by
 cases x with
 |fn f c=>cases c<;>simp[V.deep] at h;subst h;exact⟨rfl,rfl⟩
 |_=>simp[V.deep] at h<;>subst h<;>exact⟨rfl,rfl⟩
theorem tV {bx:List (Nat×af)}: ∀(a b:af) (j:Nat),(dX bx j (a++b)).1=(dX bx j a).1++(dX bx (j+a.length) b).1
 |[],b,j=>by simp[dX]
 |x::a,b,j=>by
  have e: ∀v l j,(dX bx j (v::l)).1=(oV bx j v).1++(dX bx (j+1) l).1:=fun _ _ _=>rfl
  rw[Om,e,e,tV a b (j+1),Kj,fQ,show j+1+a.length=j+(a.length+1) by omega]
theorem oH {bx:List (Nat×af)} {MB ML:List (Nat×Nat)}: ∀(b a args:af),fH bx MB ML (b++a)=some args→ ∃A H,args=A++H∧fH bx MB ML b=some A∧fH bx MB ML a=some H
 |[],a,args,h=>⟨[],args,rfl,rfl,h⟩
 |x::b,a,args,h=>by
  rw[Om] at h;unfold fH at h;split at h
  ·rename_i y ys e c
   simp only[aI] at h;subst h;obtain⟨A,H,rfl,f,d⟩:=oH b a ys c;refine⟨y::A,H,rfl,?_,d⟩;unfold fH;rw[e,f]
  ·cases h
theorem ru: ∀(a:af),∀x∈iP a,∃k,x=.box k U6
 |[],x,h=>by cases h
 |v::a,x,h=>by
  unfold iP at h;rcases List.mem_append.1 h with h|h
  ·split at h
   ·obtain⟨c,_,b⟩:=List.mem_filterMap.1 h
    split at b
    ·rename_i k d
     exact⟨k,(Option.some.inj b).symm⟩
    ·cases b
   ·cases h
  ·exact ru a x h
theorem F8 {bx:List (Nat×af)} {MB ML:List (Nat×Nat)}: ∀(c H:af),(∀x∈c,∃k,x=.box k U6)→fH bx MB ML c=some H→ ∀y∈H,qI y=true
 |[],H,_,h,y,b=>by
  simp only[fH,aI] at h;subst h
  cases b
 |x::c,H,hx,h,y,b=>by
  obtain⟨k,rfl⟩:=hx x vg;unfold fH at h;split at h
  ·rename_i z e a d
   simp only[aI] at h;subst h;rcases List.mem_cons.1 b with rfl|b
   ·unfold qJ at a
    simp only at a;split at a
    ·simp only[aI] at a
     subst a;rfl
    ·cases a
   ·exact F8 c e (fun x h=>hx x (xE _ h)) d y b
  ·cases h
theorem CO: ∀(A H:af) (j:Nat),(∀y∈H,qI y=true)→bF j (A++H)=bF j A
 |[],H,j,h=>by
  rw[Oo];induction H generalizing j with
  |nil=>rfl
  |cons y H b=>
   unfold bF;rw[h y vg,iy,b (j+1) fun z c=>h z (xE _ c)];rfl
 |a::A,H,j,h=>by
  rw[Om];unfold bF;rw[CO A H (j+1) h]
theorem VF {H:af} (h: ∀y∈H,qI y=true) (a:gG H=false):H=[]:=by
 cases H with
 |nil=>rfl
 |cons y H=>
  have:=h y vg;unfold gG at a;rw[X8,Fv] at a
  cases y with
  |bxa _ _=>cases a.1
  |_=>cases this
theorem EK {g gi:Gh} {bx:List (Nat×af)} {MB ML:List (Nat×Nat)} (B:gi.G=g.G) (E: ∀L n,lk ML L=some n→gi.O n=g.O L) (H: ∀L n,lk ML L=some n→gi.C n=g.C L) (hβ: ∀k n,(k,n)∈MB→gi.β n=g.β k):
  ∀(o args:af) (vs:List Value) (j:Nat),o.any FJ=false→fH bx MB ML o=some args→(∀p∈(dX bx j o).1,p∈MB)→(∀k n,lk MB k=some n→(k,n)∈MB)→PW (FE g) o vs→PW (aG gi) (bF j args) vs
 |[],args,vs,j,_,h,_,_,A=>by
  simp only[fH,aI] at h;subst h;rw[A.bR];exact .nil
 |x::o,args,vs,j,m,h,N,s,A=>by
  rw[X8,Fv] at m;obtain⟨v,t,rfl,q,P⟩:=A.cons_inv;unfold fH at h;split at h
  ·rename_i y ys d F
   simp only[aI] at h;subst h;have I:qI y=false:=by
    cases x with
    |box k off=>
     unfold qJ at d;simp only at d;split at d
     ·simp only[aI] at d
      subst d;exact m.1
     ·cases d
    |sl e sh K xs=>
     cases K with
     |none=>simp only[qJ,V.deep,aI] at d;subst d;rfl
     |some L=>simp only[qJ,aI] at d;subst d;rfl
    |fn f c=>
     cases c with
     |nil=>simp only[qJ,V.deep,aI] at d;subst d;rfl
     |cons c l=>obtain⟨_,d⟩:=aC (show(bif Nat.blt f ul&&uq (c::l) then some (V.fn f ((c::l).map (sP MB ML))) else none)=some y from d);simp only[aI] at d;subst d;rfl
    |_=>simp[qJ,V.deep] at d<;>subst d<;>rfl
   unfold bF;rw[I,gF];refine .cons ?_ (EK B E H hβ o ys t (j+1) m.2 F (fun p A=>N p (by unfold dX;exact List.mem_append_right _ A)) s P);have hβ': ∀k n,lk MB k=some n→gi.β n=g.β k:=fun k n hl=>hβ k n (s k n hl)
   have w: ∀z,FE g z v→(∀f c,z≠.fn f c)→(∀vs,z≠.tup vs)→bA g z v:=fun z r W Q=>r.elim (fun r=>aP (by cases z<;>first|rfl|exact absurd rfl (Q _)|exact absurd rfl (W _ _)) r) id
   have i:x.deep=some y→aG gi (Rc j y) v:=by
    intro D;rw[(uR D j).1];refine bI (iV D) ?_;rw[B];exact q.elim (fun h=>mg h D) (fun h=>xZ h D)
   cases x with
   |box k off=>
    unfold qJ at d;simp only at d;split at d
    ·rename_i l J
     simp only[aI] at d;subst d;show aG gi (.box (HL+j) off) v;obtain⟨b,R,S⟩:=w _ q (by intro f c e;cases e) (by intro vs e;cases e);refine dH.2 ⟨b,?_,S⟩;rw[hβ k (HL+j) (N _ (by unfold dX oV;simp only[J];exact acp _ (List.mem_singleton.2 rfl)))];exact R
    ·cases d
   |sl e sh K xs=>
    cases K with
    |none=>exact i d
    |some L=>
     have d:some (sP MB ML (.sl e sh (some L) xs))=some y:=d;simp only[aI] at d;subst d;show aG gi (.sl e sh (lk ML L) xs) v;exact bq rfl (kH (x:=.sl e sh (some L) xs) B E H hβ' (w _ q (by intro f c e;cases e) (by intro vs e;cases e)))
   |fn f c=>
    cases c with
    |nil=>exact i d
    |cons c l=>
     obtain⟨U,d⟩:=aC (show(bif Nat.blt f ul&&uq (c::l) then some (V.fn f ((c::l).map (sP MB ML))) else none)=some y from d);simp only[aI] at d;subst d;show aG gi (.fn f ((c::l).map (sP MB ML))) v;have q:aG g (.fn f (c::l)) v:=q.elim id fun h=>by
      have h:aK g.G (.fn f (c::l)) v:=h;unfold aK at h;exact absurd h.2 (by simp)
     obtain⟨a,T,M⟩:=q;exact⟨a,T,dQ M fun z _ u r=>kH B E H hβ' r⟩
   |_=>exact i d
  ·cases h
theorem pI {bx:List (Nat×af)} {MB ML:List (Nat×Nat)}: ∀(m args:af) (j:Nat),fH bx MB ML m=some args→ ∀l b,aA (dF j args) l=some b→ ∃k g,(k,l)∈(dX bx j m).1∧aA bx k=some g∧b=g.map (V.ren MB ML)
 |[],args,j,h,l,b,hl=>by
  simp only[fH,aI] at h;subst h
  cases hl
 |x::m,args,j,h,l,b,hl=>by
  unfold fH at h;split at h
  ·rename_i y ys d p
   simp only[aI] at h;subst h;have i:aA (dF (j+1) ys) l=some b→ ∃k g,(k,l)∈(dX bx j (x::m)).1∧aA bx k=some g∧b=g.map (V.ren MB ML):=by
    intro hl;obtain⟨k,g,s,r⟩:=pI m ys (j+1) p l b hl;exact⟨k,g,by unfold dX;exact List.mem_append_right _ s,r⟩
   have a:x.deep=some y→ ∃k g,(k,l)∈(dX bx j (x::m)).1∧aA bx k=some g∧b=g.map (V.ren MB ML):=by
    intro q;have:=(uR q j).2;refine i ?_
    cases y with
    |bxa _ _=>cases this
    |_=>exact hl
   cases x with
   |box k off=>
    unfold qJ at d;simp only at d;split at d
    ·rename_i g n
     simp only[aI] at d;subst d;unfold dF aA at hl
     cases o:HL+j==l with
     |true=>
      rw[o,iy] at hl;simp only[aI] at hl;obtain rfl:HL+j=l:=by simpa using o
      exact⟨k,g,by unfold dX oV;simp only[n];exact acp _ (List.mem_singleton.2 rfl),n,hl.symm⟩
     |false=>
      rw[o,gF] at hl;exact i hl
    ·cases d
   |sl e sh t xs=>
    cases t with
    |none=>exact a d
    |some L=>
     have d:some (sP MB ML (.sl e sh (some L) xs))=some y:=d;simp only[aI] at d;subst d;exact i hl
   |fn f c=>
    cases c with
    |nil=>exact a d
    |cons c g=>
     obtain⟨_,d⟩:=aC (show(bif Nat.blt f ul&&uq (c::g) then some (V.fn f ((c::g).map (sP MB ML))) else none)=some y from d);simp only[aI] at d;subst d;exact i hl
   |_=>exact a d
  ·cases h
theorem uS {bx:List (Nat×af)} {MB ML:List (Nat×Nat)}: ∀(m args:af) (j:Nat) (bs:List (af)),fH bx MB ML m=some args→ ∀(i:Nat) k l g,(dX bx j m).1[i]? =some (k,l)→bs[i]? =some g→aA (eY j args bs) l=some g
 |[],args,j,bs,h,i,k,l,g,d,_=>by simp[dX] at d
 |x::m,args,j,bs,h,i,k,l,g,d,n=>by
  unfold fH at h;split at h
  ·rename_i y ys b o
   simp only[aI] at h;subst h;unfold dX at d;have plain:(oV bx j x).1=[]→eY j (y::ys) bs=eY (j+1) ys bs→aA (eY j (y::ys) bs) l=some g:=by
    intro q u;rw[q] at d;rw[u];exact uS m ys (j+1) bs o i k l g d n
   have a:x.deep=some y→(oV bx j x).1=[]→aA (eY j (y::ys) bs) l=some g:=by
    intro r q;have:=(uR r j).2;refine plain q ?_
    cases y with
    |bxa _ _=>cases this
    |_=>rfl
   cases x with
   |box A off=>
    unfold qJ at b;simp only at b;split at b
    ·rename_i t p
     simp only[aI] at b;subst b;unfold oV at d;simp only[p] at d
     cases bs with
     |nil=>simp at n
     |cons C bs=>
      cases i with
      |zero=>
       simp only[Om,Oo,Dt,aI,bU] at d n;obtain⟨rfl,rfl⟩:=d;subst n;unfold eY aA;rw[Hl,iy]
      |succ i=>
       simp only[Om,Oo,ZZ] at d n;have w:=Dp d;obtain⟨⟨z,B,s⟩,_⟩:=sj m (j+1) w;unfold eY aA;have:(HL+j==l)=false:=by
        rw[qD];simp only at s;omega
       rw[this,gF];exact uS m ys (j+1) bs o i k l g d n
    ·cases b
   |sl e sh v xs=>
    cases v with
    |none=>exact a b rfl
    |some L=>
     have b:some (sP MB ML (.sl e sh (some L) xs))=some y:=b;simp only[aI] at b;subst b;exact plain rfl rfl
   |fn f c=>
    cases c with
    |nil=>exact a b rfl
    |cons c g=>
     obtain⟨_,b⟩:=aC (show(bif Nat.blt f ul&&uq (c::g) then some (V.fn f ((c::g).map (sP MB ML))) else none)=some y from b);simp only[aI] at b;subst b;exact plain rfl rfl
   |_=>exact a b rfl
  ·cases h
theorem yA {E:Env} {B:Own} {G0:aJ} {w0:World} {a:Act} {w:World}: ∀(l:List Nat) (s:St) (g:Gh),Inv E B G0 w0 s g a w→
  ∃g',g'.G=g.G∧g'.β=g.β∧(∀k,k∈l→g'.O k=none)∧(∀k,k∉l→g'.O k=g.O k)∧g'.G1=g.G1∧g'.C=g.C∧Inv E B G0 w0 (nV s l) g' a w
 |[],s,g,h=>⟨g,rfl,rfl,(fun k b=>absurd b (by simp)),(fun _ _=>rfl),rfl,rfl,h⟩
 |L::l,s,g,h=>by
  obtain⟨g',f,d,h3,c,e,i,j⟩:=yA l (s.kill L) _ (h.kill L);refine⟨g',f,d,fun k b=>?_,fun k b=>?_,e,i,j⟩
  ·by_cases hl:k∈l
   ·exact h3 k hl
   ·rw[c k hl]
    rcases List.mem_cons.1 b with rfl|b
    ·exact if_pos rfl
    ·exact absurd b hl
  ·rw[ZK,not_or] at b
   rw[c k b.2];exact if_neg b.1
theorem ng: ∀(l:List Nat) (s:St) (k:Nat),(∃a,aA (nV s l).bx k=some a)↔ ∃a,aA s.bx k=some a
 |[],s,k=>Iff.rfl
 |L::l,s,k=>by
  unfold nV;rw[ng l,mh]
  cases aA s.bx k<;>simp
theorem CP (k:Nat) (b:af): ∀(l:List (Nat×af)) (j:Nat),(∃a,aA (gm l k b) j=some a)↔ ∃a,aA l j=some a
 |[],j=>Iff.rfl
 |(i,a)::l,j=>by
  unfold gm
  cases c:i==k with
  |true=>
   rw[iy];unfold aA;obtain rfl:i=k:=by simpa using c
   cases i==j<;>simp
  |false=>
   rw[gF];unfold aA
   cases i==j with
   |true=>simp
   |false=>exact CP k b l j
theorem CQ {mb ml:List (Nat×Nat)}: ∀(l:List (Nat×Nat)) (bs:List (af)) (bx:List (Nat×af)),bs.length=l.length→(l.map (·.1)).Nodup→(∀p∈l,∃old,aA bx p.1=some old)→ ∀k,
  (∃(i:Nat) (q:Nat) (m:af),l[i]? =some (k,q)∧bs[i]? =some m∧aA (Ef mb ml l bs bx) k=some (m.map (V.ren mb ml)))∨((∀p∈l,p.1≠k)∧aA (Ef mb ml l bs bx) k=aA bx k)
 |[],bs,bx,_,_,_,k=> .inr ⟨(fun p g=>absurd g (by simp)),by cases bs<;>rfl⟩
 |(a,b)::l,[],bx,hl,_,_,k=>by simp at hl
 |(a,b)::l,c::bs,bx,hl,r,s,k=>by
  rw[Aj,Xj] at r;obtain⟨old,d⟩:=s (a,b) vg;have d:aA bx a=some old:=d;have f:=fun j=>mZ bx a j (c.map (V.ren mb ml)) old d
  unfold Ef;rcases CQ l bs (gm bx a (c.map (V.ren mb ml))) (by simpa using hl) r.2 (fun p g=>(CP _ _ bx p.1).2 (s p (xE _ g))) k with⟨i,q,m,o,h,h3⟩|⟨o,h⟩
  ·exact .inl ⟨i+1,q,m,by simpa using o,by simpa using h,h3⟩
  ·by_cases n:k=a
   ·subst n
    refine .inl ⟨0,b,c,rfl,rfl,?_⟩;rw[h,f k,if_pos rfl]
   ·refine .inr ⟨fun p g=>?_,?_⟩
    ·rcases List.mem_cons.1 g with rfl|g
     ·exact fun e=>n e.symm
     ·exact o p g
    ·rw[h,f k,if_neg n]
theorem oo: ∀(l:List (Nat×Nat)) (a:List Nat),((mM a l).map (·.1)).Nodup∧ ∀p∈mM a l,p∈l∧p.1∉a
 |[],a=>⟨List.nodup_nil,(fun p b=>absurd b (by simp[mM]))⟩
 |(L,n)::l,a=>by
  unfold mM
  cases f:a.contains L with
  |true=>
   rw[iy];obtain⟨d,c⟩:=oo l a;exact⟨d,fun p b=>⟨xE _ (c p b).1,(c p b).2⟩⟩
  |false=>
   rw[gF];obtain⟨d,c⟩:=oo l (L::a);simp at f;refine⟨?_,fun p b=>?_⟩
   ·rw[Aj,Xj]
    refine⟨fun g=>?_,d⟩;obtain⟨p,b,h⟩:=List.mem_map.1 g;exact(c p b).2 (by rw[h];exact vg)
   ·rcases List.mem_cons.1 b with rfl|b
    ·exact⟨vg,f⟩
    ·obtain⟨h3,i⟩:=c p b
     exact⟨xE _ h3,fun e=>i (xE _ e)⟩
theorem EL {any:Bool} {d:Nat} {x:V}: ∀(mb:List (Nat×Nat)) (bs:List (af)) (p:Nat×Nat),p∈Bi any d x mb bs→ ∃i,p.2=fe any p.1 i
 |[],bs,p,h=>by
  have h:p∈nU (fun L i=>fe any L (match i with|0=>d|_=>d+1000*i)) 0 (xM x):=by cases bs<;>exact h
  obtain⟨j,a⟩:=gN _ _ _ h;exact⟨_,a⟩
 |(k,b)::mb,[],p,h=>by
  have h:p∈nU (fun L i=>fe any L (match i with|0=>d|_=>d+1000*i)) 0 (xM x):=h;obtain⟨j,a⟩:=gN _ _ _ h;exact⟨_,a⟩
 |(k,b)::mb,c::bs,p,h=>by
  unfold Bi at h;rcases List.mem_append.1 h with h|h
  ·obtain⟨j,a⟩:=gN _ _ _ h
   exact⟨_,a⟩
  ·exact EL mb bs p h
section
variable {E:Env} {B:Own} {G0:aJ} {w0:World} {s:St} {g:Gh} {a:Act} {w:World}
def tK (g:Gh) (w:World) (mb ml:List (Nat×Nat)):Own where
 m:=fun b=>(∃k a,(k,a)∈mb∧g.β k=some b)∨(∃L n v e c,(L,n)∈ml∧g.O L=some (v,e,c)∧v.ownBlock=some b)∨w.heap.size≤b
 n:=w.heap.size
 β:=fun a=>match lk (eG mb) a with|some k=>g.β k|none=>none
 df:=[]
def nX (g:Gh) (mb ml:List (Nat×Nat)):Gh where
 G:=g.G
 O:=fun n=>match lk (eG ml) n with|some L=>g.O L|none=>none
 β:=fun a=>match lk (eG mb) a with|some k=>g.β k|none=>none
 G1:=g.G
 C:=fun n=>match lk (eG ml) n with|some L=>g.C L|none=>none
theorem zi: ∀{l:List (Nat×Nat)},tH l=false→ ∀{L n:Nat},(L,n)∈l→L<HL
 |[],_,L,n,h=>by cases h
 |(a,b)::l,h,L,n,c=>by
  unfold tH at h;rw[Fv] at h;rcases List.mem_cons.1 c with c|c
  ·simp only[bU] at c
   rw[c.1];refine Qy fun e=>?_
   rw[abV e] at h
   cases h.1
  ·exact zi h.2 c
theorem zk {mb ml:List (Nat×Nat)} (h:mI mb ml=true):(mb.map (·.1)).Nodup∧(mb.map (·.2)).Nodup∧(ml.map (·.1)).Nodup∧(ml.map (·.2)).Nodup:=by
 unfold mI at h;simp only[bL,qg] at h;exact⟨h.1.1.1,h.1.1.2,h.1.2,h.2⟩
theorem rz {bx:List (Nat×af)} {a args:af} {mb ml:List (Nat×Nat)} (h:mJ bx 0 a=some (args,mb,ml)):mb=(dX bx 0 (a++iP a)).1∧ml=(dX bx 0 (a++iP a)).2∧fH bx mb ml (a++iP a)=some args∧a.any FJ=false:=by
 unfold mJ at h
 cases b:a.any FJ with
 |true=>rw[b] at h;cases h
 |false=>
  rw[b,gF] at h;unfold M3 at h;split at h
  ·rename_i x hx
   simp only[aI,bU] at h;obtain⟨rfl,rfl,rfl⟩:=h;exact⟨rfl,rfl,hx,rfl⟩
  ·cases h
theorem Y5 (h:Inv E B G0 w0 s g a w) {mb ml:List (Nat×Nat)} (u: ∀p∈mb,∃i,aA s.bx p.1=some i): ∀b,(tK g w mb ml).m b→B.m b:=by
 rintro b (⟨k,A,x,c⟩|⟨L,n,v,e,q,hL,z,c⟩|c)
 ·obtain⟨i,y⟩:=u _ x
  obtain⟨t,_,_,j,r,_⟩:=h.bxs.1 k i y;rw[c] at j;simp only[aI] at j;rw[j];exact r
 ·rcases(h.own.1 L v e q z).2 with f|⟨t,n,cap,o,l,f,d,_⟩
  ·rw[f] at c;cases c
  ·rw[f] at c
   simp only[Value.ownBlock,aI] at c;rw[←c];exact d.1
 ·exact h.hB.2 b c
theorem ni (h:Inv E B G0 w0 s g a w) {f args:af} {vs:List Value} {mb ml:List (Nat×Nat)} (z:PW (FE g) f vs) (ho:mJ s.bx 0 f=some (args,mb,ml)) (hn:mI mb ml=true):
  Inv E (tK g w mb ml) g.G w ⟨bF 0 args,dF 0 args⟩ (nX g mb ml) ⟨vs.toArray,[]⟩ w:=by
 obtain⟨n1,n2,n3,n4⟩:=zk hn;obtain⟨N,e2,I,Q⟩:=rz ho;have hm: ∀p∈mb,(∃j,p.2=HL+j)∧ ∃F,aA s.bx p.1=some F:=fun p z=>by
  rw[N] at z;obtain⟨⟨j,_,hj⟩,hc⟩:=sj (f++iP f) 0 z;exact⟨⟨j,hj⟩,hc⟩
 have hl: ∀p∈ml,HL≤p.2:=fun p z=>by rw[e2] at z;exact EJ (f++iP f) 0 z
 have hO: ∀L n,lk ml L=some n→(nX g mb ml).O n=g.O L:=fun L n hl=>by
  show(match lk (eG ml) n with|some L=>g.O L|none=>none)=_;rw[jf n4 (jr hl)]
 have hC: ∀L n,lk ml L=some n→(nX g mb ml).C n=g.C L:=fun L n hl=>by
  show(match lk (eG ml) n with|some L=>g.C L|none=>none)=_;rw[jf n4 (jr hl)]
 have hC2: ∀L n,(L,n)∈ml→(nX g mb ml).C n=g.C L:=fun L n hl=>by
  show(match lk (eG ml) n with|some L=>g.C L|none=>none)=_;rw[jf n4 hl]
 have hβ: ∀k n,(k,n)∈mb→(nX g mb ml).β n=g.β k:=fun k n hl=>by
  show(match lk (eG mb) n with|some L=>g.β L|none=>none)=_;rw[jf n2 hl]
 have d: ∀n x,(nX g mb ml).O n=some x→ ∃L,(L,n)∈ml∧g.O L=some x:=fun n x hx=>by
  have hx:(match lk (eG ml) n with|some L=>g.O L|none=>none)=some x:=hx;split at hx
  ·rename_i L hL;exact⟨L,mR.1 (jr hL),hx⟩
  ·cases hx
 refine⟨?_,rfl,h.gok,⟨fun n v e K J=>?_,fun n n' v v' e e' K Y b o t i hb'=>?_⟩,⟨fun u r q=>?_,fun k u F r hk q i=>?_⟩,.refl _ _,⟨iI _,fun b i=> .inr (.inr i)⟩,⟨fun _ _=>rfl,.refl _,fun _ _=>rfl⟩,⟨h.fB,fun b l i=>eU h.gok i⟩,.refl _,fun u r n v e K b q J i Xq=>?_⟩
 ·show PW (aG (nX g mb ml)) (bF 0 args) vs.toArray.toList
  rw[ab6];obtain⟨A,H,rfl,hA,hH⟩:=oH f (iP f) args I;rw[CO A H 0 (F8 (iP f) H (ru f) hH)];exact EK (g:=g) (gi:=nX g mb ml) rfl hO hC hβ f A vs 0 Q hA (fun p z=>by rw[N,tV];exact acp _ z) (fun k n=>jr) z
 ·obtain⟨L,hL,hx⟩:=d n _ J
  obtain⟨o,t⟩:=h.own.1 L v e K hx;refine⟨o,t.imp id ?_⟩;rintro⟨b,m,cap,U,l,P,i,hh,X,S,hcs,D,W⟩;refine⟨b,m,cap,U,l,P,⟨.inr (.inl ⟨L,n,v,e,K,hL,hx,by rw[P];rfl⟩),fun hlt=>?_⟩,hh,X,S,hcs,by
   unfold kX at D⊢;rw[hC2 L n hL];exact D,W⟩
  have:=hl _ hL;simp only at this;omega
 ·obtain⟨L,hL,hx⟩:=d n _ o
  obtain⟨L',hL',R⟩:=d n' _ t;have:=h.own.2 L L' v v' e e' K Y b hx R i hb';subst this;exact wh n3 hL hL'
 ·obtain⟨k,F,o,t,rfl⟩:=pI (f++iP f) args 0 I u r q
  rw[←N] at o;obtain⟨b,c,e,i,hBb,hh,T,M,hG,Z⟩:=h.bxs.1 k F t;exact⟨b,c,e,(hβ k u o).trans i,.inl ⟨k,u,o,i⟩,hh,dQ T fun y _ v I=>Cb (g:=g) (g':=nX g mb ml) rfl hO hC (fun k n hl=>hβ k n (jr hl)) I,M,hG,jA (BX _ _) Z⟩
 ·obtain⟨k1,cs1,o,t,_⟩:=pI (f++iP f) args 0 I k F hk
  obtain⟨k2,cs2,h3,h4,_⟩:=pI (f++iP f) args 0 I u r q;rw[←N] at o h3;rw[hβ k1 k o,hβ k2 u h3] at i;have:=h.bxs.2 k1 k2 cs1 cs2 t h4 i;subst this;exact wh n1 o h3
 ·obtain⟨L,hL,hx⟩:=d n _ J
  obtain⟨k,F,o,t,_⟩:=pI (f++iP f) args 0 I u r q;rw[←N] at o;rw[hβ k u o] at Xq;exact h.zb k F L v e K b t hx i Xq
theorem yB (h:Inv E B G0 w0 s g a w) {as args:af} {mb ml:List (Nat×Nat)} (ho:mJ s.bx 0 as=some (args,mb,ml)) (hn:mI mb ml=true) {d:Option Nat} {x:V} {bs:List (af)} {s':St} (hs:mO s d mb ml x bs=some s')
  {g1:Gh} {v:Value} {w':World} (hx:Inv E (tK g w mb ml) g.G w ⟨[x],eY 0 args bs⟩ g1 ⟨#[v],[]⟩ w'):
  ∃g2,Inv E B G0 w0 s' g2 (a.put d v) w':=by
 obtain⟨n1,n2,n3,n4⟩:=zk hn;obtain⟨e1,e2,hv,hnoh⟩:=rz ho;have hm: ∀p∈mb,(∃j,p.2=HL+j)∧ ∃N,aA s.bx p.1=some N:=fun p hp=>by
  rw[e1] at hp;obtain⟨⟨j,_,hj⟩,hc⟩:=sj (as++iP as) 0 hp;exact⟨⟨j,hj⟩,hc⟩
 unfold mO at hs;have YG:=oo (Bi (tH ml) (dOr d) x mb bs) [];have hcls: ∀p∈mM [] (Bi (tH ml) (dOr d) x mb bs),∃i,p.2=fe (tH ml) p.1 i:=fun p hp=>EL mb bs p (YG.2 p hp).1
 have n6:=YG.1;clear YG;generalize mM [] (Bi (tH ml) (dOr d) x mb bs)=Dr at hs hcls n6;unfold M4 at hs;obtain⟨hc,hs⟩:=aC hs;rw[bL,qg,ig] at hc;obtain⟨n5,hlen⟩:=hc;simp only[aI] at hs;obtain⟨ga,ga1,ga2,ga3,ga4,ga5,ga6,ha⟩:=yA (ml.map (·.1)) s g h;obtain⟨Y,gb1,gb2,gb3,gb4,gb5,gb6,hb⟩:=yA (Dr.map (·.2)) _ ga ha;have z: ∀L x,Y.O L=some x→g.O L=some x∧(∀n,(L,n)∉ml)∧ ∀n,(n,L)∉Dr:=by
  intro L x hL;by_cases r:L∈Dr.map (·.2)
  ·rw[gb3 L r] at hL;cases hL
  ·rw[gb4 L r] at hL
   by_cases M:L∈ml.map (·.1)
   ·rw[ga3 L M] at hL;cases hL
   ·rw[ga4 L M] at hL
    exact⟨hL,fun n hn=>M (List.mem_map.2 ⟨_,hn,rfl⟩),fun n hn=>r (List.mem_map.2 ⟨_,hn,rfl⟩)⟩
 have hbxm: ∀k N b,aA s.bx k=some N→(∀p∈mb,p.1≠k)→g.β k=some b→ ¬(tK g w mb ml).m b:=by
  intro k N b t hne f;obtain⟨b1,c1,_,F,_,q3,_,_,q6,_⟩:=h.bxs.1 k N t;rw[f] at F;simp only[aI] at F;subst F;rintro(⟨k2,q,r,M⟩|⟨L,n,v,e,J,hL,hO,hb''⟩|h3)
  ·obtain⟨_,cs2,hc2⟩:=hm _ r
   exact hne _ r (h.bxs.2 k2 k cs2 N hc2 t (M.trans f.symm))
  ·exact h.zb k N L v e J b t hO hb'' f
  ·have:=(Array.getElem?_eq_some_iff.1 q3).1
   omega
 have R: ∀L v e J b,g.O L=some (v,e,J)→(∀n,(L,n)∉ml)→v.ownBlock=some b→ ¬(tK g w mb ml).m b:=by
  intro L v e J b hO hne f;rcases(h.own.1 L v e J hO).2 with hv|⟨b2,_,_,_,l,hv,_,hh,_,_,_,hG,_⟩
  ·rw[hv] at f;cases f
  ·have o:=f
   rw[hv] at o;simp only[Value.ownBlock,aI] at o;subst o;rintro(⟨k2,q,r,M⟩|⟨L2,n,v2,e2,Ye,P,hO2,o⟩|h3)
   ·obtain⟨_,cs2,hc2⟩:=hm _ r
    exact h.zb k2 cs2 L v e J b2 hc2 hO f M
   ·have:=h.own.2 L L2 v v2 e e2 J Ye b2 hO hO2 f o
    subst this;exact hne _ P
   ·have:=(Array.getElem?_eq_some_iff.1 hh).1
    omega
 have hmM:=Y5 h (ml:=ml) fun p hp=>(hm p hp).2
 let O2:Nat→Option (Value×Nat×Nat):=fun L=>match lk (eG Dr) L with|some n=>g1.O n|none=>Y.O L
 let C2:Nat→Option (List Value):=fun L=>match lk (eG Dr) L with|some n=>g1.C n|none=>Y.C L
 let g2:Gh:=⟨g1.G,O2,g.β,g.G1,C2⟩
 have Z: ∀L x,Y.O L=some x→C2 L=Y.C L:=by
  intro L x hL;have r:=(z L x hL).2.2;show(match lk (eG Dr) L with|some n=>g1.C n|none=>Y.C L)=_
  cases hq:lk (eG Dr) L with
  |some n=>exact absurd (mR.1 (jr hq)) (r n)
  |none=>rfl
 have X: ∀n L,(n,L)∈Dr→C2 L=g1.C n:=by
  intro n L hL;show(match lk (eG Dr) L with|some n=>g1.C n|none=>Y.C L)=_;rw[jf n5 hL]
 have Y6: ∀L x,Y.O L=some x→O2 L=some x:=by
  intro L x hL;have r:=(z L x hL).2.2;show(match lk (eG Dr) L with|some n=>g1.O n|none=>Y.O L)=_
  cases hq:lk (eG Dr) L with
  |some n=>exact absurd (mR.1 (jr hq)) (r n)
  |none=>exact hL
 have Y7: ∀n L,lk Dr n=some L→O2 L=g1.O n:=by
  intro n L hL;show(match lk (eG Dr) L with|some n=>g1.O n|none=>Y.O L)=_;rw[jf n5 (jr hL)]
 have I: ∀L x,O2 L=some x→(∃n,(n,L)∈Dr∧g1.O n=some x)∨Y.O L=some x:=by
  intro L x hL;have hL:(match lk (eG Dr) L with|some n=>g1.O n|none=>Y.O L)=some x:=hL;split at hL
  ·rename_i n hq;exact .inl ⟨n,mR.1 (jr hq),hL⟩
  ·exact .inr hL
 have hext:Ext Y g2:=by
  refine⟨?_,Y6,fun L v e J b hL f=>?_,fun k b t=>?_,by rw[gb5,ga5],fun L x hL=>Z L x hL⟩
  ·rw[gb1,ga1];exact hx.ext.2.1
  ·obtain⟨F,q2,_⟩:=z L _ hL
   show g1.G b=Y.G b;rw[gb1,ga1];exact hx.ext.1 b (R L v e J b F q2 f)
  ·rw[gb2,ga2] at t;exact t
 have hβ1: ∀k q,lk (eG mb) q=some k→g2.β k=g1.β q:=by
  intro k q t;have hmem:=mR.1 (jr t);obtain⟨⟨j,hj⟩,_⟩:=hm _ hmem;simp only at hj;rw[hx.ext.2.2 q (by omega)];show g.β k=(match lk (eG mb) q with|some k=>g.β k|none=>none)
  rw[t]
 have hren: ∀(y:V) (u:Value),aG g1 y u→aG g2 (y.ren (eG mb) Dr) u:=fun y u hy=>Cb (g:=g1) (g':=g2) rfl (fun n L hL=>Y7 n L hL) (fun n L hL=>X n L (jr hL)) (fun q k t=>hβ1 k q t) hy
 have H: ∀k N,aA (nV (nV s (ml.map (·.1))) (Dr.map (·.2))).bx k=some N→ ∃cs0,aA s.bx k=some cs0:=fun k N t=>(ng _ _ _).1 ((ng _ _ _).1 ⟨N,t⟩)
 have U:=CQ (mb:=eG mb) (ml:=Dr) mb bs (nV (nV s (ml.map (·.1))) (Dr.map (·.2))).bx hlen n1 (fun p hp=>(ng _ _ _).2 ((ng _ _ _).2 (hm p hp).2));have Q: ∀(i:Nat) k q N,mb[i]? =some (k,q)→bs[i]? =some N→aA (eY 0 args bs) q=some N:=fun i k q N r M=>uS (as++iP as) args 0 bs hv i k q N (by rw[←e1];exact r) M
 have hboxG: ∀k q b,(k,q)∈mb→g.β k=some b→g1.G b=none:=by
  intro k q b t f;obtain⟨i,hi⟩:=Du t;have hib:i<bs.length:=by rw[hlen];exact(List.getElem?_eq_some_iff.1 hi).1
  obtain⟨b2,_,_,F,_,_,_,_,q6,_⟩:=hx.bxs.1 q _ (Q i k q _ hi (gP hib));rw[←hβ1 k q (jf n2 t)] at F;have F:g.β k=some b2:=F;rw[f] at F;simp only[aI] at F;rw[F];exact q6
 have hbig:Inv E B G0 w0 ⟨(nV (nV s (ml.map (·.1))) (Dr.map (·.2))).fr,Ef (eG mb) Dr mb bs (nV (nV s (ml.map (·.1))) (Dr.map (·.2))).bx⟩ g2 a w':=by
  refine⟨hb.fr.mono fun y _ u=>o7 hext,h.df,hx.gok,⟨fun L v e J hL=>?_,fun L L' v v' e e' J sz' b hL hL' T o=>?_⟩,⟨fun k N t=>?_,fun k q N cs' t hk' hbe=>?_⟩,h.iq.trans (hx.iq.mono hmM),Am h.hB hx.iq.iq.size,⟨fun b hbm=>(hx.ext.1 b fun e=>hbm (hmM b e)).trans (h.ext.1 b hbm),h.ext.2.1.trans hx.ext.2.1,h.ext.2.2⟩,h.glob,h.g1,fun k N L v e J b t hL f Xq=>?_⟩
  ·rcases I L _ hL with⟨n,hn',hL⟩|hL
   ·obtain⟨F,q2⟩:=hx.own.1 n v e J hL
    refine⟨F,q2.imp id ?_⟩;rintro⟨b,m,cap,cur,l,D,K,hh,hnc,hcm,hcs,hG,hl⟩;refine⟨b,m,cap,cur,l,D,⟨hmM b K.1,fun hlt=>?_⟩,hh,hnc,hcm,hcs,by
     unfold kX at hG⊢;rw[show g2.C L=g1.C n from X n L hn'];exact hG,hl⟩
    obtain⟨i,hi⟩:=hcls _ hn';simp only at hi;by_cases hnl:n<HL
    ·exact Dy h.hB.1 (K.2 hnl)
    ·have hany:tH ml=false:=by
      cases hq:tH ml with
      |false=>rfl
      |true=>
       rw[hq] at hi;unfold fe at hi;rw[abV (Nat.le_of_not_lt hnl),Bool.and_self,iy] at hi;omega
     rcases K.1 with⟨k2,q,r,M⟩|⟨L2,n2',v2,e2,Ye,P,hO2,o⟩|h3
     ·exfalso
      obtain⟨i2,hi2⟩:=Du r;have hib:i2<bs.length:=by rw[hlen];exact(List.getElem?_eq_some_iff.1 hi2).1
      refine hx.zb q _ n v e J b (Q i2 k2 q _ hi2 (gP hib)) hL (by rw[D];rfl) ?_;rw[←hβ1 k2 q (jf n2 r)];exact M
     ·have h5:=zi hany P
      rcases(h.own.1 L2 v2 e2 Ye hO2).2 with hv2|⟨b3,_,_,_,_,hv2,hok2,_⟩
      ·rw[hv2] at o;cases o
      ·rw[hv2] at o
       simp only[Value.ownBlock,aI] at o;rw[←o];exact hok2.2 h5
     ·exact Dy h.hB.1 h3
   ·obtain⟨r1,r2,_⟩:=z L _ hL
    obtain⟨F,q2⟩:=h.own.1 L v e J r1;refine⟨F,q2.imp id ?_⟩;rintro⟨b,m,cap,cur,l,D,K,hh,hnc,hcm,hcs,hG,hl⟩;have A:=R L v e J b r1 r2 (by rw[D];rfl);exact⟨b,m,cap,cur,l,D,K,by rw[hx.iq.row b A];exact hh,hnc,hcm,hcs,hG.keep (show C2 L=g.C L by rw[Z L _ hL,gb6,ga6]) (hx.ext.1 b A),hl⟩
  ·rcases I L _ hL with⟨n,hn1,hL1⟩|hL1<;>rcases I L' _ hL' with⟨n',hn2,P⟩|P
   ·have:=hx.own.2 n n' v v' e e' J sz' b hL1 P T o
    subst this;exact wh n6 hn1 hn2
   ·exfalso
    obtain⟨r1,r2,_⟩:=z L' _ P;have A:=R L' v' e' sz' b r1 r2 o;rcases(hx.own.1 n v e J hL1).2 with D|⟨b3,_,_,_,_,D,K,_⟩
    ·rw[D] at T;cases T
    ·rw[D] at T
     simp only[Value.ownBlock,aI] at T;rw[←T] at A;exact A K.1
   ·exfalso
    obtain⟨r1,r2,_⟩:=z L _ hL1;have A:=R L v e J b r1 r2 T;rcases(hx.own.1 n' v' e' sz' P).2 with D|⟨b3,_,_,_,_,D,K,_⟩
    ·rw[D] at o;cases o
    ·rw[D] at o
     simp only[Value.ownBlock,aI] at o;rw[←o] at A;exact A K.1
   ·exact h.own.2 L L' v v' e e' J sz' b (z L _ hL1).1 (z L' _ P).1 T o
  ·rcases U k with⟨i,q,W,r,M,h3⟩|⟨r,M⟩
   ·rw[h3] at t
    simp only[aI] at t;subst t;have hmem:=Dp r;obtain⟨_,cs0,YH⟩:=hm _ hmem;obtain⟨b,_,_,p1,p2,_⟩:=h.bxs.1 k cs0 YH;obtain⟨b2,c,e,F,_,q3,q4,q5,q6,q7⟩:=hx.bxs.1 q W (Q i k q W r M);rw[←hβ1 k q (jf n2 hmem)] at F;have F:g.β k=some b2:=F;rw[p1] at F;simp only[aI] at F;subst F;exact⟨b,c,e,p1,p2,q3,dQ q4 fun y _ u=>hren y u,q5,q6,jA (BX _ _) q7⟩
   ·rw[M] at t
    obtain⟨cs0,YH⟩:=H k N t;obtain⟨b,c,e,F,q2,q3,q4,q5,q6,q7⟩:=hb.bxs.1 k N t;rw[gb2,ga2] at F;rw[gb1,ga1] at q6;have A:=hbxm k cs0 b YH r F;exact⟨b,c,e,F,q2,by rw[hx.iq.row b A];exact q3,q4.mono fun y _ u=>o7 hext,q5,by show g1.G b=none;rw[hx.ext.1 b A];exact q6,q7⟩
  ·have S: ∃W,aA s.bx k=some W:=by
    rcases U k with⟨i,k1,W,r,_⟩|⟨_,M⟩
    ·exact(hm _ (Dp r)).2
    ·rw[M] at t;exact H k N t
   have hk0': ∃W,aA s.bx q=some W:=by
    rcases U q with⟨i,k1,W,r,_⟩|⟨_,M⟩
    ·exact(hm _ (Dp r)).2
    ·rw[M] at hk';exact H q cs' hk'
   obtain⟨W,S⟩:=S;obtain⟨c0',hk0'⟩:=hk0';exact h.bxs.2 k q W c0' S hk0' hbe
  ·have Xq:g.β k=some b:=Xq
   have S: ∃W,aA s.bx k=some W:=by
    rcases U k with⟨i,k1,W,r,_⟩|⟨_,M⟩
    ·exact(hm _ (Dp r)).2
    ·rw[M] at t;exact H k N t
   obtain⟨W,S⟩:=S;rcases I L _ hL with⟨n,hn',hL⟩|hL
   ·rcases U k with⟨i,q,c1,r,M,_⟩|⟨r,_⟩
    ·refine hx.zb q c1 n v e J b (Q i k q c1 r M) hL f ?_
     rw[←hβ1 k q (jf n2 (Dp r))];exact Xq
    ·have A:=hbxm k W b S r Xq
     rcases(hx.own.1 n v e J hL).2 with hv|⟨b2,_,_,_,_,hv,K,_⟩
     ·rw[hv] at f;cases f
     ·rw[hv] at f
      simp only[Value.ownBlock,aI] at f;subst f;exact A K.1
   ·exact h.zb k W L v e J b S (z L _ hL).1 f Xq
 rw[←hs];exact⟨g2,hbig.put d (hren x v hx.fr.head)⟩
end
section
variable {E:Env} {B:Own} {G0:aJ} {w0:World} {s s':St} {g:Gh} {a:Act} {w:World} {bx:List (Nat×af)} {o:Oper} {eff:Eff}
theorem Inv.still (h:Inv E B G0 w0 s g a w) {w':World} (d:Below w.heap.size w w'):Inv E B G0 w0 s g a w':=by
 have j:New w w' g.G g.G:=⟨d,fun _ _=>rfl,fun b l hl=>by
  obtain⟨c,e,fr,i,f⟩:=h.gok b l hl;exact⟨c,e,fr,by rw[d.block b (eU h.gok hl)];exact i,f⟩⟩
 exact(h.new j).1
theorem Inv.RN (h:Inv E B G0 w0 s g a w) {d e:Nat} {sh:List Kd} {xs:af} {u:Value} {l:List Value} (hd:s.bn d=true) (hz:uy g.G w (B.ok d) e sh.length xs.length u l)
  (J: ∀L v e i b,g.O L=some (v,e,i)→L≠d→v.ownBlock=some b→u.ownBlock≠some b) (Z: ∀k t b,aA s.bx k=some t→u.ownBlock=some b→g.β k≠some b):
  ∃g',g'.G=g.G∧Inv E B G0 w0 s g' a w∧g'.O d=some (u,e,sh.length)∧g'.C d=some l∧(∀L,L≠d→g'.O L=g.O L):=by
 let O':Nat→Option (Value×Nat×Nat):=fun L=>if L=d then some (u,e,sh.length) else g.O L
 let C':Nat→Option (List Value):=fun L=>if L=d then some l else g.C L
 have f: ∀L,L≠d→O' L=g.O L:=fun L hL=>if_neg hL
 have A: ∀L,L≠d→C' L=g.C L:=fun L hL=>if_neg hL
 obtain⟨h0,T,hf⟩:=hz;refine⟨{g with O:=O',C:=C'},rfl,⟨h.fr.mono fun x hx v=>FX f A (qf hd x hx),h.df,h.gok,⟨?_,?_⟩,⟨fun k t N=>?_,h.bxs.2⟩,h.iq,h.hB,h.ext,h.glob,h.g1,?_⟩,if_pos rfl,if_pos rfl,f⟩
 ·intro L v p i hL
  by_cases Kr:L=d
  ·subst Kr
   have hL:(if L=L then some (u,e,sh.length) else g.O L)=some (v,p,i):=hL;rw[if_pos rfl] at hL;simp only[aI,bU] at hL;obtain⟨rfl,rfl,rfl⟩:=hL;refine⟨h0,?_⟩;rcases hf with⟨hu,_⟩|⟨b,cap,y,X,j,P,K,r,H,ht,W⟩
   ·exact .inl hu
   ·exact .inr ⟨b,_,cap,y,l,X,j,P,K,r,H,kX.mk1 (if_pos rfl) W ht,T⟩
  ·have hL:O' L=some (v,p,i):=hL
   rw[f L Kr] at hL;obtain⟨q1,q2⟩:=h.own.1 L v p i hL;refine⟨q1,q2.imp id ?_⟩;rintro⟨b,n,cap,y,l,X,j,P,U,r,H,M,hl⟩;exact⟨b,n,cap,y,l,X,j,P,U,r,H,M.keep (A L Kr) rfl,hl⟩
 ·intro L L' v S R Q i o b D q j I
  have D:O' L=some (v,R,i):=D;have q:O' L'=some (S,Q,o):=q;by_cases hL:L=d<;>by_cases m:L'=d
  ·rw[hL,m]
  ·subst hL
   have F:(if L=L then some (u,e,sh.length) else g.O L)=some (v,R,i):=D;rw[if_pos rfl] at F;simp only[aI,bU] at F;rw[f L' m] at q;exact absurd (by rw[F.1];exact j) (J L' S Q o b q m I)
  ·subst m
   have z:(if L'=L' then some (u,e,sh.length) else g.O L')=some (S,Q,o):=q;rw[if_pos rfl] at z;simp only[aI,bU] at z;rw[f L hL] at D;exact absurd (by rw[z.1];exact I) (J L v R i b D hL j)
  ·rw[f L hL] at D
   rw[f L' m] at q;exact h.own.2 L L' v S R Q i o b D q j I
 ·obtain⟨b,c,p,j,Y,P,hp,ho,W,hq⟩:=h.bxs.1 k t N
  exact⟨b,c,p,j,Y,P,hp.mono fun x hx v=>FX f A (uP hd k t N x hx),ho,W,hq⟩
 ·intro k t L v p i b N hL j hβ
  have hL:O' L=some (v,p,i):=hL;by_cases Kr:L=d
  ·subst Kr
   have hL:(if L=L then some (u,e,sh.length) else g.O L)=some (v,p,i):=hL;rw[if_pos rfl] at hL;simp only[aI,bU] at hL;obtain⟨rfl,rfl,rfl⟩:=hL;exact Z k t b N j hβ
  ·rw[f L Kr] at hL
   exact h.zb k t L v p i b N hL j hβ
theorem Inv.grow (h:Inv E B G0 w0 s g a w) {w':World} {j:Option Nat} (d:w.grownBy w' j) (T: ∀b,j=some b→g.G b=none) (P: ∀L v e t b,g.O L=some (v,e,t)→v.ownBlock=some b→some b≠j) (hβ: ∀k r b,aA s.bx k=some r→g.β k=some b→some b≠j) (U: ∀b,j=some b→B.m b) (D: ∀b,j=some b→ ∃c e fr,w.heap[b]? =some (.cells c e fr)):
  Inv E B G0 w0 s g a w':=by
 refine⟨h.fr,h.df,fun b l hl=>?_,⟨fun L v e t hL=>?_,h.own.2⟩,⟨fun k r H=>?_,h.bxs.2⟩,?_,Am h.hB d.size,h.ext,h.glob,h.g1,h.zb⟩
 ·obtain⟨c,e,fr,N,J⟩:=h.gok b l hl
  refine⟨c,e,fr,?_,J⟩;rw[d.block b (eU h.gok hl) (fun M=>by rw[T b M.symm] at hl;cases hl)];exact N
 ·obtain⟨R,K⟩:=h.own.1 L v e t hL
  refine⟨R,K.imp id ?_⟩;rintro⟨b,n,cap,y,l,I,f,o,z,u,A,p,hl⟩;have i:=(Array.getElem?_eq_some_iff.1 o).1;exact⟨b,n,cap,y,l,I,f,by rw[d.block b i (P L v e t b hL (by rw[I];rfl))];exact o,z,u,A,p,hl⟩
 ·obtain⟨b,c,e,f,x,o,Q,S,F,q⟩:=h.bxs.1 k r H
  have i:=(Array.getElem?_eq_some_iff.1 o).1;exact⟨b,c,e,f,x,by rw[d.block b i (hβ k r b H f)];exact o,Q,S,F,q⟩
 ·exact h.iq.trans ⟨⟨d.os,d.tape,d.output,d.size,fun b f=>by omega⟩,fun b f=>d.block b (Qy fun e=>f (h.hB.2 b e)) fun C=>f (U b C.symm),fun b V c f=>(d.block b (Array.getElem?_eq_some_iff.1 f).1 fun C=>by obtain⟨_,_,_,q⟩:=D b C.symm;rw[f] at q;cases q).trans f⟩
theorem O6 {L e:Nat} {sh:List Kd} {xs:af} {i:Int} {c L3 E:Nat} {o:List Kd} {ys:af} {Q u:Value} {l:List Value} (N:g.O L=some (Q,e,sh.length)) (R:g.C L=some l) (W:i.toNat*sh.length+c<l.length) (U:zG g sh xs Q (l.set (i.toNat*sh.length+c) u))
  (h3:g.O L3=some (u,E,o.length)) (I:qC g.G o ys u) {y:V} {v:Value} (h:aG g y v):aG {g with C:=fun k=>if k=L then some (l.set (i.toNat*sh.length+c) u) else g.C k} (y.xK L e sh xs i c L3 E o ys) v:=by
 have one: ∀{y:V} {v:Value},bA g y v→bA {g with C:=fun k=>if k=L then some (l.set (i.toNat*sh.length+c) u) else g.C k} (MS L e sh xs i c L3 E o ys y) v:=by
  intro y v h
  cases y with
  |slz k q n m o2 s D p d r=>
   show bA _ (bif L==k then V.slz L e sh xs (some L3) i c E o ys else .slz k q n m o2 s D p d r) v;obtain⟨K,w,B,F,H⟩:=h;by_cases A:L=k
   ·subst A
    rw[Hl];rw[N] at w;simp only[aI,bU] at w;obtain⟨rfl,_,_⟩:=w;refine⟨_,N,if_pos rfl,U,u,h3,I,fun y X hl=>?_⟩;rw[abU W] at hl;exact(Option.some.inj hl).symm
   ·rw[beq_eq_false_iff_ne.2 A]
    exact⟨K,w,(if_neg (fun T=>A T.symm)).trans B,F,H⟩
  |epz k q t s j=>
   obtain⟨M,b,K,w,B,F,H,P⟩:=h;by_cases A:k=L
   ·subst A
    rw[R] at B;simp only[aI] at B;subst B;exact⟨M,b,_,w,if_pos rfl,F,by rw[QL];exact H,P⟩
   ·exact⟨M,b,K,w,(if_neg A).trans B,F,H,P⟩
  |sl q n o' m=>cases o'<;>exact h
  |_=>exact h
 cases y with
 |tup vs=>obtain⟨a,rfl,h⟩:=h;exact⟨a,rfl,dQ h fun z _ v J=>one J⟩
 |fn f vs=>obtain⟨a,rfl,h⟩:=h;exact⟨a,rfl,dQ h fun z _ v J=>one J⟩
 |slz k q n m o2 s D p d r=>
  have S:=one (y:=.slz k q n m o2 s D p d r) (aP (x:=.slz k q n m o2 s D p d r) rfl h);refine bq ?_ S;show(bif L==k then V.slz L e sh xs (some L3) i c E o ys else .slz k q n m o2 s D p d r).single=true
  cases L==k<;>rfl
 |epz k q t s j=>exact bq (x:=.epz k q t s j) rfl (one (y:=.epz k q t s j) (aP (x:=.epz k q t s j) rfl h))
 |_=>simp only[aG] at h⊢;exact one h
theorem Inv.Be (h:Inv E B G0 w0 s g a w) {L e b:Nat} {sh:List Kd} {xs:af} {i:Int} {c L3 S:Nat} {r:List Kd} {ys:af} {v0 u:Value} {d:Array Value} {l:List Value} (U:g.O L=some (v0,e,sh.length)) (hC:g.C L=some l) (R:v0.ownBlock=some b) (hh:w.heap[b]? =some (.cells d e (0,0)))
  (hp:i.toNat*sh.length+c<l.length) (hz:zG g sh xs v0 (l.set (i.toNat*sh.length+c) u)) (h3:g.O L3=some (u,S,r.length)) (ho3:qC g.G r ys u):
  ∃g',Inv E B G0 w0 (s.xK L e sh xs i c L3 S r ys) g' a (w.setRow b (d.toList.take (i.toNat*sh.length+c)++[u]++d.toList.drop (i.toNat*sh.length+c+1)).toArray):=by
 obtain⟨H,n,cap,hv0,hn,Q,ht,hcs,hln,Bc,hok⟩:=Rk h.own U hC R;rw[hh] at Q;simp only[aI,Obj.cells.injEq] at Q;obtain⟨rfl,_⟩:=Q;have N: ∀(y:V) (v:Value),aG g y v→aG {g with C:=fun k=>if k=L then some (l.set (i.toNat*sh.length+c) u) else g.C k} (y.xK L e sh xs i c L3 S r ys) v:=fun y v hy=>O6 U hC hp hz h3 ho3 hy
 generalize i.toNat*sh.length+c=p at hp hz N⊢;have hil:p<d.toList.length:=by
  have:=congrArg List.length ht;rw[Dv] at this;omega
 have hset:d.toList.take p++[u]++d.toList.drop (p+1)=d.toList.set p u:=by
  rw[ZX,if_pos hil];simp
 rw[hset];have hnew:=setRow_heap w b d (d.toList.set p u).toArray e (0,0) hh;have q: ∀j,j≠b→(w.setRow b (d.toList.set p u).toArray).heap[j]? =w.heap[j]? :=fun j o=>setRow_other w b j _ o
 have W:(w.setRow b (d.toList.set p u).toArray).heap.size=w.heap.size:=by simp[World.setRow]
 have Y: ∀k,aA (s.xK L e sh xs i c L3 S r ys).bx k=(aA s.bx k).map (List.map (V.xK L e sh xs i c L3 S r ys)):=fun k=>fK _ _ _
 refine⟨_,dQ h.fr fun y _ v hy=>N y v hy,h.df,fun j m o=>?_,⟨fun j v e' sz o=>?_,h.own.2⟩,⟨fun k cs t=>?_,fun k k' cs cs' t K=>?_⟩,?_,by rw[W];exact h.hB,h.ext,h.glob,h.g1,FY (f:=List.map (V.xK L e sh xs i c L3 S r ys)) h.zb⟩
 ·have hjb:j≠b:=fun x=>by subst x;have o:g.G j=some m:=o;rw[Bc] at o;cases o
  obtain⟨c2,e3,fr,hc,ht2⟩:=h.gok j m o;exact⟨c2,e3,fr,by rw[q j hjb];exact hc,ht2⟩
 ·obtain⟨q1,q2⟩:=h.own.1 j v e' sz o
  refine⟨q1,q2.imp id ?_⟩;rintro⟨z,n',I,H,m,hv,hB',A,X,T,D,F,hl⟩;by_cases M:j=L
  ·subst M
   have o:g.O j=some (v,e',sz):=o;rw[U] at o;simp only[aI,bU] at o;obtain⟨rfl,rfl,rfl⟩:=o;rw[hv] at R;simp only[Value.ownBlock,aI] at R;subst R;rw[hh] at A;simp only[aI,Obj.cells.injEq] at A;obtain⟨rfl,_⟩:=A;obtain⟨_,x,ht9⟩:=F.nested hC;subst x;refine⟨z,n',I,_,_,hv,hB',hnew,X,T,by simpa using D,kX.mk1 (if_pos rfl) Bc ?_,by rw[QL];exact hl⟩;rw[QL,ab6,Z9,ht]
  ·have J:z≠b:=fun x=>M (h.own.2 j L v v0 e' e sz _ z o U (by rw[hv];rfl) (by rw[x];exact R))
   exact⟨z,n',I,H,m,hv,hB',by rw[q z J];exact A,X,T,D,F.keep (if_neg M) rfl,hl⟩
 ·rw[Y] at t
  cases P:aA s.bx k with
  |none=>rw[P] at t;cases t
  |some ds=>
   rw[P] at t;simp only[sW,aI] at t;subst t;obtain⟨z,c',e',p1,p2,p3,p4,p5,p6,p7⟩:=h.bxs.1 k ds P;have J:z≠b:=fun x=>h.zb k ds L v0 e _ b P U R (by rw[←x];exact p1)
   exact⟨z,c',e',p1,p2,by rw[q z J];exact p3,dQ p4 fun y _ v hy=>N y v hy,p5,p6,jA (OM _ _ _ _ _ _ _ _ _ _) p7⟩
 ·rw[Y] at t K
  cases P:aA s.bx k with
  |none=>rw[P] at t;cases t
  |some ds=>
   cases Z:aA s.bx k' with
   |none=>rw[Z] at K;cases K
   |some ds'=>exact h.bxs.2 k k' ds ds' P Z
 ·exact h.iq.trans ⟨⟨rfl,rfl,rfl,by rw[W];exact iI _,fun j o=>by omega⟩,fun j o=>q j fun x=>o (x▸hok.1),qb hh fun j o _=>q j o⟩
theorem Inv.MH (h:Inv E B G0 w0 s g a w) (L:Nat): ∃g',Inv E B G0 w0 (s.MH L) g' a w:=by
 have hlk: ∀k,aA (s.MH L).bx k=(aA s.bx k).map (List.map (V.MH L)):=fun k=>fK _ _ _
 have T: ∀g':Gh,(∀(y:V) (v:Value),aG g y v→aG g' (y.MH L) v)→g'.β=g.β→g'.O=g.O→vk g'.G w→Ho B g' w→(∀k cs b,aA s.bx k=some cs→g.β k=some b→g'.G b=none)→((∀b,¬B.m b→g'.G b=g.G b)∧jP g.G g'.G)→jP g'.G1 G0→Inv E B G0 w0 (s.MH L) g' a w:=by
  intro g' htr hβ hO hg ho hbx hx hg1;refine⟨dQ h.fr fun y _ v D=>htr y v D,h.df,hg,ho,⟨fun k cs d=>?_,fun k k' cs cs' d hk'=>?_⟩,h.iq,h.hB,⟨fun b hb=>(hx.1 b hb).trans (h.ext.1 b hb),h.ext.2.1.trans hx.2,by rw[hβ];exact h.ext.2.2⟩,h.glob,hg1,by rw[hβ,hO];exact FY (f:=List.map (V.MH L)) h.zb⟩
  ·rw[hlk] at d
   cases hq:aA s.bx k with
   |none=>rw[hq] at d;cases d
   |some ds=>
    rw[hq] at d;simp only[sW,aI] at d;subst d;obtain⟨R,c',p,W,p2,p3,p4,p5,p6,p7⟩:=h.bxs.1 k ds hq;exact⟨R,c',p,by rw[hβ];exact W,p2,p3,dQ p4 fun y _ v D=>htr y v D,p5,hbx k ds R hq W,jA (Sv _) p7⟩
  ·rw[hlk] at d hk'
   cases hq:aA s.bx k with
   |none=>rw[hq] at d;cases d
   |some ds=>
    cases hq':aA s.bx k' with
    |none=>rw[hq'] at hk';cases hk'
    |some ds'=>rw[hβ];exact h.bxs.2 k k' ds ds' hq hq'
 have lift: ∀g':Gh,(∀(y:V) (v:Value),bA g y v→bA g' (Vl L y) v)→ ∀(y:V) (v:Value),aG g y v→aG g' (y.MH L) v:=by
  intro g' one y v D
  cases y with
  |tup vs=>obtain⟨a,rfl,h⟩:=D;exact⟨a,rfl,dQ h fun z _ v Z=>one z v Z⟩
  |fn f vs=>obtain⟨a,rfl,h⟩:=D;exact⟨a,rfl,dQ h fun z _ v Z=>one z v Z⟩
  |slz k p t r o2 M c' N I Q=>
   have h2:=one (.slz k p t r o2 M c' N I Q) v (aP (x:=.slz k p t r o2 M c' N I Q) rfl D);refine bq ?_ h2;show(bif L==k then V.sl p t (some L) r else .slz k p t r o2 M c' N I Q).single=true
   cases L==k<;>rfl
  |epz k p o M u=>
   have h2:=one (.epz k p o M u) v (aP (x:=.epz k p o M u) rfl D);refine bq ?_ h2;show(bif L==k then V.any else .epz k p o M u).single=true
   cases L==k<;>rfl
  |_=>simp only[aG] at D⊢;exact one _ v D
 by_cases hex: ∃v e sz l,g.O L=some (v,e,sz)∧g.C L=some l
 ·obtain⟨v0,e,sz,l,hO,hC⟩:=hex
  have S:=(h.own.1 L v0 e sz hO).2;rcases S with Z|⟨b,n,cap,cur,l',Z,hok,hh,hnc,hcm,hcs,S,hl⟩
  ·
   refine⟨{g with C:=fun k=>if k=L then none else g.C k},T _ (lift _ fun y v D=>?_) rfl rfl h.gok ⟨fun j v p o A=>?_,h.own.2⟩ (fun k cs b d hb=>?_) ⟨fun _ _=>rfl,.refl _⟩ h.g1⟩
   ·cases y with
    |slz k p t r o2 M c' N I Q=>
     show bA _ (bif L==k then V.sl p t (some L) r else .slz k p t r o2 M c' N I Q) v;obtain⟨l',H,J,K,q4⟩:=D;by_cases d:L=k
     ·subst d
      rw[Hl];refine⟨H,?_⟩;rcases K.1 with q5|⟨b,cap,q5⟩
      ·exact .inl q5
      ·rw[hO] at H
       simp only[aI,bU] at H;rw[←H.1,Z] at q5;cases q5
     ·rw[beq_eq_false_iff_ne.2 d]
      exact⟨l',H,(if_neg (fun P=>d P.symm)).trans J,K,q4⟩
    |epz k p o M u=>
     show bA _ (bif L==k then V.any else .epz k p o M u) v;by_cases d:L=k
     ·subst d
      rw[Hl];show aK g.G .any v;unfold aK;trivial
     ·rw[beq_eq_false_iff_ne.2 d]
      obtain⟨v1,b,l',H,J,K⟩:=D;exact⟨v1,b,l',H,(if_neg (fun P=>d P.symm)).trans J,K⟩
    |sl p t o' r=>cases o'<;>exact D
    |_=>exact D
   ·obtain⟨H,J⟩:=h.own.1 j v p o A
    by_cases Y:j=L
    ·subst Y
     have A:g.O j=some (v,p,o):=A;rw[hO] at A;simp only[aI,bU] at A;exact⟨H,.inl (by rw[←A.1];exact Z)⟩
    ·refine⟨H,J.imp id ?_⟩
     rintro⟨R,n',cap',cur',m,U,hB',X,hnc,hcm,hcs',S,hl⟩;exact⟨R,n',cap',cur',m,U,hB',X,hnc,hcm,hcs',S.keep (if_neg Y) rfl,hl⟩
   ·obtain⟨R,_,_,W,_,_,_,_,p6,_⟩:=h.bxs.1 k cs d
    rw[hb] at W;simp only[aI] at W;rw[W];exact p6
  ·obtain⟨Bc,P,ht⟩:=S.nested hC
   subst P;have q: ∀j,j≠b→upd g.G b l j=g.G j:=fun j A=>fU _ _ _ _ A
   have F:jP g.G (upd g.G b l):=fun j m A=>by
    have hjb:j≠b:=fun P=>by subst P;rw[Bc] at A;cases A
    exact⟨m,by rw[q j hjb];exact A,Kn _⟩
   have hown: ∀{sh:List Kd} {xs:af} {k p o:Nat} {v:Value},g.O k=some (v,p,o)→qC g.G sh xs v→qC (upd g.G b l) sh xs v:=by
    intro sh xs k p o v d ho;refine vV ho F fun R hb'=>?_
    refine q R fun P=>?_
    subst P;rcases ho with⟨hq,_⟩|⟨b2,_,l2,hq,_,hG2,_⟩
    ·rw[hq] at hb';cases hb'
    ·rw[hq] at hb'
     simp only[Value.ownBlock,aI] at hb';subst hb';rw[Bc] at hG2;cases hG2
   have hlink: ∀{C':Nat→Option (List Value)} {l2:List Value} {Ye:Nat} {o2:Option Nat} {i:Int} {c e2:Nat} {QM:List Kd} {ys:af},oZ g l2 Ye o2 i c e2 QM ys→oZ {g with G:=upd g.G b l,C:=C'} l2 Ye o2 i c e2 QM ys:=by
    intro C' l2 Ye o2 i c e2 QM ys hq
    cases o2 with
    |none=>trivial
    |some L2=>
     obtain⟨v2,H,J,K⟩:=hq;exact⟨v2,H,hown H J,K⟩
   refine⟨{g with G:=upd g.G b l,C:=fun k=>if k=L then none else g.C k},T _ (lift _ fun y v D=>?_) rfl rfl (fun j m A=>?_) ⟨fun j v p o A=>?_,h.own.2⟩ (fun k cs R d hb=>?_) ⟨fun j A=>q j fun P=>A (P▸hok.1),F⟩ h.g1⟩
   ·cases y with
    |slz k p t r o2 M c' N I Q=>
     show bA _ (bif L==k then V.sl p t (some L) r else .slz k p t r o2 M c' N I Q) v;obtain⟨l',H,J,K,q4⟩:=D;by_cases d:L=k
     ·subst d
      rw[Hl];have q1':=H;rw[hO] at q1';simp only[aI,bU] at q1';obtain⟨rfl,rfl,rfl⟩:=q1';rw[hC] at J;simp only[aI] at J;subst J;refine⟨H,.inr ?_⟩;rcases K.1 with⟨q5,_⟩|⟨b2,cap2,q5⟩
      ·rw[Z] at q5;cases q5
      ·have q6:=q5
       rw[Z] at q6;simp only[Value.slice.injEq,aI,Addr.mk.injEq] at q6;obtain⟨⟨rfl,_,_⟩,hn2,rfl⟩:=q6;exact⟨b,cap,l,q5,by omega,upd_same _ _ _,K.2.1,gL F _ _ _ _ K.2.2 (Kn _)⟩
     ·rw[beq_eq_false_iff_ne.2 d]
      exact⟨l',H,(if_neg (fun P=>d P.symm)).trans J,⟨K.1,K.2.1,gL F _ _ _ _ K.2.2 (Kn _)⟩,hlink q4⟩
    |epz k p o M u=>
     show bA _ (bif L==k then V.any else .epz k p o M u) v;by_cases d:L=k
     ·subst d
      rw[Hl];show aK (upd g.G b l) .any v;unfold aK;trivial
     ·rw[beq_eq_false_iff_ne.2 d]
      obtain⟨v1,b1,l',H,J,K⟩:=D;exact⟨v1,b1,l',H,(if_neg (fun P=>d P.symm)).trans J,K⟩
    |sl p t o' r=>
     cases o' with
     |none=>exact gq F _ _ D
     |some k=>exact⟨D.1,hown D.1 D.2⟩
    |eptr k p t r M u=>
     obtain⟨v1,b1,H,J,K⟩:=D;exact⟨v1,b1,H,hown H J,K⟩
    |box k off=>exact D
    |old x=>exact⟨D.1,gq F _ _ D.2.1,D.2.2⟩
    |_=>exact gq F _ _ D
   ·by_cases hjb:j=b
    ·subst hjb
     have A:upd g.G j l j=some m:=A;rw[upd_same] at A;simp only[aI] at A;subst A;exact⟨cur,e,(0,0),hh,ht⟩
    ·have A:upd g.G b l j=some m:=A
     rw[q j hjb] at A;exact h.gok j m A
   ·obtain⟨H,J⟩:=h.own.1 j v p o A
    refine⟨H,J.imp id ?_⟩;rintro⟨R,n',cap',cur',m,U,hB',X,hnc',hcm',hcs',hrow',hl'⟩;by_cases Y:j=L
    ·subst Y
     have A:g.O j=some (v,p,o):=A;rw[hO] at A;simp only[aI,bU] at A;obtain⟨rfl,rfl,rfl⟩:=A;rw[Z] at U;simp only[Value.slice.injEq,aI,Addr.mk.injEq] at U;obtain⟨⟨rfl,_,_⟩,rfl,rfl⟩:=U;rw[hh] at X;simp only[aI,Obj.cells.injEq] at X;obtain⟨rfl,_⟩:=X;exact⟨b,n,cap,cur,l,Z,hB',hh,hnc,hcm,hcs,kX.mk0 (if_pos rfl) (upd_same _ _ _),hl⟩
    ·have hne:R≠b:=fun P=>Y (h.own.2 j L v v0 p e o _ R A hO (by rw[U];rfl) (by rw[Z,P];rfl))
     exact⟨R,n',cap',cur',m,U,hB',X,hnc',hcm',hcs',hrow'.keep (if_neg Y) (q R hne),hl'⟩
   ·obtain⟨b2,_,_,W,_,_,_,_,p6,_⟩:=h.bxs.1 k cs d
    rw[hb] at W;simp only[aI] at W;subst W;have hne:R≠b:=fun P=>h.zb k cs L v0 e sz b d hO (by rw[Z];rfl) (by rw[←P];exact hb)
    show upd g.G b l R=none;rw[q R hne];exact p6
 ·
  refine⟨g,T g (lift g fun y v D=>?_) rfl rfl h.gok h.own (fun k cs b d hb=>?_) ⟨fun _ _=>rfl,.refl _⟩ h.g1⟩
  ·cases y with
   |slz k p t r o2 M c' N I Q=>
    show bA _ (bif L==k then V.sl p t (some L) r else .slz k p t r o2 M c' N I Q) v;obtain⟨l',H,J,K,q4⟩:=D;by_cases d:L=k
    ·subst d;exact absurd ⟨_,_,_,_,H,J⟩ hex
    ·rw[beq_eq_false_iff_ne.2 d];exact⟨l',H,J,K,q4⟩
   |epz k p o M u=>
    show bA _ (bif L==k then V.any else .epz k p o M u) v;obtain⟨v1,b,l',H,J,K⟩:=D;by_cases d:L=k
    ·subst d;exact absurd ⟨_,_,_,_,H,J⟩ hex
    ·rw[beq_eq_false_iff_ne.2 d];exact⟨v1,b,l',H,J,K⟩
   |_=>exact D
  ·obtain⟨R,_,_,W,_,_,_,_,p6,_⟩:=h.bxs.1 k cs d
   rw[hb] at W;simp only[aI] at W;rw[W];exact p6
theorem IB: ∀(l:List Nat) (s:St) (g:Gh),Inv E B G0 w0 s g a w→ ∃g',Inv E B G0 w0 (YC s l) g' a w
 |[],s,g,h=>⟨g,h⟩
 |L::l,s,g,h=>by
  obtain⟨g',b⟩:=h.MH L;exact IB l _ g' b
theorem wm (h:Inv E B G0 w0 s g a w) (P:Program) (ops:List Oper): ∃g',Inv E B G0 w0 (QZ P ops s) g' a w:=by
 unfold QZ
 cases(s.bx.any (fun(_,cs)=>cs.any isZ)&&ops.any (RD P)) with
 |true=>exact IB _ _ _ h
 |false=>exact⟨g,h⟩
end
section
variable {E:Env} {B:Own} {G0:aJ} {w0:World} {s s':St} {g:Gh} {a:Act} {w:World} {bx:List (Nat×af)} {o:Oper} {eff:Eff}
theorem QD.sub {P:Program} {bx c:List (Nat×af)} (h:QD P B g c w) (f: ∀k a,aA bx k=some a→aA c k=some a):QD P B g bx w:=
 ⟨fun k a d=>h.1 k a (f k a d),fun k i a b d e=>h.2 k i a b (f k a d) (f i b e)⟩
theorem CR {G:aJ} {w:World} {B:Nat→Prop} {x:V} {v:Value} {g:Gh} (a:g.G=G) (hl:mD x=false) (h:kz G w B x v):bA g x v:=by
 subst a
 cases x with
 |sl e sh b xs=>
  cases b with
  |none=>exact h
  |some L=>cases hl
 |box k off=>simp only[kz] at h;unfold aK at h;exact h.elim
 |eptr _ _ _ _ _ _=>simp only[kz] at h;unfold aK at h;exact h.elim
 |old _=>simp only[kz] at h;unfold aK at h;exact h.elim
 |slz _ _ _ _ _ _ _ _ _ _=>simp only[kz] at h;unfold aK at h;exact h.elim
 |epz _ _ _ _ _=>simp only[kz] at h;unfold aK at h;exact h.elim
 |_=>exact h
theorem zl: ∀(d:Nat) (l:af),l.countP mD=0→ ∀b,fP d b l=l
 |d,[],_,b=>by cases b<;>rfl
 |d,x::l,h,b=>by
  rw[Qz] at h;have hx:mD x=false:=by
   cases c:mD x with
   |false=>rfl
   |true=>rw[c] at h;simp at h
  rw[hx] at h;have a:=zl d l (by simpa using h) b
  cases x with
  |sl e sh f xs=>
   cases f with
   |none=>cases b<;>simp only[fP,a]
   |some L=>cases hx
  |_=>cases b<;>simp only[fP,a]
theorem O7 (h:Inv E B G0 w0 s g a w) {d:Nat} {r:V} {v:Value} {b0:Nat} (S:s.bn d=true) (J:B.n≤b0∧ ∀b,b0≤b→B.m b) (P: ∀L v e F b,g.O L=some (v,e,F)→v.ownBlock=some b→b<b0) (i:fo g.G w (b0≤ ·) r v):
  ∃g',Inv E B G0 w0 s g' a w∧aG g' (r.Ic d) v:=by
 have j: ∀{e sh xs u},gJ g.G w (b0≤ ·) e sh xs u→gJ g.G w (B.ok d) e sh xs u:=by
  rintro e sh xs u ⟨p,o⟩;refine⟨p,o.imp id ?_⟩;rintro⟨b,cap,D,l,N,M,H⟩;exact⟨b,cap,D,l,N,⟨J.2 b M,fun _=>Dy J.1 M⟩,H⟩
 have lV: ∀{e sh xs u},gJ g.G w (b0≤ ·) e sh xs u→ ∀L v e F b,g.O L=some (v,e,F)→L≠d→v.ownBlock=some b→u.ownBlock≠some b:=by
  rintro e sh xs u ⟨p,o⟩ L v X F b hL _ M R;have h3:=P L v X F b hL M;rcases o with⟨rfl,_⟩|⟨b',cap,D,l,rfl,Z,_⟩
  ·cases R
  ·simp[Value.ownBlock] at R
   omega
 cases r with
 |tup vs=>
  obtain⟨us,rfl,I,z⟩:=i;have Q: ∀(xs:af) (us:List Value),PW (kz g.G w (b0≤ ·)) xs us→xs.countP mD≤1→ ∃g',g'.G=g.G∧Inv E B G0 w0 s g' a w∧PW (bA g') (fP d true xs) us:=by
   intro xs;induction xs with
   |nil=>intro us I _;exact⟨g,rfl,h,by rw[I.bR];exact .nil⟩
   |cons x xs W=>
    intro us I z;obtain⟨u,t,rfl,p,o⟩:=I.cons_inv;rw[Qz] at z
    cases hx:mD x with
    |true=>
     rw[hx] at z;have T:xs.countP mD=0:=by rw[if_pos rfl] at z;omega
     cases x with
     |sl e sh K ys=>
      cases K with
      |none=>cases hx
      |some L=>
       have p:gJ g.G w (b0≤ ·) e sh ys u:=p;obtain⟨g',C,q,A⟩:=h.label (e:=e) (sh:=sh) (xs:=ys) (u:=u) S (j p) (lV p);refine⟨g',C,q,?_⟩;show PW (bA g') (V.sl e sh (some d) ys::fP d false xs) (u::t);rw[zl d xs T];refine .cons A (o.mono fun y Y v N=>CR C ?_ N);have:=List.countP_eq_zero.1 T y Y;simpa using this
     |_=>cases hx
    |false=>
     rw[hx] at z;obtain⟨g',C,q,A⟩:=W t o (by simpa using z);refine⟨g',C,q,?_⟩;have U:fP d true (x::xs)=x::fP d true xs:=by
      cases x with
      |sl e sh K ys=>cases K with
       |none=>rfl
       |some L=>cases hx
      |_=>rfl
     rw[U];exact .cons (CR C hx p) A
  obtain⟨g',_,q,A⟩:=Q vs us I z;exact⟨g',q,us,rfl,A⟩
 |sl e sh K xs=>
  cases K with
  |none=>exact⟨g,h,i⟩
  |some L=>
   have i:gJ g.G w (b0≤ ·) e sh xs v:=i;obtain⟨g',C,q,A⟩:=h.label (e:=e) (sh:=sh) (xs:=xs) (u:=v) S (j i) (lV i);exact⟨g',q,A⟩
 |box k off=>simp only[fo,kz] at i;unfold aK at i;exact i.elim
 |eptr _ _ _ _ _ _=>simp only[fo,kz] at i;unfold aK at i;exact i.elim
 |old _=>simp only[fo,kz] at i;unfold aK at i;exact i.elim
 |slz _ _ _ _ _ _ _ _ _ _=>simp only[fo,kz] at i;unfold aK at i;exact i.elim
 |epz _ _ _ _ _=>simp only[fo,kz] at i;unfold aK at i;exact i.elim
 |fn f c=>
  simp only[fo,kz] at i;have o:=i;unfold aK at o;obtain⟨_,rfl⟩:=o;exact⟨g,h,bI rfl i⟩
 |_=>exact⟨g,h,i⟩
theorem SN {x y:V} (h:x.deep=some y):y.sZ=y:=by
 cases x with
 |fn f c=>cases c<;>simp[V.deep] at h;subst h;rfl
 |_=>simp[V.deep] at h<;>subst h<;>rfl
theorem CS {g:Gh} {bx:List (Nat×af)} {MB ML:List (Nat×Nat)}: ∀(m args:af) (vs:List Value),iP m=[]→fH bx MB ML m=some args→gG args=false→PW (FE g) m vs→PW (aK g.G) (args.map V.sZ) vs
 |[],args,vs,_,h,_,q=>by
  simp only[fH,aI] at h;subst h;rw[q.bR];exact .nil
 |x::m,args,vs,i,h,n,q=>by
  unfold iP at i;obtain⟨d,i⟩:=List.append_eq_nil_iff.1 i;obtain⟨v,t,rfl,s,u⟩:=q.cons_inv;unfold fH at h;split at h
  ·rename_i y ys b p
   simp only[aI] at h;subst h;unfold gG at n;rw[X8,Fv] at n;rw[Aj];refine .cons ?_ (CS m ys t i p n.2 u);have a:x.deep=some y→aK g.G y.sZ v:=by
    intro o;rw[SN o];exact s.elim (fun h=>mg h o) (fun h=>xZ h o)
   cases x with
   |box k off=>
    unfold qJ at b;simp only at b;split at b
    ·simp only[aI] at b
     subst b
     cases n.1
    ·cases b
   |sl e sh z xs=>
    cases z with
    |none=>exact a b
    |some L=>
     have b:some (sP MB ML (.sl e sh (some L) xs))=some y:=b;simp only[aI] at b;subst b;have w:bA g (.sl e sh (some L) xs) v:=s.elim (fun h=>aP rfl h) id;exact jZ w.2
   |fn f c=>
    cases c with
    |nil=>exact a b
    |cons c r=>
     obtain⟨l,_⟩:=aC (show(bif Nat.blt f ul&&uq (c::r) then some (V.fn f ((c::r).map (sP MB ML))) else none)=some y from b);rw[bL] at l;have j:=l.2;unfold uq at j;rw[U3,bL] at j;have j:=j.1;simp only at d;split at j
     ·rw[List.filterMap_cons] at d
      cases d
     ·cases j
   |_=>exact a b
  ·cases h
theorem wP {G:aJ} {x:V} {u v:Value} (h:kY x=some u) (a:aK G x v):v=u:=by
 cases x with
 |bool b=>simp only[kY,aI] at h;unfold aK at a;rw[a,h]
 |int k n=>simp only[kY,aI] at h;unfold aK at a;rw[a,h]
 |_=>cases h
theorem wQ {G:aJ}: ∀(xs:af) (us vs:List Value),kZ xs=some us→PW (aK G) xs vs→vs=us
 |[],us,vs,h,c=>by simp only[kZ,aI] at h;rw[c.bR,h]
 |x::xs,us,vs,h,c=>by
  obtain⟨v,t,rfl,g,d⟩:=c.cons_inv;unfold kZ at h;split at h
  ·rename_i a b f e
   simp only[aI] at h;rw[←h,wP f g,wQ xs b t e d]
  ·cases h
theorem zm {G:aJ} {x:V} {u v:Value} (h:bQ x=some u) (b:aK G x v):v=u:=by
 unfold bQ at h;split at h
 ·rename_i t f
  split at h
  ·rename_i l hl
   simp only[aI] at h;unfold aK at b;obtain⟨z,rfl,c⟩:=b;unfold aK at c;obtain⟨a,rfl,d⟩:=c;rw[eD] at d;rw[wQ f l a hl d,h]
  ·cases h
 ·rename_i t y _
  split at h
  ·rename_i z c
   simp only[aI] at h;unfold aK at b;obtain⟨q,rfl,e⟩:=b;rw[wP c e,h]
  ·cases h
 ·cases h
theorem GI {g:Gh} {x:V} {u v:Value} (h:bQ x=some u) (a:aG g x v):v=u:=by
 cases x with
 |iface t y=>exact zm (G:=g.G) h a
 |_=>cases h
theorem VG (h:Inv E B G0 w0 s g a w) (p:Does E.P a.eval o B w g s.bx eff) {v:V} (j:FW E s eff v s') {next:Act→World→Prop} {Q:Exit→Act→World→Prop}
  (k: ∀g' w' u,Inv E B G0 w0 s' g' a w'→bQ v=some u→Q (.panic [{v:=u,recovered:=false}]) a w'):o.wp E.P a w next Q:=by
 unfold Oper.wp;obtain⟨⟨u,b⟩,j⟩:=j
 cases eff with
 |call f args mb ml=>
  obtain⟨vs,z,m,r,d,i⟩:=p;rw[m];rcases j with⟨bs,n,c⟩|⟨n,rfl⟩
  rotate_left
  ·refine Calls.mono (n (tK g w mb ml) (nX g mb ml) w vs rfl (ni h r d i)) ?_
   rintro e w' ⟨q,rfl,hx,t⟩;exact k _ _ _ (h.still t) hx
  refine Calls.mono (n (tK g w mb ml) (nX g mb ml) w vs rfl (ni h r d i)) ?_;rintro e w' ⟨g1,q,rfl,hx⟩;obtain⟨A,x⟩:=yB h d i c hx;have l:=GI b hx.fr.head;subst l;exact k _ _ _ x b
 |ku y=>
  obtain⟨q,m,l⟩:=p;obtain⟨rfl,rfl⟩:=j;rw[m];have:=zm b l;subst this;exact k _ _ _ h b
 |_=>exact j.elim
theorem p8 (h:Inv E B G0 w0 s g a w) (hd:Does E.P a.eval o B w g bx eff) (hs: ∀k cs,aA bx k=some cs→aA s.bx k=some cs) {dr:Bool} (hsb:dr=false→bx=s.bx) (hr:BH E dr s o.dst eff s') {next:Act→World→Prop} {Q:Exit→Act→World→Prop}
  (N: ∀g' a' w',Inv E B G0 w0 s' g' a' w'→(∃u,a'=a.put o.dst u)→next a' w'):o.wp E.P a w next Q:=by
 unfold Oper.wp
 cases eff with
 |val v=>
  obtain⟨u,K,ht⟩:=hd;have M:s'=s.put o.dst v:=hr;subst M;rw[K];exact N g _ _ (h.put o.dst ht) ⟨u,rfl⟩
 |newSl e sh xs=>
  obtain⟨u,w',G',K,hn,ht⟩:=hd;obtain⟨F,_⟩:=h.new hn;rw[K];have M:s'=s.put o.dst (.sl e sh none xs):=hr;subst M;exact N _ _ _ (F.put o.dst (v:=.sl e sh none xs) ht) ⟨u,rfl⟩
 |own e sh xs=>
  obtain⟨u,w',G',K,hn,hf⟩:=hd;obtain⟨k,I,S,Y,rfl⟩:=hr;obtain⟨F,_⟩:=h.new hn;rw[K];have hf':gJ G' w' (B.ok k) e sh xs u:=by
   refine⟨hf.1,hf.2.imp id ?_⟩;rintro⟨b,cap,D,l,z,m,R⟩;exact⟨b,cap,D,l,z,⟨h.hB.2 b m,fun _=>Dy h.hB.1 m⟩,R⟩
  have h1':=F.put (some k) (v:=.any) (u:=u) gI;obtain⟨g',hg,hi,ht⟩:=h1'.label (e:=e) (sh:=sh) (xs:=xs) (u:=u) S hf' (by
   intro L v X W b hL _ m p;have h3:=uz h.gok h.own hL m;rcases hf.2 with⟨rfl,_⟩|⟨b',cap,D,l,rfl,hb',_⟩
   ·cases p
   ·simp[Value.ownBlock] at p;omega)
  have:=hi.put (some k) (v:=.sl e sh (some k) xs) (u:=u) ht;rw[show(s.put (some k) .any).put (some k) (.sl e sh (some k) xs)=s.put (some k) (.sl e sh (some k) xs) by simp[St.put],show(a.put (some k) u).put (some k) u=a.put (some k) u by simp[Act.put]] at this;rw[Oper.upon_value];rw[I] at N⊢;exact N _ _ _ this ⟨u,rfl⟩
 |app L e sh xs=>
  obtain⟨v0,u,w',G',Z,K,U,hG1,hmore,hGk,hf,p⟩:=hd;obtain⟨k,I,S,Y,rfl⟩:=hr;have F:=h.kill L;rw[K];have hrow: ∀b,v0.ownBlock=some b→B.ok L b:=by
   intro b m;rcases(h.own.1 L v0 e sh.length Z).2 with z|⟨b',n,cap,D,l,z,hB',_⟩
   ·rw[z] at m;cases m
   ·rw[z] at m;simp[Value.ownBlock] at m;subst m;exact hB'
  have C: ∀L' v X W b,(if L'=L then none else g.O L')=some (v,X,W)→v.ownBlock=some b→b<w.heap.size∧some b≠v0.ownBlock:=by
   intro L' v X W b q m;split at q
   ·cases q
   ·rename_i hne
    refine⟨uz h.gok h.own q m,fun M=>hne ?_⟩;exact h.own.2 L' L v v0 _ _ _ _ b q Z m M.symm
  have hext:Ext {g with O:=fun k=>if k=L then none else g.O k} {g with O:=(fun k=>if k=L then none else g.O k),G:=G'}:=
   ⟨hmore,fun _ _ h=>h,fun L' v X W b q m=>by obtain⟨h2,h3⟩:=C L' v X W b q m;exact hG1 b h2 h3,fun _ _ h=>h,rfl,fun _ _ _=>rfl⟩
  have h2:Inv E B G0 w0 (s.kill L) {g with O:=(fun k=>if k=L then none else g.O k),G:=G'} a w':=by
   refine⟨F.fr.mono fun x _ v=>o7 hext,F.df,hGk,⟨fun L' v X W q=>?_,F.own.2⟩,⟨fun j cs hj=>?_,F.bxs.2⟩,?_,Am h.hB U.size,⟨fun b m=>?_,h.ext.2.1.trans hmore,h.ext.2.2⟩,F.glob,F.g1,F.zb⟩
   ·obtain⟨p1,p2⟩:=F.own.1 L' v X W q
    refine⟨p1,p2.imp id ?_⟩;rintro⟨b,n,cap,D,l,z,m,hh,hnc,hcm,hcs,Bc,hl⟩;obtain⟨q1,q2⟩:=C L' v X W b q (by rw[z];rfl);exact⟨b,n,cap,D,l,z,m,by rw[U.block b q1 q2];exact hh,hnc,hcm,hcs,Bc.keep rfl (hG1 b q1 q2),hl⟩
   ·obtain⟨b,c,e2,m,hBb,hh,hp,ho,Bc,hq⟩:=F.bxs.1 j cs hj
    have hlt:=(Array.getElem?_eq_some_iff.1 hh).1;have hne:some b≠v0.ownBlock:=by
     intro M;have hj:aA (s.kill L).bx j=some cs:=hj;rw[mh] at hj
     cases ZN:aA s.bx j with
     |none=>rw[ZN] at hj;cases hj
     |some ds=>exact h.zb j ds L v0 e sh.length b ZN Z M.symm m
    exact⟨b,c,e2,m,hBb,by rw[U.block b hlt hne];exact hh,hp.mono fun x _ v=>o7 hext,ho,by show G' b=_;rw[hG1 b hlt hne];exact Bc,hq⟩
   ·refine h.iq.trans ⟨⟨U.os,U.tape,U.output,U.size,fun b m=>by omega⟩,fun b m=>U.block b (Qy fun e=>m (h.hB.2 b e)) fun M=>m (hrow b M.symm).1,fun b es c m=>(U.block b (Array.getElem?_eq_some_iff.1 m).1 fun M=>by obtain⟨_,_,_,hq⟩:=EB h.own Z M.symm;rw[m] at hq;cases hq).trans m⟩
   ·have hlt:b<w.heap.size:=Qy fun e=>m (h.hB.2 b e)
    have hne:some b≠v0.ownBlock:=fun M=>m (hrow b M.symm).1
    exact(hG1 b hlt hne).trans (h.ext.1 b m)
  have hf2:gJ G' w' (B.ok (fe true L k)) e sh xs u:=by
   refine⟨hf.1,hf.2.imp id ?_⟩;rintro⟨b,cap,D,l,z,m,R⟩;exact⟨b,cap,D,l,z,⟨m.1,fun hlt=>m.2 (BJ Y hlt)⟩,R⟩
  obtain⟨g',hg,hi,ht⟩:=h2.label (e:=e) (sh:=sh) (xs:=xs) (u:=u) S hf2 (by
   intro L' v X W b q _ m J;obtain⟨q1,q2⟩:=C L' v X W b q m;rcases p with p|p
   ·rw[J] at p;exact q2 p
   ·have:=p b J;omega)
  have:=hi.put (some k) (v:=.sl e sh (some (fe true L k)) xs) (u:=u) ht;rw[Oper.upon_value];rw[I] at N⊢;exact N _ _ _ this ⟨u,rfl⟩
 |lD e cs=>
  obtain⟨c,K,hp,ho,hq⟩:=hd;obtain⟨k,I,S,hk3,Y,rfl⟩:=hr;rw[K];obtain⟨g',hi⟩:=h.lD (e:=e) Y S hp ho hk3 hq;rw[Oper.upon_value];rw[I] at N⊢;exact N _ _ _ hi ⟨_,rfl⟩
 |put k off cs=>
  obtain⟨b,c,e,us,old,m,hl,hh,hp,K,z,ho,hle⟩:=hd;obtain⟨old',hl',hq,rfl⟩:=hr;rw[hs k old hl] at hl';simp only[aI] at hl';subst hl';rw[K];have F:=h.store (off:=off) (vs:=cs) (us:=us) m (hs k old hl) hh hp z ho hle hq;exact N _ _ _ (F.put o.dst (v:=.tup []) (u:=undef) ⟨[],rfl,.nil⟩) ⟨_,rfl⟩
 |call f args mb ml=>
  obtain⟨vs,as,K,hp,hof,ZO⟩:=hd;rw[K];rcases hr with⟨hbx,hr⟩|⟨hdr,x,bs,hc,hback⟩|⟨hdr,x,hc,rfl⟩
  ·have hpl:PW (aK g.G) (args.map V.sZ) vs:=by
    obtain⟨M,e2,z,_⟩:=rz hof;obtain⟨A,H,rfl,hA,hH⟩:=oH as (iP as) args z;have hbx2:gG A=false∧gG H=false:=by
     unfold gG at hbx⊢;rw[List.any_append,Fv] at hbx;exact hbx
    have hH0:=VF (F8 (iP as) H (ru as) hH) hbx2.2;subst hH0;have hh0:iP as=[]:=by
     cases hq:iP as with
     |nil=>rfl
     |cons x t=>
      rw[hq] at hH;unfold fH at hH;split at hH<;>simp at hH
    rw[On];exact CS as A vs hh0 hA hbx2.1 hp
   have key: ∀r,aj E f (args.map V.sZ) r→(∀v w' G',New w w' g.G G'→fo G' w' (w.heap.size≤ ·) r v→next (a.put o.dst v) w')→o.upon E.P a next Q (.ok (.enter f vs.toArray) w):=by
    intro r hc hn;refine Calls.mono (hc g.G w vs h.gok h.fB hpl) ?_;rintro e w' ⟨v,G',rfl,F,h2⟩;exact hn v w' G' F h2
   rcases hr with⟨k,r,I,S,hk3,hc,rfl⟩|⟨r,I,hc,rfl⟩
   ·refine key r hc fun v w' G' hn hres=>?_
    obtain⟨F,_⟩:=h.new hn;obtain⟨g',hi,ht⟩:=O7 F (d:=k) (r:=r) (v:=v) (b0:=w.heap.size) S h.hB (fun L v e W b hL m=>uz h.gok h.own hL m) hres;have:=hi.put (some k) ht;rw[I] at N⊢;exact N _ _ _ this ⟨v,rfl⟩
   ·refine key r hc fun v w' G' hn hres=>?_
    obtain⟨F,_⟩:=h.new hn;have:=F.put none (v:=.any) (u:=v) gI;rw[I] at N⊢;exact N _ _ _ this ⟨v,rfl⟩
  ·rw[hsb hdr] at hof
   refine Calls.mono (hc (tK g w mb ml) (nX g mb ml) w vs rfl (ni h hp hof ZO)) ?_;rintro e w' ⟨g1,v,rfl,hx⟩;obtain⟨g2,hi⟩:=yB h hof ZO hback hx;exact N _ _ _ hi ⟨v,rfl⟩
  ·rw[hsb hdr] at hof
   refine Calls.mono (hc (tK g w mb ml) (nX g mb ml) w vs rfl (ni h hp hof ZO)) ?_;rintro e w' ⟨v,rfl,⟨hx,z⟩,m⟩;refine N _ _ _ ((h.still m).put o.dst (v:=x) (u:=v) ?_) ⟨v,rfl⟩
   cases x with
   |tup vs=>
    cases vs with
    |nil=>exact⟨[],z,.nil⟩
    |cons _ _=>cases hx
   |bool b=>exact gY (g:=⟨fun _=>none,fun _=>none,fun _=>none,fun _=>none,fun _=>none⟩) rfl z
   |int k n=>exact gY (g:=⟨fun _=>none,fun _=>none,fun _=>none,fun _=>none,fun _=>none⟩) rfl z
   |str l=>exact gY (g:=⟨fun _=>none,fun _=>none,fun _=>none,fun _=>none,fun _=>none⟩) rfl z
   |_=>cases hx
 |ku v=>exact hr.elim
 |pick b x y=>
  obtain⟨u,K,ht⟩:=hd;rw[K]
  cases b with
  |true=>
   have M:s'=s.put o.dst x:=hr;subst M;exact N _ _ _ (h.put o.dst ht) ⟨u,rfl⟩
  |false=>
   have M:s'=s.put o.dst y:=hr;subst M;exact N _ _ _ (h.put o.dst ht) ⟨u,rfl⟩
 |Bd L e k ys=>
  obtain⟨v0,b,c,l,i,u,xs,F,h2,h3,h4,h5,h6,h7,h8,h9,h10,K⟩:=hd;obtain⟨r1,rfl⟩:=hr;rw[K];obtain⟨g',hi⟩:=h.forget.Bd F h2 h3 h4 h5 h6 h7 h8 h9 h10 (GH s) r1;exact N g' _ _ (hi.put o.dst (v:=.tup []) (u:=undef) ⟨[],rfl,.nil⟩) ⟨_,rfl⟩
 |alts i vs=>
  obtain⟨j,v,F,h2,rfl⟩:=hr;obtain⟨u,K,ht⟩:=hd j v F h2;rw[K];exact N g _ _ (h.put o.dst ht) ⟨u,rfl⟩
 |ownz e sh xs c e2 T=>
  obtain⟨u,w',l,K,m,hz,hE,hk0,hlk⟩:=hd;obtain⟨k,I,S,hk3,Y,rfl⟩:=hr;rw[K];have hkH:k<HL:=by unfold dz at Y;omega
  have F:=(h.still m).put (some k) (v:=.any) (u:=u) gI;have hnew: ∀b,u.ownBlock=some b→w.heap.size≤b:=by
   intro b p;rcases hz.2.2 with⟨rfl,_⟩|⟨b',cap,D,rfl,hb',_⟩
   ·cases p
   ·simp[Value.ownBlock] at p;omega
  have hz':uy g.G w' (B.ok k) e sh.length xs.length u l:=by
   refine⟨hz.1,hz.2.1,hz.2.2.imp id ?_⟩;rintro⟨b,cap,D,z,hb',R⟩;exact⟨b,cap,D,z,⟨h.hB.2 b hb',fun _=>Dy h.hB.1 hb'⟩,R⟩
  obtain⟨g1,hg1,hi1,ho1,hc1,_⟩:=F.RN (d:=k) (e:=e) (sh:=sh) (xs:=xs) (u:=u) (l:=l) S hz' (by
   intro L v X W b hL _ hb' p;have:=uz h.gok h.own hL hb';have:=hnew b p;omega) (by
   intro j cs b hj p hβ;have hj:aA s.bx j=some cs:=hj;obtain⟨b',_,_,p1,_,p3,_⟩:=h.bxs.1 j cs hj;rw[hβ] at p1;simp only[aI] at p1;subst p1;have:=(Array.getElem?_eq_some_iff.1 p3).1;have:=hnew b p;omega)
  obtain⟨g2,hg2,hi2,hs2,hx2⟩:=hi1.KQ (d:=dz k) (e:=e2) (sh:=T) (xs:=[]) (u:=.slice none 0 0) hk3 ⟨hk0,.inl ⟨rfl,rfl⟩⟩ (by intro L v X W b _ _ _ hq;cases hq);have hkd:k≠dz k:=by unfold dz;omega
  have ht:aG g2 (.slz k e sh xs (some (dz k)) 0 c e2 T []) u:=by
   refine lg.2 ⟨l,(hx2 k hkd).1.trans ho1,(hx2 k hkd).2.trans hc1,⟨?_,hz.2.1,by rw[hg2,hg1];exact hE⟩,_,hs2.1,hs2.2,fun y _ hy=>hlk y ?_⟩
   ·rcases hz.2.2 with⟨z,hn⟩|⟨b,cap,D,z,_⟩
    ·exact .inl ⟨z,UJ hn⟩
    ·exact .inr ⟨b,cap,z⟩
   ·simpa using hy
  have:=hi2.put (some k) (v:=.slz k e sh xs (some (dz k)) 0 c e2 T []) (u:=u) ht;rw[show(s.put (some k) .any).put (some k) (.slz k e sh xs (some (dz k)) 0 c e2 T [])=s.put (some k) (.slz k e sh xs (some (dz k)) 0 c e2 T []) by simp[St.put],show(a.put (some k) u).put (some k) u=a.put (some k) u by simp[Act.put]] at this;rw[Oper.upon_value];rw[I] at N⊢;exact N _ _ _ this ⟨u,rfl⟩
 |appz L e sh xs i c e2 T=>
  obtain⟨v0,u,w',l,Z,K,U,hG0,hz,hE,p,hk0,hlk⟩:=hd;obtain⟨k,I,S,hk3,Y,rfl⟩:=hr;rw[K];have hkH:k<HL:=by unfold dz at Y;omega
  have hrow: ∀b,v0.ownBlock=some b→B.ok L b:=by
   intro b m;rcases(h.own.1 L v0 e sh.length Z).2 with z|⟨b',n,cap,D,l,z,hB',_⟩
   ·rw[z] at m;cases m
   ·rw[z] at m;simp[Value.ownBlock] at m;subst m;exact hB'
  have C: ∀L' v X W b,(if L'=L then none else g.O L')=some (v,X,W)→v.ownBlock=some b→b<w.heap.size∧some b≠v0.ownBlock:=by
   intro L' v X W b q m;split at q
   ·cases q
   ·rename_i hne
    refine⟨uz h.gok h.own q m,fun M=>hne ?_⟩;exact h.own.2 L' L v v0 _ _ _ _ b q Z m M.symm
  have hbox: ∀j cs b,aA (s.kill L).bx j=some cs→g.β j=some b→b<w.heap.size∧some b≠v0.ownBlock:=by
   intro j cs b hj hβ;rw[mh] at hj
   cases ZN:aA s.bx j with
   |none=>rw[ZN] at hj;cases hj
   |some ds=>
    obtain⟨b',_,_,p1,_,p3,_⟩:=h.bxs.1 j ds ZN;rw[hβ] at p1;simp only[aI] at p1;subst p1;exact⟨(Array.getElem?_eq_some_iff.1 p3).1,fun M=>h.zb j ds L v0 e sh.length b ZN Z M.symm hβ⟩
  have F:=(h.kill L).grow U hG0 (fun L' v X W b q m=>(C L' v X W b q m).2) (fun j cs b hj m=>(hbox j cs b hj m).2) (fun b m=>(hrow b m).1) (fun b m=>EB h.own Z m);have hz':uy g.G w' (B.ok (fe true L k)) e sh.length xs.length u l:=by
   refine⟨hz.1,hz.2.1,hz.2.2.imp id ?_⟩;rintro⟨b,cap,D,z,m,R⟩;exact⟨b,cap,D,z,⟨m.1,fun hlt=>m.2 (BJ hkH hlt)⟩,R⟩
  obtain⟨g1,hg1,hi1,ho1,hc1,_⟩:=F.RN (d:=fe true L k) (e:=e) (sh:=sh) (xs:=xs) (u:=u) (l:=l) S hz' (by
   intro L' v X W b q _ m J;obtain⟨q1,q2⟩:=C L' v X W b q m;rcases p with p|p
   ·rw[J] at p;exact q2 p
   ·have:=p b J;omega) (by
   intro j cs b hj J hβ;obtain⟨q1,q2⟩:=hbox j cs b hj hβ;rcases p with p|p
   ·rw[J] at p;exact q2 p
   ·have:=p b J;omega)
  obtain⟨g2,hg2,hi2,hs2,hx2⟩:=hi1.KQ (d:=dz k) (e:=e2) (sh:=T) (xs:=[]) (u:=.slice none 0 0) hk3 ⟨hk0,.inl ⟨rfl,rfl⟩⟩ (by intro L v X W b _ _ _ hq;cases hq);have hkd:fe true L k≠dz k:=by
   unfold fe dz;rw[Fy];unfold dz at Y
   cases Nat.ble HL L
   ·show k≠k+500000000;omega
   ·show HL+k≠k+500000000;unfold HL;omega
  have ht:aG g2 (.slz (fe true L k) e sh xs (some (dz k)) i c e2 T []) u:=by
   refine lg.2 ⟨l,(hx2 _ hkd).1.trans ho1,(hx2 _ hkd).2.trans hc1,⟨?_,hz.2.1,by rw[hg2,hg1];exact hE⟩,_,hs2.1,hs2.2,fun y h0 hy=>hlk y h0 hy⟩;rcases hz.2.2 with⟨z,hn⟩|⟨b,cap,D,z,_⟩
   ·exact .inl ⟨z,UJ hn⟩
   ·exact .inr ⟨b,cap,z⟩
  have:=hi2.put (some k) (v:=.slz (fe true L k) e sh xs (some (dz k)) i c e2 T []) (u:=u) ht;rw[Oper.upon_value];rw[I] at N⊢;exact N _ _ _ this ⟨u,rfl⟩
 |Be L e sh xs i c L3 e2 T ys=>
  obtain⟨v0,b,D,l,u,F,h2,h3,h4,h5,h6,h7,h8,h9,K⟩:=hd;have M:s'=(s.xK L e sh xs i c L3 e2 T ys).put o.dst (.tup []):=hr;subst M;rw[K];obtain⟨g',hi⟩:=h.Be F h2 h3 h4 h5 h7 h8 h9;exact N g' _ _ (hi.put o.dst (v:=.tup []) (u:=undef) ⟨[],rfl,.nil⟩) ⟨_,rfl⟩
def jo (ops:List Oper) (s:St) (o:Oper):Option Bool:=
 match o.guard with
 |none=>some true
 |some (j,a)=>match ops[j]? with
  |none=>none
  |some c=>match c.dst with
   |none=>none
   |some d=>match slot s.fr d with
    | .bool b=>some (b==a)
    | .tup []=>some false
    |_=>none
theorem Nf (h:PW (aG g) s.fr a.tmps.toList) {d:Nat} {x:V} (hx:slot s.fr d=x) (b:x≠.any):d<s.fr.length∧ ∃u,a.tmps[d]? =some u∧aG g x u:=by
 unfold slot at hx;have e:d<s.fr.length:=by
  refine Qy fun c=>b ?_
  rw[←hx,sV,ZA c];rfl
 obtain⟨u,i,f⟩:=h.get (getD_some e);rw[hx] at f;exact⟨e,u,by simpa using i,f⟩
theorem dP {ops:Array Oper} (h:PW (aG g) s.fr a.tmps.toList) {b:Bool} (f:jo ops.toList s o=some b):Region.wanted o (yielded ops a.tmps)=b:=by
 unfold jo at f;unfold Region.wanted;split at f
 ·rename_i m
  rw[m];simp only[aI] at f;exact f
 ·rename_i j r m
  rw[m];simp only;split at f
  ·cases f
  ·rename_i t n
   split at f
   ·cases f
   ·rename_i d q
    have i:ops[j]? =some t:=by simpa using n
    split at f
    ·rename_i c p
     obtain⟨_,u,l,k⟩:=Nf h p (by intro e;cases e);rw[bG] at k;subst k;simp only[aI] at f;subst f;simp[yielded,i,q,l]
    ·rename_i p
     obtain⟨_,u,l,k⟩:=Nf h p (by intro e;cases e);obtain⟨us,rfl,v⟩:=k;simp only[aI] at f;subst f;simp[yielded,i,q,l]
    ·cases f
def rT (E:Env) (ops:List Oper) (bx:Option (List (Nat×af))) (s:St) (o:Oper) (s':St):Prop:=
 (jo ops s o=some true∧ ∃eff,zS E s.fr (match bx with|some b=>b|none=>s.bx) o=some (true,eff)∧(bx.isSome&&FM eff)=false∧BH E bx.isSome s o.dst eff s')∨(jo ops s o=some false∧s'=s.put o.dst (.tup []))
inductive Trace (E:Env) (ops:List Oper) (bx:Option (List (Nat×af))):List Oper→St→St→Prop
 |nil (s:St):Trace E ops bx [] s s
 |cons {o:Oper} {l:List Oper} {s s1 s':St} (h:rT E ops bx s o s1) (t:Trace E ops bx l s1 s'):Trace E ops bx (o::l) s s'
theorem jB {α:Type} {c:Bool} {x y:Option α} {r:α} (h:sel c x y=some r):(c=true∧x=some r)∨(c=false∧y=some r):=by
 cases c
 ·exact .inr ⟨rfl,h⟩
 ·exact .inl ⟨rfl,h⟩
theorem SQ {fr:af} {d:Nat} {x:V} (h:slot fr d=x):fr.set d x=fr:=by
 by_cases a:d<fr.length
 ·unfold slot at h
  rw[sV,gP a] at h;simp only[qx] at h;rw[←h];exact List.set_getElem_self a
 ·exact List.set_eq_of_length_le (by omega)
theorem EM {β:Type}: ∀(l:af) (k:af→β),FN l k=k l
 |[],_=>rfl
 |v::l,k=>by unfold FN;exact EM l _
theorem Rl {α:Type} (K:St→Option α):pf K=K:=by
 funext s
 unfold pf;rw[EM]
inductive uD (E:Env) (ops:List Oper):List Oper→St→V→St→Prop
 |here {o:Oper} {l:List Oper} {s s':St} {eff:Eff} {v:V} (hw:jo ops s o=some true) (ho:zS E s.fr s.bx o=some (true,eff)) (h:FW E s eff v s'):uD E ops (o::l) s v s'
 |next {o:Oper} {l:List Oper} {s s1 s':St} {v:V} (h:rT E ops none s o s1) (t:uD E ops l s1 v s'):uD E ops (o::l) s v s'
theorem SS {α:Type} {call:Caller α} (i:gz E call) {bx:Option (List (Nat×af))} {K:St→Option α} {KP:V→St→Option α} {r:α} (h:Q0 E call bx o s K KP=some r):
  (∃eff s',(zS E s.fr (match bx with|some b=>b|none=>s.bx) o=some (true,eff)∧(bx.isSome&&FM eff)=false∧BH E bx.isSome s o.dst eff s')∧K s'=some r)∨
  (bx=none∧ ∃eff v s',zS E s.fr s.bx o=some (true,eff)∧FW E s eff v s'∧KP v s'=some r):=by
 unfold Q0 at h;split at h
 ·cases h
 ·rename_i c eff f
  cases d:bx.isSome&&FM eff with
  |true=>rw[d] at h;cases h
  |false=>
  rw[d,gF] at h;rcases jB h with⟨rfl,h⟩|⟨_,h⟩
  ·rcases SG i h with⟨s',e,a⟩|⟨g,v,s',e,a⟩
   ·exact .inl ⟨eff,s',⟨f,d,e⟩,a⟩
   ·cases bx with
    |some b=>cases g
    |none=>exact .inr ⟨rfl,eff,v,s',f,e,a⟩
  ·cases h
theorem dB {α:Type} {call:Caller α} (w:gz E call) {ops:List Oper} {bx:Option (List (Nat×af))} {KP:V→St→Option α}: ∀(l:List Oper) (s:St) (K:St→Option α) (r:α),jm E call ops bx KP l s K=some r→
  (∃s',Trace E ops bx l s s'∧K s'=some r)∨(bx=none∧ ∃v s',uD E ops l s v s'∧KP v s'=some r)
 |[],s,K,r,h=> .inl ⟨s,.nil s,h⟩
 |o::l,s,K,r,h=>by
  have i: ∀(m:jo ops s o=some false),jm E call ops bx KP l (s.put o.dst (.tup [])) K=some r→(∃s',Trace E ops bx (o::l) s s'∧K s'=some r)∨(bx=none∧ ∃v s',uD E ops (o::l) s v s'∧KP v s'=some r):=by
   intro m h;rcases dB w l _ K r h with⟨s',p,q⟩|⟨f,v,s',p,q⟩
   ·exact .inl ⟨s',.cons (.inr ⟨m,rfl⟩) p,q⟩
   ·subst f
    exact .inr ⟨rfl,v,s',.next (.inr ⟨m,rfl⟩) p,q⟩
  have take: ∀(m:jo ops s o=some true),Q0 E call bx o s (fun s=>jm E call ops bx KP l s K) KP=some r→(∃s',Trace E ops bx (o::l) s s'∧K s'=some r)∨(bx=none∧ ∃v s',uD E ops (o::l) s v s'∧KP v s'=some r):=by
   intro m h;rcases SS w h with⟨eff,z,u,h3⟩|⟨f,eff,v,s',u,y,h3⟩
   ·rcases dB w l z K r h3 with⟨s',p,q⟩|⟨f,v,s',p,q⟩
    ·exact .inl ⟨s',.cons (.inl ⟨m,eff,u⟩) p,q⟩
    ·subst f
     exact .inr ⟨rfl,v,s',.next (.inl ⟨m,eff,u⟩) p,q⟩
   ·subst f
    exact .inr ⟨rfl,v,s',.here m u y,h3⟩
  unfold jm at h;simp only[Rl] at h;split at h
  ·rename_i n
   exact take (by unfold jo;rw[n]) h
  ·rename_i j k n
   unfold RE at h;split at h
   ·cases h
   ·rename_i A g
    split at h
    ·cases h
    ·rename_i d t
     split at h
     ·rename_i b f
      have x: ∀c,b=c→(⟨s.fr.set d (.bool c),s.bx⟩:St)=s:=by
       intro c e;subst e;rw[SQ f]
      rcases jB h with⟨a,h⟩|⟨a,h⟩
      ·rw[x true a] at h
       cases k with
       |true=>exact take (by unfold jo;simp[n,g,t,f,a]) h
       |false=>exact i (by unfold jo;simp[n,g,t,f,a]) h
      ·rw[x false a] at h
       cases k with
       |true=>exact i (by unfold jo;simp[n,g,t,f,a]) h
       |false=>exact take (by unfold jo;simp[n,g,t,f,a]) h
     ·rename_i f
      exact i (by unfold jo;simp[n,g,t,f]) h
     ·cases h
theorem lm (hE:qy E) {ops:Array Oper} {Q:Exit→Act→World→Prop}: ∀(l:List Oper) (i:Nat) (s s':St) (g:Gh) (a:Act) (w:World),ops.toList.drop i=l→Trace E ops.toList none l s s'→Inv E B G0 w0 s g a w→
  (∀g' e w',Inv E B G0 w0 s' g' e w'→Q .normal e w')→wpOps E.P ops Q (List.range' i l.length) a w
 |[],i,s,s',g,a,w,f,b,h,d=>by
  cases b;exact d g a w h
 |o::l,i,s,s',g,a,w,f,b,h,d=>by
  cases b with
  |cons r b=>
   rename_i q;have t:ops[i]? =some o:=by
    have:=congrArg (fun l=>l[0]?) f;simpa using this
   have c:ops.toList.drop (i+1)=l:=by
    rw[←Kk,f];rfl
   rw[fQ,acn];unfold wpOps;rw[t];simp only;rcases r with⟨k,eff,n,_,p⟩|⟨k,rfl⟩
   ·rw[if_pos (dP h.fr k)]
    refine .inl ?_;have j:=iC (ac:=a) (B:=B) (w:=w) (g:=g) hE rfl h.gok h.own h.bxs h.hB h.m1 h.fB (fun y=>cr h.fr h.fB y) n;exact p8 h j (fun _ _ h=>h) (fun _=>rfl) p fun g' e w' m _=>lm hE l (i+1) q s' g' e w' c b m d
   ·rw[if_neg (by rw[dP h.fr k];decide)]
    exact lm hE l (i+1) _ s' g _ w c b (h.put o.dst (v:=.tup []) (u:=undef) ⟨[],rfl,.nil⟩) d
theorem pJ (hE:qy E) {ops:Array Oper} {Q:Exit→Act→World→Prop} {v:V}: ∀(l:List Oper) (i:Nat) (s s':St) (g:Gh) (a:Act) (w:World),ops.toList.drop i=l→uD E ops.toList l s v s'→Inv E B G0 w0 s g a w→
  (∀g' j w' u,Inv E B G0 w0 s' g' j w'→bQ v=some u→Q (.panic [{v:=u,recovered:=false}]) j w')→wpOps E.P ops Q (List.range' i l.length) a w
 |[],i,s,s',g,a,w,k,c,h,f=>by cases c
 |o::l,i,s,s',g,a,w,k,c,h,f=>by
  have z:ops[i]? =some o:=by
   have:=congrArg (fun l=>l[0]?) k;simpa using this
  have e:ops.toList.drop (i+1)=l:=by
   rw[←Kk,k];rfl
  rw[fQ,acn];unfold wpOps;rw[z];simp only
  cases c with
  |here d n p=>
   rw[if_pos (dP h.fr d)];refine .inl ?_;have b:=iC (ac:=a) (B:=B) (w:=w) (g:=g) hE rfl h.gok h.own h.bxs h.hB h.m1 h.fB (fun y=>cr h.fr h.fB y) n;exact VG h b p fun g' w' u m r=>f g' a w' u m r
  |next x c=>
   rename_i t;rcases x with⟨d,eff,n,_,q⟩|⟨d,rfl⟩
   ·rw[if_pos (dP h.fr d)]
    refine .inl ?_;have b:=iC (ac:=a) (B:=B) (w:=w) (g:=g) hE rfl h.gok h.own h.bxs h.hB h.m1 h.fB (fun y=>cr h.fr h.fB y) n;exact p8 h b (fun _ _ h=>h) (fun _=>rfl) q fun g' j w' m _=>pJ hE l (i+1) t s' g' j w' e c m f
   ·rw[if_neg (by rw[dP h.fr d];decide)]
    exact pJ hE l (i+1) _ s' g _ w e c (h.put o.dst (v:=.tup []) (u:=undef) ⟨[],rfl,.nil⟩) f
end
structure nS where
 d:Nat
 v:V
 bx:Option (af)
def nS.app (c:nS) (s:St):St:=⟨s.fr.set c.d c.v,match c.bx with|some cs=>(c.d,cs)::s.bx|none=>s.bx⟩
def aR (sel:Nat→Bool):List nS→Nat→St→St
 |[],_,s=>s
 |c::l,k,s=>aR sel l (k+1) (if sel k=true then c.app s else s)
structure Alike (s s':St):Prop where
 fr:s.fr=s'.fr
 bx: ∀k,aA s.bx k=aA s'.bx k
theorem Alike.refl (s:St):Alike s s:=⟨rfl,fun _=>rfl⟩
theorem Alike.trans {a b c:St} (h:Alike a b) (k:Alike b c):Alike a c:=⟨h.fr.trans k.fr,fun j=>(h.bx j).trans (k.bx j)⟩
theorem Alike.app {a b:St} (h:Alike a b) (c:nS):Alike (c.app a) (c.app b):=by
 refine⟨by simp[nS.app,h.fr],fun k=>?_⟩;unfold nS.app
 cases c.bx with
 |none=>exact h.bx k
 |some d=>simp only[aA];rw[h.bx k]
theorem Alike.comm (s:St) {c a:nS} (h:c.d≠a.d):Alike (c.app (a.app s)) (a.app (c.app s)):=by
 refine⟨by simp[nS.app,List.set_comm _ _ (fun e=>h e.symm)],fun k=>?_⟩;unfold nS.app
 cases j:c.bx<;>cases g:a.bx<;>simp only[aA]
 by_cases f:c.d=k
 ·have b:(c.d==k)=true:=by simpa using f
  have i:(a.d==k)=false:=by rw[qD];intro e;exact h (f.trans e.symm)
  rw[b,i];rfl
 ·have b:(c.d==k)=false:=by simpa using f
  rw[b];rfl
theorem zn (sel:Nat→Bool): ∀(l:List nS) (k:Nat) (s s':St),Alike s s'→Alike (aR sel l k s) (aR sel l k s')
 |[],_,_,_,h=>h
 |c::l,k,s,s',h=>by
  unfold aR;refine zn sel l (k+1) _ _ ?_;split
  ·exact h.app c
  ·exact h
theorem EN (sel:Nat→Bool) (c:nS): ∀(l:List nS) (k:Nat) (s:St),(∀c'∈l,c'.d≠c.d)→Alike (c.app (aR sel l k s)) (aR sel l k (c.app s))
 |[],_,_,_=> .refl _
 |c'::l,k,s,h=>by
  unfold aR;refine(EN sel c l (k+1) _ fun x hx=>h x (xE _ hx)).trans (zn sel l (k+1) _ _ ?_);split
  ·exact Alike.comm s fun e=>h c' vg e.symm
  ·exact .refl _
theorem jb (sel a:Nat→Bool): ∀(l:List nS) (k:Nat) (s:St),(∀i,k≤i→i<k+l.length→sel i=a i)→aR sel l k s=aR a l k s
 |[],_,_,_=>rfl
 |c::l,k,s,h=>by
  unfold aR;rw[h k (iI _) (by simp)];exact jb sel a l (k+1) _ fun i d b=>h i (by omega) (by simp;omega)
theorem uT (sel:Nat→Bool) (i:Nat): ∀(l:List nS) (k:Nat) (s:St) (c:nS),k≤i→l[i-k]? =some c→sel i=false→(l.map (·.d)).Nodup→
  Alike (c.app (aR sel l k s)) (aR (fun j=>if j=i then true else sel j) l k s)
 |[],k,s,c,g,a,_,_=>by simp at a
 |c'::l,k,s,c,g,a,f,b=>by
  simp only[Aj,Xj] at b;by_cases e:i=k
  ·subst e
   simp only[Ya,Dt,aI] at a;subst a;unfold aR;rw[f,if_neg (by decide),if_pos rfl,if_pos rfl];refine(EN sel c' l (i+1) s fun x hx e=>b.1 (e▸acA hx)).trans ?_;rw[jb sel (fun j=>if j=i then true else sel j) l (i+1) _ fun j n _=>by
    have:j≠i:=by omega
    simp[this]]
   exact .refl _
  ·unfold aR
   have m: ¬k=i:=fun h=>e h.symm
   rw[if_neg m];refine uT sel i l (k+1) _ c (by omega) ?_ f b.2;rw[show i-k=(i-(k+1))+1 by omega] at a;simpa using a
theorem EO (sel:Nat→Bool): ∀(l:List nS) (k:Nat) (s:St),(aR sel l k s).fr.length=s.fr.length
 |[],_,_=>rfl
 |c::l,k,s=>by
  unfold aR;rw[EO sel l (k+1)];split
  ·simp[nS.app]
  ·rfl
theorem zo {fr:af} {d t:Nat} {v:V} (h:t≠d):slot (fr.set d v) t=slot fr t:=by
 unfold slot;rw[sV,sV,List.getElem?_set_ne (fun e=>h e.symm)]
theorem JD {fr:af} {d:Nat} {v:V} (h:d<fr.length):slot (fr.set d v) d=v:=by
 unfold slot;rw[sV,abU h];rfl
theorem gU (sel:Nat→Bool) (t:Nat): ∀(l:List nS) (k:Nat) (s:St),(∀c∈l,c.d≠t)→slot (aR sel l k s).fr t=slot s.fr t
 |[],_,_,_=>rfl
 |c::l,k,s,h=>by
  unfold aR;rw[gU sel t l (k+1) _ fun x hx=>h x (xE _ hx)];split
  ·exact zo fun e=>h c vg e.symm
  ·rfl
theorem jK (sel:Nat→Bool) (j:Nat): ∀(l:List nS) (k:Nat) (s:St) (c:nS),k≤j→l[j-k]? =some c→(l.map (·.d)).Nodup→c.d<s.fr.length→slot (aR sel l k s).fr c.d=if sel j=true then c.v else slot s.fr c.d
 |[],k,s,c,h,a,_,_=>by simp at a
 |c'::l,k,s,c,h,a,f,g=>by
  simp only[Aj,Xj] at f;unfold aR;by_cases e:j=k
  ·subst e
   simp only[Ya,Dt,aI] at a;subst a;rw[gU sel c'.d l (j+1) _ fun x hx e=>f.1 (e▸acA hx)];split
   ·exact JD g
   ·rfl
  ·rw[show j-k=(j-(k+1))+1 by omega] at a
   have b:l[j-(k+1)]? =some c:=by simpa using a
   rw[jK sel j l (k+1) _ c (by omega) b f.2 (by split<;>simpa[nS.app] using g)];split
   ·rfl
   ·split
    ·refine zo fun i=>f.1 ?_
     rw[←i];exact acA (Dp b)
    ·rfl
section
variable {E:Env} {B:Own} {G0:aJ} {w0:World}
theorem Inv.alike {s s':St} {g:Gh} {a:Act} {w:World} (h:Inv E B G0 w0 s g a w) (k:Alike s s'):Inv E B G0 w0 s' g a w:=
 ⟨by rw[←k.fr];exact h.fr,h.df,h.gok,h.own,⟨fun j d c=>h.bxs.1 j d ((k.bx j).trans c),fun j l d i c f=>h.bxs.2 j l d i ((k.bx j).trans c) ((k.bx l).trans f)⟩,h.iq,h.hB,h.ext,h.glob,h.g1,fun j d L v e m b c=>h.zb j d L v e m b ((k.bx j).trans c)⟩
end
theorem O8 {P:Program} {r k:Operand→V} {bx:List (Nat×af)} {o:Oper} (h: ∀x∈o.op.operands.toList,r x=k x):Kq P r bx o=Kq P k bx o:=by
 have s: ∀l:List Operand,(∀x∈l,r x=k x)→l.map r=l.map k:=fun l hl=>U0 hl
 unfold Kq;simp only
 cases a:o.op with
 |move x=>simp only;rw[h x (by simp[a,Op.operands])]
 |assign x=>simp only;rw[h x (by simp[a,Op.operands])]
 |pick c x y=>simp only;rw[h c (by simp[a,Op.operands]),h x (by simp[a,Op.operands]),h y (by simp[a,Op.operands])]
 |alloc t=>rfl
 |box t x=>simp only;rw[h x (by simp[a,Op.operands])]
 |build t e=>
  simp only;have:(e.toList.map fun(i,x)=>(i,r x))=e.toList.map fun(i,x)=>(i,k x):=by
   refine U0 fun p A=>?_
   obtain⟨i,x⟩:=p;simp only;rw[h x (by rw[a];simp only[Op.operands];simp;exact⟨i,by simpa using A⟩)]
  rw[this]
 |buildSlice t n e=>
  simp only;have:(e.toList.map fun(i,x)=>(i,r x))=e.toList.map fun(i,x)=>(i,k x):=by
   refine U0 fun p A=>?_
   obtain⟨i,x⟩:=p;simp only;rw[h x (by rw[a];simp only[Op.operands];simp;exact⟨i,by simpa using A⟩)]
  rw[this]
 |load t x=>simp only;rw[h x (by simp[a,Op.operands])]
 |store t x y=>simp only;rw[h x (by simp[a,Op.operands]),h y (by simp[a,Op.operands])]
 |nilCheck x=>simp only;rw[h x (by simp[a,Op.operands])]
 |binOp op t x y I=>simp only;rw[h x (by simp[a,Op.operands]),h y (by simp[a,Op.operands])]
 |makeInterface t x=>simp only;rw[h x (by simp[a,Op.operands])]
 |typeAssert x J t b=>
  cases b with
  |true=>simp only;rw[h x (by simp[a,Op.operands])]
  |false=>rfl
 |panic x=>simp only;rw[h x (by simp[a,Op.operands])]
 |unOp op t x=>simp only;rw[h x (by simp[a,Op.operands])]
 |convert H D x=>simp only;rw[h x (by simp[a,Op.operands])]
 |makeFunc fn first w=>
  cases fn with
  |func f=>
   simp only;rw[s w.toList fun x hx=>h x (by rw[a];simp only[Op.operands];simp;right;simpa using hx),s first.toList fun x hx=>h x (by rw[a];simp only[Op.operands];simp;left;simpa using hx)]
  |_=>rfl
 |makeSlice t l c=>simp only;rw[h l (by simp[a,Op.operands]),h c (by simp[a,Op.operands])]
 |slice t x C B G=>
  cases G with
  |some m=>rfl
  |none=>
   simp only;rw[h x (by simp[a,Op.operands])];have F:C.map r=C.map k:=by
    cases C with
    |none=>rfl
    |some y=>simp only[sW];rw[h y (by simp[a,Op.operands])]
   have E:B.map r=B.map k:=by
    cases B with
    |none=>rfl
    |some y=>simp only[sW];rw[h y (by simp[a,Op.operands])]
   rw[F,E]
 |fieldAddr t x f=>simp only;rw[h x (by simp[a,Op.operands])]
 |field t x f=>simp only;rw[h x (by simp[a,Op.operands])]
 |indexAddr t x i=>simp only;rw[h x (by simp[a,Op.operands]),h i (by simp[a,Op.operands])]
 |index t x i=>simp only;rw[h x (by simp[a,Op.operands]),h i (by simp[a,Op.operands])]
 |extract x i=>simp only;rw[h x (by simp[a,Op.operands])]
 |call c=>
  obtain⟨j,args,g⟩:=c;have d: ∀x∈args.toList,r x=k x:=fun x hx=>h x (by rw[a];cases j<;>simp only[Op.operands,Call.operands]<;>simp<;>(try right)<;>simpa using hx)
  cases j with
  |value f=>
   simp only;rw[h f (by rw[a];simp[Op.operands,Call.operands]),s args.toList d]
  |invoke q m=>rfl
  |builtin b=>
   simp only;have v: ∀(f:V→V→Bb),(match args.toList with|[x,y]=>f (r x) (r y)|_=>none)=(match args.toList with|[x,y]=>f (k x) (k y)|_=>none):=by
    intro f
    cases hl:args.toList with
    |nil=>rfl
    |cons x l=>
     cases l with
     |nil=>rfl
     |cons y l=>
      cases l with
      |nil=>simp only;rw[d x (by rw[hl];simp),d y (by rw[hl];simp)]
      |cons z l=>rfl
   cases b<;>simp only
   ·
    cases hl:args.toList with
    |nil=>rfl
    |cons x l=>
     cases l with
     |nil=>rfl
     |cons y l=>
      cases l with
      |nil=>simp only;rw[d x (by rw[hl];simp),d y (by rw[hl];simp)]
      |cons z l=>rfl
   ·
    cases hl:args.toList with
    |nil=>cases g.toList with
     |nil=>rfl
     |cons t g=>cases g<;>rfl
    |cons x l=>
     cases l with
     |nil=>
      cases g.toList with
      |nil=>rfl
      |cons t g=>
       cases g with
       |nil=>simp only;rw[d x (by rw[hl];simp)]
       |cons u g=>rfl
     |cons y l=>cases g.toList with
      |nil=>rfl
      |cons t g=>cases g<;>rfl
   ·
    cases hl:args.toList with
    |nil=>cases g.toList with
     |nil=>rfl
     |cons t g=>cases g<;>rfl
    |cons x l=>
     cases l with
     |nil=>
      cases g.toList with
      |nil=>rfl
      |cons t g=>
       cases g with
       |nil=>simp only;rw[d x (by rw[hl];simp)]
       |cons u g=>rfl
     |cons y l=>cases g.toList with
      |nil=>rfl
      |cons t g=>cases g<;>rfl
   ·exact v (rO true)
   ·exact v (rO false)
 |_=>rfl
theorem yC {E:Env} {fr fr':af} {bx:List (Nat×af)} {o:Oper} (h: ∀x∈o.op.operands.toList,iO E fr x=iO E fr' x):zS E fr bx o=zS E fr' bx o:=by
 have g:yV E fr o=yV E fr' o:=by
  unfold yV
  cases d:o.op with
  |lookup t x i c=>
   rw[d] at h
   cases c with
   |false=>simp only[h x (by simp[Op.operands]),h i (by simp[Op.operands])]
   |true=>rfl
  |_=>rfl
 unfold zS;rw[g];simp only;have e: ∀f:V→V,∀bx:List (Nat×af),Kq E.P (fun x=>f (iO E fr x)) bx o=Kq E.P (fun x=>f (iO E fr' x)) bx o:=fun f bx=>O8 fun x hx=>by rw[h x hx]
 have a:(o.op.operands.toList.any fun x=>(iO E fr x).Ib)=o.op.operands.toList.any fun x=>(iO E fr' x).Ib:=by
  rw[D8,Dw,Dw];constructor
  ·rintro⟨x,hx,b⟩;exact⟨x,hx,by rw[←h x hx];exact b⟩
  ·rintro⟨x,hx,b⟩;exact⟨x,hx,by rw[h x hx];exact b⟩
 rw[a,e V.YB [],e V.yS bx,e (fun x=>x) bx]
theorem uU {E:Env} {fr fr':af} {l:List Operand} (h: ∀t∈tmpsOf l,slot fr t=slot fr' t): ∀x∈l,iO E fr x=iO E fr' x:=by
 intro x hx
 cases x with
 |tmp t=>exact h t (by unfold tmpsOf;rw[List.mem_filterMap];exact⟨_,hx,rfl⟩)
 |_=>rfl
section
variable {E:Env} {B:Own} {G0:aJ} {w0:World}
theorem Inv.drew {s:St} {g:Gh} {a:Act} {w:World} (h:Inv E B G0 w0 s g a w):Inv E B G0 w0 s g a {w with drawn:=w.drawn+1}:=
 ⟨h.fr,h.df,h.gok,h.own,h.bxs,⟨⟨h.iq.iq.os,h.iq.iq.tape,h.iq.iq.output,h.iq.iq.size,h.iq.iq.block⟩,h.iq.row,h.iq.map⟩,h.hB,h.ext,h.glob,h.g1,h.zb⟩
theorem SV {ops:List Oper} {bx:List (Nat×af)} {s s':St} {o:Oper} {d:Nat} (z:o.dst=some d) (h:rT E ops (some bx) s o s'):
  ∃c:nS,c.d=d∧s'=c.app s∧ ∀S:St,jo ops S o=jo ops s o→zS E S.fr bx o=zS E s.fr bx o→S.bn d=true→S.iR d=true→rT E ops (some bx) S o (c.app S):=by
 rcases h with⟨w,eff,I,a,l⟩|⟨w,rfl⟩
 ·simp only[Option.isSome_some,Fy] at a
  have g: ∀c:nS,c.d=d→s'=c.app s→(∀S:St,S.bn d=true→S.iR d=true→BH E true S o.dst eff (c.app S))→_:=fun c C t h3=>
   (⟨c,C,t,fun S p D hl u=> .inl ⟨p.trans w,eff,D.trans I,by simpa using a,h3 S hl u⟩⟩: ∃c:nS,c.d=d∧s'=c.app s∧ ∀S:St,jo ops S o=jo ops s o→zS E S.fr bx o=zS E s.fr bx o→S.bn d=true→S.iR d=true→rT E ops (some bx) S o (c.app S))
  rw[z] at l g
  cases eff with
  |val v=>exact g ⟨d,v,none⟩ rfl l fun S _ _=>rfl
  |newSl e sh xs=>exact g ⟨d,.sl e sh none xs,none⟩ rfl l fun S _ _=>rfl
  |own e sh xs=>
   obtain⟨k,n,_,m,rfl⟩:=l;simp only[aI] at n;subst n;exact g ⟨d,.sl e sh (some d) xs,none⟩ rfl rfl fun S hl _=>⟨d,rfl,JA hl,m,rfl⟩
  |app L e sh xs=>cases a
  |lD e G=>
   obtain⟨k,n,_,F,m,rfl⟩:=l;simp only[aI] at n;subst n;exact g ⟨d,.box d 0,some G⟩ rfl rfl fun S _ u=>⟨d,rfl,u,F,m,rfl⟩
  |put k off G=>cases a
  |call f args mb ml=>
   rcases l with⟨B,l⟩|⟨A,_⟩|⟨A,_⟩
   ·rcases l with⟨k,r,n,_,m,J,rfl⟩|⟨r,n,_⟩
    ·simp only[aI] at n
     subst n;exact g ⟨d,r.Ic d,none⟩ rfl rfl fun S hl _=> .inl ⟨B,.inl ⟨d,r,rfl,hl,m,J,rfl⟩⟩
    ·cases n
   ·cases A
   ·cases A
  |ku v=>exact l.elim
  |pick b x y=>
   cases b with
   |true=>exact g ⟨d,x,none⟩ rfl l fun S _ _=>rfl
   |false=>exact g ⟨d,y,none⟩ rfl l fun S _ _=>rfl
  |Bd L e k ys=>cases a
  |ownz e sh xs c H q=>cases a
  |appz L e sh xs i c H q=>cases a
  |Be L e sh xs i c L3 H q ys=>cases a
  |alts i vs=>
   obtain⟨j,v,C,t,rfl⟩:=l;exact g ⟨d,v,none⟩ rfl rfl fun S _ _=>⟨j,v,C,t,rfl⟩
 ·rw[z]
  exact⟨⟨d,.tup [],none⟩,rfl,rfl,fun S p _ _ _=> .inr ⟨p.trans w,by rw[z];rfl⟩⟩
theorem uV {ops:List Oper} {bx:List (Nat×af)}: ∀(l:List Oper) (s s':St),(∀o∈l,∃d,o.dst=some d)→Trace E ops (some bx) l s s'→
  ∃a:List nS,a.length=l.length∧(∀(i:Nat) o c,l[i]? =some o→a[i]? =some c→o.dst=some c.d∧
   ∃n,Alike n (aR (fun j=>decide (j<i)) a 0 s)∧n=aR (fun j=>decide (j<i)) a 0 s∧ ∀S:St,jo ops S o=jo ops n o→zS E S.fr bx o=zS E n.fr bx o→S.bn c.d=true→S.iR c.d=true→rT E ops (some bx) S o (c.app S))∧
   s'=aR (fun _=>true) a 0 s
 |[],s,s',_,h=>by
  cases h;exact⟨[],rfl,fun i o c h=>by simp at h,rfl⟩
 |o::l,s,s',z,h=>by
  cases h with
  |cons G C=>
   rename_i H;obtain⟨d,v⟩:=z o vg;obtain⟨c,u,rfl,m⟩:=SV v G;obtain⟨a,p,w,r⟩:=uV l _ s' (fun x hx=>z x (xE _ hx)) C;have e: ∀(sel:Nat→Bool) (b:Nat→Bool) (k:Nat),(∀j,sel (j+1)=b j)→ ∀(a:List nS) (k:Nat) (s:St),aR sel a (k+1) s=aR b a k s:=by
    intro sel b _ q a;induction a with
    |nil=>intro k s;rfl
    |cons c a y=>
     intro k s;unfold aR;rw[q k,y]
   refine⟨c::a,by simp[p],?_,?_⟩
   ·intro i o' B g f
    cases i with
    |zero=>
     simp only[Dt,aI] at g f;subst g;subst f;have t:aR (fun j=>decide (j<0)) (c::a) 0 s=s:=by
      have: ∀(a:List nS) (k:Nat) (s:St),aR (fun j=>decide (j<0)) a k s=s:=by
       intro a;induction a with
       |nil=>intro k s;rfl
       |cons c a y=>intro k s;unfold aR;rw[y];simp
      exact this _ _ _
     exact⟨by rw[v,u],s,by rw[t];exact .refl _,t.symm,by rw[u];exact m⟩
    |succ i=>
     simp only[ZZ] at g f;obtain⟨F,n,A,h3,D⟩:=w i o' B g f;have t:aR (fun j=>decide (j<i+1)) (c::a) 0 s=aR (fun j=>decide (j<i)) a 0 (c.app s):=by
      rw[aR];rw[if_pos (by simp)];exact e _ _ 0 (fun j=>by simp) a 0 _
     exact⟨F,n,by rw[t];exact A,by rw[t];exact h3,D⟩
   ·rw[r,aR,if_pos rfl]
    exact(e (fun _=>true) (fun _=>true) 0 (fun j=>rfl) a 0 _).symm
theorem EP {l:List Nat} (h:l.Nodup) {i j:Nat} (d:i<l.length) (c:j<l.length) (e:l[i]=l[j]):i=j:=by
 have b:=List.pairwise_iff_getElem.1 h;rcases Nat.lt_trichotomy i j with a|a|a
 ·exact absurd e (b i j d c a)
 ·exact a
 ·exact absurd e.symm (b j i c d a)
theorem vL {α:Type} {l:List α} {p:α×Nat→Bool} (h:l.zipIdx.all p=true): ∀(i:Nat) (x:α),l[i]? =some x→p (x,i)=true:=by
 intro i x hx;rw[ko] at h;exact h (x,i) (List.mem_zipIdx_iff_getElem?.2 hx)
def Closed (ops:List Oper) (sel:Nat→Bool):Prop:=∀(j:Nat) o,ops[j]? =some o→sel j=true→ ∀e∈o.after,Region.binds .any e=true→sel e.on=true
theorem jl {ops:List Oper} {sel:Nat→Bool} (c:Closed ops sel): ∀(n j i:Nat),waits ops n j i=true→sel j=true→sel i=true
 |0,_,_,h,_=>by cases h
 |n+1,j,i,h,g=>by
  unfold waits at h;split at h
  ·rename_i o d
   rw[Dw] at h;obtain⟨e,f,h⟩:=h;rw[bL,Fx,ig] at h;have b:=c j o d g e (by simpa using f) h.1;rcases h.2 with a|a
   ·rw[←a];exact b
   ·exact jl c n e.on i a b
  ·cases h
theorem wR (sel:Nat→Bool): ∀(l:List nS) (k:Nat) (s:St) (p:Nat×af),p∈(aR sel l k s).bx→p∈s.bx∨ ∃(j:Nat) (c:nS) (a:af),l[j]? =some c∧sel (k+j)=true∧c.bx=some a∧p=(c.d,a)
 |[],k,s,p,h=> .inl h
 |c::l,k,s,p,h=>by
  unfold aR at h;rcases wR sel l (k+1) _ p h with h|⟨j,f,a,m,e,h3,i⟩
  ·split at h
   ·rename_i g
    unfold nS.app at h
    cases b:c.bx with
    |none=>rw[b] at h;exact .inl h
    |some a=>
     rw[b] at h;simp only[ZK] at h;rcases h with rfl|h
     ·exact .inr ⟨0,c,a,rfl,by simpa using g,b,rfl⟩
     ·exact .inl h
   ·exact .inl h
  ·exact .inr ⟨j+1,f,a,by simpa using m,by rw[show k+(j+1)=k+1+j by omega];exact e,h3,i⟩
theorem GJ (l:List nS): ∀(k:Nat) (s:St),(∀p∈s.bx,p∈(aR (fun _=>true) l k s).bx)∧ ∀(j:Nat) (c:nS) (a:af),l[j]? =some c→c.bx=some a→(c.d,a)∈(aR (fun _=>true) l k s).bx:=by
 induction l with
 |nil=>intro k s;exact⟨fun p h=>h,fun j c a h=>by simp at h⟩
 |cons c l m=>
  intro k s;unfold aR;rw[if_pos rfl];obtain⟨f,i⟩:=m (k+1) (c.app s);refine⟨fun p e=>f p ?_,fun j n a b g=>?_⟩
  ·unfold nS.app
   cases c.bx with
   |none=>exact e
   |some a=>exact xE _ e
  ·cases j with
   |zero=>
    simp only[Dt,aI] at b;subst b;refine f _ ?_;unfold nS.app;rw[g];exact vg
   |succ j=>exact i j n a (by simpa using b) g
theorem nk {b:Bool} (h:b=false):aT b=true:=by subst h;rfl
theorem EQ {ops:List Oper} {f:St} {a:List nS} {sel:Nat→Bool} (B:a.length=ops.length) (H: ∀(i:Nat) o c,ops[i]? =some o→a[i]? =some c→o.dst=some c.d) (T:(a.map (·.d)).Nodup) (hfr: ∀c∈a,c.d<f.fr.length)
  (k:dO ops f=true) (n:je ops (aR (fun _=>true) a 0 f)=true) (Q:Closed ops sel) {i:Nat} {c:nS} (S:a[i]? =some c) (m:sel i=false):
  (aR sel a 0 f).bn c.d=true∧(aR sel a 0 f).iR c.d=true:=by
 have L:i<ops.length:=by rw[←B];exact(List.getElem?_eq_some_iff.1 S).1
 have R:=gP L;have O:=H i _ c R S;unfold dO at k;rw[ko] at k;have k:=k _ (Hg L);rw[O] at k;simp only[bL] at k;obtain⟨v,w⟩:=k;unfold je at n;simp only at n;have n:=vL n i _ R;simp only[O,bL] at n;obtain⟨J,D⟩:=n;have G: ∀t,t<f.fr.length→(slot (aR sel a 0 f).fr t).dG c.d=false∧(slot (aR sel a 0 f).fr t).fO c.d=false:=by
  intro t A;have h0:(slot f.fr t).dG c.d=false∧(slot f.fr t).fO c.d=false:=by
   have C:slot f.fr t∈f.fr:=by
    unfold slot;rw[sV,gP A];exact Hg A
   exact⟨qf v _ C,vZ w _ C⟩
  by_cases N: ∃s∈a,s.d=t
  ·obtain⟨s,C,rfl⟩:=N
   obtain⟨j,u⟩:=Du C;have X:j<ops.length:=by rw[←B];exact(List.getElem?_eq_some_iff.1 u).1
   have K:=gP X;rw[jK sel j a 0 f s (D9 _) (by simpa using u) T A];split
   ·rename_i g
    have b:=vL J j _ K;simp only[H j _ s K u] at b;rw[jK (fun _=>true) j a 0 f s (D9 _) (by simpa using u) T A,if_pos rfl] at b;simp only[Fx,bL,ig] at b;rcases b with(b|b)|b
    ·subst b;rw[m] at g;cases g
    ·exact⟨eZ b.1,eZ b.2⟩
    ·have:=jl Q _ _ _ b g
     rw[m] at this;cases this
   ·exact h0
  ·rw[gU sel t a 0 f fun s C e=>N ⟨s,C,e⟩]
   exact h0
 have l: ∀x∈(aR sel a 0 f).fr,x.dG c.d=false∧x.fO c.d=false:=by
  intro x hx;obtain⟨t,A,rfl⟩:=acz hx;have h:=G t (by rw[EO] at A;exact A);unfold slot at h;rw[sV,gP A] at h;exact h
 have E: ∀p∈(aR sel a 0 f).bx,p.1≠c.d∧ ∀x∈p.2,x.dG c.d=false∧x.fO c.d=false:=by
  intro p y;rcases wR sel a 0 f p y with y|⟨j,s,ds,u,g,W,rfl⟩
  ·unfold St.bn at v
   unfold St.iR at w;simp only[bL,ko] at v w;have h1:=v.2 p y;have b:=w.2 p y;refine⟨fun e=>?_,fun x hx=>⟨eZ (h1 x hx),eZ (b.2 x hx)⟩⟩;have:=eZ b.1;rw[qD] at this;exact this e
  ·rw[MG] at g
   have V:s.d≠c.d:=by
    intro e;have:i=j:=by
     have Z:i<(a.map (·.d)).length:=by rw[xC];exact(List.getElem?_eq_some_iff.1 S).1
     have F:j<(a.map (·.d)).length:=by rw[xC];exact(List.getElem?_eq_some_iff.1 u).1
     refine EP T Z F ?_;simp only[aco];rw[(List.getElem?_eq_some_iff.1 S).2,(List.getElem?_eq_some_iff.1 u).2,e]
    subst this;rw[m] at g;cases g
   refine⟨V,?_⟩;have C:=(GJ a 0 f).2 j s ds u W;rw[ko] at D;have b:=D _ C;simp only[Fx,ko,Dw,bL,ig] at b;rcases b with b|⟨⟨Y,I⟩,U,P,hw⟩
   ·exact fun x hx=>⟨eZ (b x hx).1,eZ (b x hx).2⟩
   ·exfalso
    have r:=List.mem_zipIdx_iff_getElem?.1 U;simp only at r P hw;have hj'L:I<ops.length:=(List.getElem?_eq_some_iff.1 r).1;have z:I<a.length:=by omega
    have q:=H I Y _ r (gP z);rw[P] at q;simp only[aI] at q;have:j=I:=by
     have F:j<(a.map (·.d)).length:=by rw[xC];exact(List.getElem?_eq_some_iff.1 u).1
     have M:I<(a.map (·.d)).length:=by rw[xC];exact z
     refine EP T F M ?_;simp only[aco];rw[(List.getElem?_eq_some_iff.1 u).2,q]
    subst this;have:=jl Q _ _ _ hw g;rw[m] at this;cases this
 unfold St.bn St.iR;simp only[bL,ko];exact⟨⟨fun x hx=>nk (l x hx).1,fun p y x hx=>nk ((E p y).2 x hx).1⟩,⟨fun x hx=>nk (l x hx).2,fun p y=>⟨nk (by rw[qD];exact(E p y).1),fun x hx=>nk ((E p y).2 x hx).2⟩⟩⟩
end
end Nt.Ev
