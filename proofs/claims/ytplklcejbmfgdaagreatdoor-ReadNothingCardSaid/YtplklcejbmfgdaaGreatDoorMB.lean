/-
  From operations to states: what an operation's effect leaves true. States, continued: boxes, labels' numbers, effects. A call that is handed boxes and labelled slices: what the callee may take for granted, and what its caller gets back. Nested rows: what their operations leave true. An operation's effect leaves the state right; a region in the text's order. A region that draws its order: what the text's order gives, every order gives. A region that draws its order: the rule.
-/
import Derived.Test.YtplklcejbmfgdaaGreatDoorMAA
set_option linter.unusedVariables false
set_option linter.unusedSimpArgs false
set_option linter.unusedSectionVars false
namespace Nt.Ev
open Go Go.RowKit
def rW:V→Bool
 | .sl _ _ (some _) _=>true
 |_=>false
def nu (G:aM) (w:World) (B:Nat→Prop):V→Value→Prop
 | .sl e sh (some _) xs,v=>iB G w B e sh xs v
 |x,v=>aN G x v
def fu (G:aM) (w:World) (B:Nat→Prop):V→Value→Prop
 | .tup vs,v=>∃a:List Value,v=.tuple a.toArray∧PW (nu G w B) vs a∧vs.countP rW≤1
 |x,v=>nu G w B x v
def af (E:Env) (f:Nat) (args:List V) (r:V):Prop:=
 ∀(G:aM) (w:World) (vs:List Value),vO G w→lS E G→PW (aN G) args vs→
  Calls E.P f vs.toArray w fun e w'=>∃v G',e=.returned v∧New w w' G G'∧fu G' w' (w.heap.size≤ ·) r v
def XC (E:Env) (f:Nat) (args:List V) (p:Bool) (x:V) (bs:List (List V)):Prop:=
 ∀(B:Own) (g:Gh) (w:World) (vs:List Value),B.df=[]→Inv E B g.G w ⟨bH 0 args,dG 0 args⟩ g ⟨vs.toArray,[]⟩ w→
  Calls E.P f vs.toArray w fun e w'=>∃g' v,e=(match p with|false=> .returned v|true=> .panicked [{v:=v,recovered:=false}])∧Inv E B g.G w ⟨[x],eX 0 args bs⟩ g' ⟨#[v],[]⟩ w'
def keepR (p:Bool) (x:V) (v:Value):Prop:=
 match p with
 |true=>bR x=some v
 |false=>WQ x=true∧(match x with| .tup []=>v=.tuple #[]|x=>aN (fun _=>none) x v)
def KC (E:Env) (f:Nat) (args:List V) (p:Bool) (x:V):Prop:=
 ∀(B:Own) (g:Gh) (w:World) (vs:List Value),B.df=[]→Inv E B g.G w ⟨bH 0 args,dG 0 args⟩ g ⟨vs.toArray,[]⟩ w→
  Calls E.P f vs.toArray w fun e w'=>∃v,e=(match p with|false=> .returned v|true=> .panicked [{v:=v,recovered:=false}])∧keepR p x v∧Below w.heap.size w w'
def Eh (E:Env) (dr:Bool) (s:St) (d:Option Nat) (eff:Eff) (s':St):Prop:=
 match eff with
 | .val v=>s'=s.put d v
 | .newSl e sh xs=>s'=s.put d (.sl e sh none xs)
 | .own e sh xs=>∃k,d=some k∧(s.put (some k) .any).bu k=true∧k<HL∧s'=s.put (some k) (.sl e sh (some k) xs)
 | .app L e sh xs=>∃k,d=some k∧(s.kill L).bu (fo true L k)=true∧k<HL∧s'=(s.kill L).put (some k) (.sl e sh (some (fo true L k)) xs)
 | .nG _ cs=>∃k,d=some k∧s.lN k=true∧cs.all (fun v=>aG (v.fV k))=true∧k<HL∧s'=⟨s.fr.set k (.box k 0),(k,cs)::s.bx⟩
 | .put k off cs=>∃old,au s.bx k=some old∧(jv (over old off cs)=true→jv old=true)∧s'=St.put ⟨s.fr,gI s.bx k (over old off cs)⟩ d (.tup [])
 | .call f args mb ml=>(iy args=false∧((∃k r,d=some k∧s.bu k=true∧k<HL∧af E f (args.map V.wO) r∧s'=s.put (some k) (r.LC k))∨(∃r,d=none∧af E f (args.map V.wO) r∧s'=s)))∨
  (dr=false∧ ∃x bs,XC E f args false x bs∧ou s d mb ml x bs=some s')∨(dr=false∧ ∃x,KC E f args false x∧s'=s.put d x)
 | .nX _=>False
 | .pick b x y=>s'=s.put d (match b with|true=>x|false=>y)
 | .DL L e k ys=>L<HL∧s'=St.put (s.forget.upd L e k ys) d (.tup [])
 | .alts i vs=>∃(j:Nat) (v:V),i=(j:Int)∧vs[j]? =some v∧s'=s.put d v
 | .ownz e sh xs c e2 bC=>∃k,d=some k∧(s.put (some k) .any).bu k=true∧(s.put (some k) .any).bu (dz k)=true∧dz k<HL∧s'=s.put (some k) (.slz k e sh xs (some (dz k)) 0 c e2 bC [])
 | .appz L e sh xs i c e2 bC=>∃k,d=some k∧(s.kill L).bu (fo true L k)=true∧(s.kill L).bu (dz k)=true∧dz k<HL∧s'=(s.kill L).put (some k) (.slz (fo true L k) e sh xs (some (dz k)) i c e2 bC [])
 | .DN L e sh xs i c L3 e2 bC ys=>s'=(s.Af L e sh xs i c L3 e2 bC ys).put d (.tup [])
def Jv (E:Env) (s:St) (eff:Eff) (v:V) (s':St):Prop:=
 (∃u,bR v=some u)∧match eff with
 | .call f args mb ml=>(∃bs,XC E f args true v bs∧ou s none mb ml v bs=some s')∨(KC E f args true v∧s'=s)
 | .nX v'=>v'=v∧s'=s
 |_=>False
def tC:V→Bool
 | .out _ _ _=>true
 | .keep _ _=>true
 |_=>false
def lu (E:Env) {α:Type} (call:Caller α):Prop:=∀f args (K:V→Option α) r,call f args K=some r→ ∃v,K v=some r∧((tC v=false∧af E f (args.map V.wO) v)∨(∃p x bs,v=.out p x bs∧XC E f args p x bs)∨ ∃p x,v=.keep p x∧KC E f args p x)
theorem HV {α:Type} {i:Int} {K:V→Option α} {r:α}: ∀(vs:List V) (j0:Nat),altK i K j0 vs=some r→ ∃(j:Nat) (v:V),i=((j0+j:Nat):Int)∧vs[j]? =some v∧K v=some r
 |[],j0,h=>by cases h
 |v::l,j0,h=>by
  unfold altK at h
  cases hc:ieq i (j0:Int) with
  |true=>
   rw[hc] at h;have e:i=(j0:Int):=by unfold ieq at hc;simpa using hc
   exact⟨0,v,by simpa using e,rfl,h⟩
  |false=>
   rw[hc] at h;obtain⟨j,v',h1,h2,h3⟩:=HV l (j0+1) h;exact⟨j+1,v',by rw[h1];congr 1;omega,by simpa using h2,h3⟩
theorem jk {d n:Nat} (h:Nat.blt d n=true):d<n:=by rwa [Nat.blt_eq] at h
theorem YJ {E:Env} {α:Type} {call:Caller α} (hc:lu E call) {dr:Bool} {s:St} {d:Option Nat} {eff:Eff} {K:St→Option α} {KP:V→St→Option α} {r:α} (h:effK dr call s d eff K KP=some r):
  (∃s',Eh E dr s d eff s'∧K s'=some r)∨(dr=false∧ ∃v s',Jv E s eff v s'∧KP v s'=some r):=by
 cases eff with
 |val v=>exact .inl ⟨_,rfl,h⟩
 |newSl e sh xs=>exact .inl ⟨_,rfl,h⟩
 |own e sh xs=>
  cases d with
  |none=>cases h
  |some k=>obtain⟨h1,h2⟩:=aC h;rw[Bool.and_eq_true] at h1;exact .inl ⟨_,⟨k,rfl,h1.1,jk h1.2,rfl⟩,h2⟩
 |app L e sh xs=>
  cases d with
  |none=>cases h
  |some k=>obtain⟨h1,h2⟩:=aC h;rw[Bool.and_eq_true] at h1;exact .inl ⟨_,⟨k,rfl,h1.1,jk h1.2,rfl⟩,h2⟩
 |nG e cs=>
  cases d with
  |none=>cases h
  |some k=>obtain⟨h1,h2⟩:=aC h;rw[Bool.and_eq_true,Bool.and_eq_true] at h1;exact .inl ⟨_,⟨k,rfl,h1.1.1,h1.1.2,jk h1.2,rfl⟩,h2⟩
 |put k off cs=>
  unfold effK at h;simp only at h;split at h
  ·rename_i old ho;obtain⟨h,hq⟩:=Pn h;exact .inl ⟨_,⟨old,ho,hq,rfl⟩,h⟩
  ·cases h
 |call f args mb ml=>
  obtain⟨v,h1,h2⟩:=hc f args _ r h;rcases h2 with⟨ho,h2⟩|⟨p,x,bs,rfl,h2⟩|⟨p,x,rfl,h2⟩
  ·have h3:(bif iy args then none else(match d with
    |some d=>bif s.bu d&&Nat.blt d HL then K (s.put (some d) (v.LC d)) else none
    |none=>K s))=some r:=by
    cases v<;>first|exact h1|cases ho
   cases hb:iy args with
   |true=>rw[hb] at h3;cases h3
   |false=>
    rw[hb,cond_false] at h3
    cases d with
    |none=>exact .inl ⟨s,.inl ⟨hb,.inr ⟨v,rfl,h2,rfl⟩⟩,h3⟩
    |some k=>
     obtain⟨h4,h5⟩:=aC h3;rw[Bool.and_eq_true] at h4;exact .inl ⟨_,.inl ⟨hb,.inl ⟨k,v,rfl,h4.1,jk h4.2,h2,rfl⟩⟩,h5⟩
  ·cases dr with
   |true=>cases h1
   |false=>
    cases p with
    |true=>
     have h1:(match ou s none mb ml x bs with
      |some s'=>(match bR x with|some _=>KP x s'|none=>none)
      |none=>none)=some r:=h1
     split at h1
     ·rename_i s' hs
      split at h1
      ·rename_i u hu
       exact .inr ⟨rfl,x,s',⟨⟨u,hu⟩,.inl ⟨bs,h2,hs⟩⟩,h1⟩
      ·cases h1
     ·cases h1
    |false=>
     have h1:(match ou s d mb ml x bs with
      |some s'=>K s'
      |none=>none)=some r:=h1
     split at h1
     ·rename_i s' hs
      exact .inl ⟨s',.inr (.inl ⟨rfl,x,bs,h2,hs⟩),h1⟩
     ·cases h1
  ·cases dr with
   |true=>cases h1
   |false=>
    cases p with
    |true=>
     have h1:(match bR x with|some _=>KP x s|none=>none)=some r:=h1;split at h1
     ·rename_i u hu
      exact .inr ⟨rfl,x,s,⟨⟨u,hu⟩,.inr ⟨h2,rfl⟩⟩,h1⟩
     ·cases h1
    |false=>
     have h1:(bif WQ x then K (s.put d x) else none)=some r:=h1;obtain⟨h3,h4⟩:=aC h1;exact .inl ⟨_,.inr (.inr ⟨rfl,x,h2,rfl⟩),h4⟩
 |nX v=>
  cases dr with
  |true=>cases h
  |false=>
   have h:(match bR v with|some _=>KP v s|none=>none)=some r:=h;split at h
   ·rename_i u hu
    exact .inr ⟨rfl,v,s,⟨⟨u,hu⟩,rfl,rfl⟩,h⟩
   ·cases h
 |pick b x y=>cases b<;>exact .inl ⟨_,rfl,h⟩
 |DL L e k ys=>obtain⟨h1,h2⟩:=aC h;exact .inl ⟨_,⟨jk h1,rfl⟩,h2⟩
 |alts i vs=>
  obtain⟨j,v,h1,h2,h3⟩:=HV vs 0 h;exact .inl ⟨_,⟨j,v,by simpa using h1,h2,rfl⟩,h3⟩
 |ownz e sh xs c e2 bC=>
  cases d with
  |none=>cases h
  |some k=>obtain⟨h1,h2⟩:=aC h;rw[Bool.and_eq_true,Bool.and_eq_true] at h1;exact .inl ⟨_,⟨k,rfl,h1.1,h1.2.1,jk h1.2.2,rfl⟩,h2⟩
 |appz L e sh xs i c e2 bC=>
  cases d with
  |none=>cases h
  |some k=>obtain⟨h1,h2⟩:=aC h;rw[Bool.and_eq_true,Bool.and_eq_true] at h1;exact .inl ⟨_,⟨k,rfl,h1.1,h1.2.1,jk h1.2.2,rfl⟩,h2⟩
 |DN L e sh xs i c L3 e2 bC ys=>exact .inl ⟨_,rfl,h⟩
section
variable {E:Env} {B:Own} {G0:aM} {w0:World} {s:St} {g:Gh} {a:Act} {w:World}
theorem zC (a:Act) (d:Nat) (u:Value):(a.put (some d) u).tmps.toList=a.tmps.toList.set d u:=by
 simp[Act.put]
theorem Inv.put (h:Inv E B G0 w0 s g a w) (d:Option Nat) {v:V} {u:Value} (hv:aI g v u):Inv E B G0 w0 (s.put d v) g (a.put d u) w:=by
 cases d with
 |none=>exact⟨h.fr,h.df,h.gok,h.own,h.bxs,h.kX,h.hB,h.ext,h.glob,h.g1,h.zb⟩
 |some d=>exact⟨by rw[zC];exact h.fr.set d hv,h.df,h.gok,h.own,h.bxs,h.kX,h.hB,h.ext,h.glob,h.g1,h.zb⟩
theorem YK {w':World} {G G':aM} (hG:vO G w) (h:New w w' G G'):lH G G':=fun b l hb=>⟨l,by rw[h.2.1 b (dV hG hb)];exact hb,List.prefix_refl _⟩
theorem xg (hG:vO g.G w) (hO:K8 B g w) {L:Nat} {v:Value} {e sz b:Nat} (h:g.O L=some (v,e,sz)) (hb:v.ownBlock=some b):b<w.heap.size:=by
 rcases(hO.1 L v e sz h).2 with hv|⟨b',n,cap,cur,l,hv,_,hh,_⟩
 ·rw[hv] at hb;cases hb
 ·rw[hv] at hb
  simp[Value.ownBlock] at hb;subst hb;exact(Array.getElem?_eq_some_iff.1 hh).1
theorem Inv.new {w':World} {G':aM} (h:Inv E B G0 w0 s g a w) (hn:New w w' g.G G'):Inv E B G0 w0 s {g with G:=G'} a w'∧Ext g {g with G:=G'}:=by
 have hm:=YK h.gok hn;have he:Ext g {g with G:=G'}:=⟨hm,fun _ _ h=>h,fun L v e sz b hL hb=>hn.2.1 b (xg h.gok h.own hL hb),fun _ _ h=>h,rfl,fun _ _ _=>rfl⟩
 refine⟨⟨h.fr.mono fun x _ v=>qC he,h.df,hn.2.2,⟨fun L v e sz hL=>?_,h.own.2⟩,⟨fun k cs hk=>?_,h.bxs.2⟩,h.kX.trans (kH.of_below hn.1 h.hB.2),Dj h.hB hn.1.size,⟨fun b hb=>(hn.2.1 b (Nat.lt_of_not_le fun e=>hb (h.hB.2 b e))).trans (h.ext.1 b hb),h.ext.2.1.trans hm,h.ext.2.2⟩,h.glob,h.g1,h.zb⟩,he⟩
 ·obtain⟨h1,h2⟩:=h.own.1 L v e sz hL
  refine⟨h1,h2.imp id ?_⟩;rintro⟨b,n,cap,cur,l,hv,hb,hh,hnc,hcm,hcs,qm,hl⟩;have hlt:=(Array.getElem?_eq_some_iff.1 hh).1;exact⟨b,n,cap,cur,l,hv,hb,by rw[hn.1.block b hlt];exact hh,hnc,hcm,hcs,qm.keep rfl (hn.2.1 b hlt),hl⟩
 ·obtain⟨b,c,e,hb,hBb,hh,hp,ho,qm,hq⟩:=h.bxs.1 k cs hk
  have hlt:=(Array.getElem?_eq_some_iff.1 hh).1;exact⟨b,c,e,hb,hBb,by rw[hn.1.block b hlt];exact hh,hp.mono fun x _ v=>qC he,ho,by show G' b=_;rw[hn.2.1 b hlt];exact qm,hq⟩
theorem linkO_O {g:Gh} {O':Nat→Option (Value×Nat×Nat)} {C':Nat→Option (List Value)} {d:Nat} (hO: ∀L,L≠d→O' L=g.O L) {l:List Value} {sz:Nat} {o2:Option Nat} {i:Int} {c e2:Nat} {bC:List Kd} {ys:List V} (hx:lkO d o2=false) (h:qy g l sz o2 i c e2 bC ys):qy {g with O:=O',C:=C'} l sz o2 i c e2 bC ys:=by
 cases o2 with
 |none=>trivial
 |some L2=>
  have hne:L2≠d:=fun e=>by subst e;simp[lkO] at hx
  obtain⟨v2,h1,h2⟩:=h;exact⟨v2,(hO L2 hne).trans h1,h2⟩
theorem Pp {g:Gh} {O':Nat→Option (Value×Nat×Nat)} {C':Nat→Option (List Value)} {d:Nat} (hO: ∀L,L≠d→O' L=g.O L) (hC: ∀L,L≠d→C' L=g.C L) {x:V} {v:Value} (hx:jd d x=false) (h:bE g x v):bE {g with O:=O',C:=C'} x v:=by
 cases x with
 |sl e sh ow xs=>
  cases ow with
  |none=>exact h
  |some L=>
   have hne:L≠d:=fun e=>by subst e;simp[jd] at hx
   exact⟨(hO L hne).trans h.1,h.2⟩
 |eptr L e sh xs i off=>
  have hne:L≠d:=fun e=>by subst e;simp[jd] at hx
  obtain⟨v0,b,h1,h2⟩:=h;exact⟨v0,b,(hO L hne).trans h1,h2⟩
 |slz L e sh xs o2 i c e2 bC ys=>
  have hx:(d==L||lkO d o2)=false:=hx;rw[Bool.or_eq_false_iff] at hx;have hne:L≠d:=fun e=>by subst e;simp at hx
  obtain⟨l,h1,h2,h3,h4⟩:=h;exact⟨l,(hO L hne).trans h1,(hC L hne).trans h2,h3,linkO_O hO hx.2 h4⟩
 |epz L e sz i off=>
  have hne:L≠d:=fun e=>by subst e;simp[jd] at hx
  obtain⟨v0,b,l,h1,h2,h3⟩:=h;exact⟨v0,b,l,(hO L hne).trans h1,(hC L hne).trans h2,h3⟩
 |_=>exact h
theorem Jw {g:Gh} {O':Nat→Option (Value×Nat×Nat)} {C':Nat→Option (List Value)} {d:Nat} (hO: ∀L,L≠d→O' L=g.O L) (hC: ∀L,L≠d→C' L=g.C L) {x:V} {v:Value} (hx:x.dA d=false) (h:aI g x v):aI {g with O:=O',C:=C'} x v:=by
 cases x with
 |tup vs=>
  obtain⟨a,rfl,h⟩:=h;simp only[V.dA,List.any_eq_false] at hx;exact⟨a,rfl,h.mono fun y hy v hv=>Pp hO hC (by have:=hx y hy;simpa using this) hv⟩
 |fn f c=>
  obtain⟨a,rfl,h⟩:=h;simp only[V.dA,List.any_eq_false] at hx;exact⟨a,rfl,h.mono fun y hy v hv=>Pp hO hC (by have:=hx y hy;simpa using this) hv⟩
 |_=>simp only[aI] at h⊢;exact Pp hO hC hx h
theorem fe {b:Bool} (h:aG b=true):b=false:=by cases b;rfl;cases h
theorem rD {d:Nat} (h:s.bu d=true): ∀x∈s.fr,x.dA d=false:=by
 unfold St.bu at h;rw[Bool.and_eq_true,List.all_eq_true] at h;exact fun x hx=>fe (h.1 x hx)
theorem jC: ∀(l:List (Nat×List V)) (k:Nat) (cs:List V),au l k=some cs→(k,cs)∈l
 |[],k,cs,h=>by cases h
 |(j,ds)::l,k,cs,h=>by
  unfold au at h
  cases hj:j==k with
  |true=>
   rw[hj] at h;simp only[cond_true,Option.some.injEq] at h;rw[beq_iff_eq] at hj;subst hj;subst h;exact List.mem_cons_self
  |false=>
   rw[hj] at h;simp only[cond_false] at h;exact List.mem_cons_of_mem _ (jC l k cs h)
theorem xH {d:Nat} (h:s.bu d=true): ∀k cs,au s.bx k=some cs→ ∀x∈cs,x.dA d=false:=by
 intro k cs hk x hx;unfold St.bu at h;rw[Bool.and_eq_true,List.all_eq_true,List.all_eq_true] at h;have h2:=h.2 _ (jC _ _ _ hk);simp only[List.all_eq_true] at h2;exact fe (h2 x hx)
theorem Nz {d:Nat} (h:s.bu d=true):(s.put (some d) .any).bu d=true:=by
 unfold St.bu at h⊢;rw[Bool.and_eq_true,List.all_eq_true] at h⊢;refine⟨fun x hx=>?_,h.2⟩;rcases List.mem_or_eq_of_mem_set hx with h1|rfl
 ·exact h.1 x h1
 ·rfl
theorem Inv.Pq (h:Inv E B G0 w0 s g a w) {d e:Nat} {sh:List Kd} {xs:List V} {u:Value} (hd:s.bu d=true) (hu:iB g.G w (B.ok d) e sh xs u)
  (hne: ∀L v e sz b,g.O L=some (v,e,sz)→L≠d→v.ownBlock=some b→u.ownBlock≠some b):
  ∃g',g'.G=g.G∧Inv E B G0 w0 s g' a w∧bE g' (.sl e sh (some d) xs) u∧ ∀L,L≠d→g'.O L=g.O L∧g'.C L=g.C L:=by
 let O':Nat→Option (Value×Nat×Nat):=fun L=>if L=d then some (u,e,sh.length) else g.O L
 let C':Nat→Option (List Value):=fun L=>if L=d then none else g.C L
 have I7: ∀L,L≠d→O' L=g.O L:=fun L hL=>if_neg hL
 have hC': ∀L,L≠d→C' L=g.C L:=fun L hL=>if_neg hL
 have hbG: ∀k cs b,au s.bx k=some cs→g.β k=some b→g.G b=none:=fun k cs b hk hb=>by
  obtain⟨b',_,_,q1,_,_,_,_,q6,_⟩:=h.bxs.1 k cs hk;rw[hb] at q1;simp only[Option.some.injEq] at q1;rw[q1];exact q6
 refine⟨{g with O:=O',C:=C'},rfl,⟨h.fr.mono fun x hx v=>Jw I7 hC' (rD hd x hx),h.df,h.gok,⟨?_,?_⟩,⟨fun k cs hk=>?_,h.bxs.2⟩,h.kX,h.hB,h.ext,h.glob,h.g1,?_⟩,⟨if_pos rfl,?_⟩,fun L hL=>⟨I7 L hL,hC' L hL⟩⟩
 ·intro L v e' sz hL
  by_cases Oz:L=d
  ·subst Oz
   have hL:(if L=L then some (u,e,sh.length) else g.O L)=some (v,e',sz):=hL;rw[if_pos rfl] at hL;simp only[Option.some.injEq,Prod.mk.injEq] at hL;obtain⟨rfl,rfl,rfl⟩:=hL;refine⟨hu.1,?_⟩;rcases hu.2 with⟨hu,_⟩|⟨b,cap,cur,l,hv,hb,hh,hcap,hcm,hcs,hG,hl,hE⟩
   ·exact .inl hu
   ·exact .inr ⟨b,_,cap,cur,l,hv,hb,hh,hcap,hcm,hcs,mI.mk0 (if_pos rfl) hG,hl⟩
  ·have hL:O' L=some (v,e',sz):=hL
   rw[I7 L Oz] at hL;obtain⟨q1,q2⟩:=h.own.1 L v e' sz hL;refine⟨q1,q2.imp id ?_⟩;rintro⟨b,n,cap,cur,l,hv,hb,hh,hnc,hcm,hcs,hrow,hl⟩;exact⟨b,n,cap,cur,l,hv,hb,hh,hnc,hcm,hcs,hrow.keep (hC' L Oz) rfl,hl⟩
 ·intro L L' v v' e1 e2 sz sz' b h1 h2 hb hb'
  have h1:O' L=some (v,e1,sz):=h1;have h2:O' L'=some (v',e2,sz'):=h2;by_cases hL:L=d<;>by_cases hL':L'=d
  ·rw[hL,hL']
  ·subst hL
   have h1':(if L=L then some (u,e,sh.length) else g.O L)=some (v,e1,sz):=h1;rw[if_pos rfl] at h1';simp only[Option.some.injEq,Prod.mk.injEq] at h1';rw[I7 L' hL'] at h2;exact absurd (by rw[h1'.1];exact hb) (hne L' v' e2 sz' b h2 hL' hb')
  ·subst hL'
   have h2':(if L'=L' then some (u,e,sh.length) else g.O L')=some (v',e2,sz'):=h2;rw[if_pos rfl] at h2';simp only[Option.some.injEq,Prod.mk.injEq] at h2';rw[I7 L hL] at h1;exact absurd (by rw[h2'.1];exact hb') (hne L v e1 sz b h1 hL hb)
  ·rw[I7 L hL] at h1
   rw[I7 L' hL'] at h2;exact h.own.2 L L' v v' e1 e2 sz sz' b h1 h2 hb hb'
 ·obtain⟨b,c,e',hb,hBb,hh,hp,ho,hG,hq⟩:=h.bxs.1 k cs hk
  exact⟨b,c,e',hb,hBb,hh,hp.mono fun x hx v=>Jw I7 hC' (xH hd k cs hk x hx),ho,hG,hq⟩
 ·intro k cs L v e' sz b hk hL hb hβ
  have hL:O' L=some (v,e',sz):=hL;by_cases Oz:L=d
  ·subst Oz
   have hL:(if L=L then some (u,e,sh.length) else g.O L)=some (v,e',sz):=hL;rw[if_pos rfl] at hL;simp only[Option.some.injEq,Prod.mk.injEq] at hL;obtain⟨rfl,rfl,rfl⟩:=hL;have hn:=hbG k cs b hk hβ;rcases hu.2 with⟨hu,_⟩|⟨b',cap,cur,l,hv,_,_,_,_,_,hG,_⟩
   ·rw[hu] at hb;cases hb
   ·rw[hv] at hb
    simp only[Value.ownBlock,Option.some.injEq] at hb;subst hb;rw[hn] at hG;cases hG
  ·rw[I7 L Oz] at hL
   exact h.zb k cs L v e' sz b hk hL hb hβ
 ·rcases hu.2 with⟨hu,hx⟩|⟨b,cap,cur,l,hv,hb,hh,hcap,hcm,hcs,hG,hl,hE⟩
  ·exact .inl ⟨hu,hx⟩
  ·exact .inr ⟨b,cap,l,hv,hcap,hG,hl,hE⟩
theorem Inv.label (h:Inv E B G0 w0 s g a w) {d e:Nat} {sh:List Kd} {xs:List V} {u:Value} (hd:s.bu d=true) (hu:iB g.G w (B.ok d) e sh xs u)
  (hne: ∀L v e sz b,g.O L=some (v,e,sz)→L≠d→v.ownBlock=some b→u.ownBlock≠some b):
  ∃g',g'.G=g.G∧Inv E B G0 w0 s g' a w∧bE g' (.sl e sh (some d) xs) u:=by
 obtain⟨g',h1,h2,h3,_⟩:=h.Pq hd hu hne;exact⟨g',h1,h2,h3⟩
theorem Md (L e:Nat) (sh:List Kd) (k:Nat) (xs:List V):vU L (.sl e sh (some k) xs)=bif L==k then .sl e sh none xs else .sl e sh (some k) xs:=rfl
theorem Fh (L k e:Nat) (sh:List Kd) (xs:List V) (i:Int) (off:Nat):vU L (.eptr k e sh xs i off)=bif L==k then .any else .eptr k e sh xs i off:=rfl
theorem H6 (L k e:Nat) (sh:List Kd) (xs:List V) (o2:Option Nat) (i:Int) (c e2:Nat) (bC:List Kd) (ys:List V):vU L (.slz k e sh xs o2 i c e2 bC ys)=bif L==k then .any else .slz k e sh xs (Rf L o2) i c e2 bC ys:=rfl
theorem H7 (L k e sz:Nat) (i:Int) (off:Nat):vU L (.epz k e sz i off)=bif L==k then .any else .epz k e sz i off:=rfl
theorem mo {g:Gh} {O':Nat→Option (Value×Nat×Nat)} {L:Nat} (hO: ∀k,k≠L→O' k=g.O k) {x:V} {v:Value} (h:bE g x v):bE {g with O:=O'} (vU L x) v:=by
 cases x with
 |sl e sh ow xs=>
  cases ow with
  |none=>exact h
  |some k=>
   rw[Md];by_cases hk:L=k
   ·have:(L==k)=true:=by simpa using hk
    rw[this];show aN g.G (V.sl e sh none xs) v;exact oG h.2
   ·have:(L==k)=false:=by simpa using hk
    rw[this];exact⟨(hO k (fun e=>hk e.symm)).trans h.1,h.2⟩
 |eptr k e sh xs i off=>
  rw[Fh];by_cases hk:L=k
  ·have:(L==k)=true:=by simpa using hk
   rw[this];show aN g.G V.any v;unfold aN;trivial
  ·have:(L==k)=false:=by simpa using hk
   rw[this];obtain⟨v0,b,h1,h2⟩:=h;exact⟨v0,b,(hO k (fun e=>hk e.symm)).trans h1,h2⟩
 |slz k e sh xs o2 i c e2 bC ys=>
  rw[H6];by_cases hk:L=k
  ·have:(L==k)=true:=by simpa using hk
   rw[this];show aN g.G V.any v;unfold aN;trivial
  ·have:(L==k)=false:=by simpa using hk
   rw[this];obtain⟨l,h1,h2,h3,h4⟩:=h;refine⟨l,(hO k (fun e=>hk e.symm)).trans h1,h2,h3,?_⟩
   cases o2 with
   |none=>trivial
   |some L2=>
    by_cases hk2:L=L2
    ·subst hk2
     show qy _ l sh.length (bif L==L then none else some L) i c e2 bC ys;rw[beq_self_eq_true];trivial
    ·have h5:Rf L (some L2)=some L2:=by
      show(bif L==L2 then none else some L2)=some L2;rw[beq_eq_false_iff_ne.2 hk2];rfl
     rw[h5];obtain⟨v2,q1,q2⟩:=h4;exact⟨v2,(hO L2 (fun e=>hk2 e.symm)).trans q1,q2⟩
 |epz k e sz i off=>
  rw[H7];by_cases hk:L=k
  ·have:(L==k)=true:=by simpa using hk
   rw[this];show aN g.G V.any v;unfold aN;trivial
  ·have:(L==k)=false:=by simpa using hk
   rw[this];obtain⟨v0,b,l,h1,h2⟩:=h;exact⟨v0,b,l,(hO k (fun e=>hk e.symm)).trans h1,h2⟩
 |_=>exact h
theorem Me {g:Gh} {O':Nat→Option (Value×Nat×Nat)} {L:Nat} (hO: ∀k,k≠L→O' k=g.O k) {xs:List V} {vs:List Value} (h:PW (bE g) xs vs):PW (bE {g with O:=O'}) (xs.map (vU L)) vs:=by
 refine⟨by simp[h.1],fun i x v hx hv=>?_⟩;rw[List.getElem?_map] at hx
 cases hi:xs[i]? with
 |none=>rw[hi] at hx;cases hx
 |some y=>
  rw[hi] at hx;simp only[Option.map_some,Option.some.injEq] at hx;subst hx;exact mo hO (h.2 i y v hi hv)
theorem dJ {R R':V→Value→Prop} {f:V→V} {xs:List V} {vs:List Value} (h:PW R xs vs) (hf: ∀z∈xs,∀v,R z v→R' (f z) v):PW R' (xs.map f) vs:=by
 refine⟨by simp[h.1],fun i x v hx hv=>?_⟩;rw[List.getElem?_map] at hx
 cases hi:xs[i]? with
 |none=>rw[hi] at hx;cases hx
 |some y=>
  rw[hi] at hx;simp only[Option.map_some,Option.some.injEq] at hx;subst hx;exact hf y (List.mem_of_getElem? hi) v (h.2 i y v hi hv)
theorem nQ {L:Nat} {x:V} (h:x.single=true):(vU L x).single=true:=by
 cases x with
 |sl e sh ow xs=>
  cases ow with
  |none=>rfl
  |some k=>rw[Md];cases L==k<;>rfl
 |eptr k e sh xs i off=>rw[Fh];cases L==k<;>rfl
 |slz k e sh xs o2 i c e2 bC ys=>rw[H6];cases L==k<;>rfl
 |epz k e sz i off=>rw[H7];cases L==k<;>rfl
 |tup _=>cases h
 |fn _ _=>cases h
 |_=>rfl
theorem Uj {g:Gh} {O':Nat→Option (Value×Nat×Nat)} {L:Nat} (hO: ∀k,k≠L→O' k=g.O k) {x:V} {v:Value} (h:aI g x v):aI {g with O:=O'} (x.kill L) v:=by
 cases x with
 |tup vs=>obtain⟨a,rfl,h⟩:=h;exact⟨a,rfl,Me hO h⟩
 |fn f c=>obtain⟨a,rfl,h⟩:=h;exact⟨a,rfl,Me hO h⟩
 |sl e sh ow xs=>
  have h2:=mo (L:=L) hO (aV rfl h);exact bA (nQ rfl) h2
 |eptr k e sh xs i off=>
  have h2:=mo (L:=L) hO (aV (x:=.eptr k e sh xs i off) rfl h);exact bA (nQ (x:=.eptr k e sh xs i off) rfl) h2
 |slz k e sh xs o2 i c e2 bC ys=>
  have h2:=mo (L:=L) hO (aV (x:=.slz k e sh xs o2 i c e2 bC ys) rfl h);exact bA (nQ (x:=.slz k e sh xs o2 i c e2 bC ys) rfl) h2
 |epz k e sz i off=>
  have h2:=mo (L:=L) hO (aV (x:=.epz k e sz i off) rfl h);exact bA (nQ (x:=.epz k e sz i off) rfl) h2
 |_=>simp only[aI] at h⊢;exact mo hO h
theorem RS {g:Gh} {O':Nat→Option (Value×Nat×Nat)} {L:Nat} (hO: ∀k,k≠L→O' k=g.O k) {xs:List V} {vs:List Value} (h:PW (aI g) xs vs):PW (aI {g with O:=O'}) (xs.map (V.kill L)) vs:=by
 refine⟨by simp[h.1],fun i x v hx hv=>?_⟩;rw[List.getElem?_map] at hx
 cases hi:xs[i]? with
 |none=>rw[hi] at hx;cases hx
 |some y=>
  rw[hi] at hx;simp only[Option.map_some,Option.some.injEq] at hx;subst hx;exact Uj hO (h.2 i y v hi hv)
theorem fP (f:List V→List V): ∀(l:List (Nat×List V)) (k:Nat),au (l.map fun(k,cs)=>(k,f cs)) k=(au l k).map f
 |[],k=>rfl
 |(j,ds)::l,k=>by
  simp only[List.map_cons,au]
  cases j==k
  ·exact fP f l k
  ·rfl
theorem nV (s:St) (L k:Nat):au (s.kill L).bx k=(au s.bx k).map (List.map (V.kill L)):=fP _ _ _
theorem Inv.kill (h:Inv E B G0 w0 s g a w) (L:Nat):Inv E B G0 w0 (s.kill L) {g with O:=fun k=>if k=L then none else g.O k} a w:=by
 have hO: ∀k,k≠L→(if k=L then none else g.O k)=g.O k:=fun k hk=>if_neg hk
 refine⟨RS hO h.fr,h.df,h.gok,⟨fun k v e sz hk=>?_,fun k k' v v' e e' sz sz' b h1 h2=>?_⟩,⟨fun k cs hk=>?_,fun k k' cs cs' h1 h2=>?_⟩,h.kX,h.hB,h.ext,h.glob,h.g1,fun k cs L' v e sz b hk hL hb=>?_⟩
 ·have hk:(if k=L then none else g.O k)=some (v,e,sz):=hk
  split at hk
  ·cases hk
  ·exact h.own.1 k v e sz hk
 ·have h1:(if k=L then none else g.O k)=some (v,e,sz):=h1
  have h2:(if k'=L then none else g.O k')=some (v',e',sz'):=h2;split at h1
  ·cases h1
  ·split at h2
   ·cases h2
   ·exact h.own.2 k k' v v' e e' sz sz' b h1 h2
 ·rw[nV] at hk
  cases hq:au s.bx k with
  |none=>rw[hq] at hk;cases hk
  |some ds=>
   rw[hq] at hk;simp only[Option.map_some,Option.some.injEq] at hk;subst hk;obtain⟨b,c,e,hb,hBb,hh,hp,ho,hG,hq2⟩:=h.bxs.1 k ds hq;exact⟨b,c,e,hb,hBb,hh,RS hO hp,ho,hG,kg (TY _) hq2⟩
 ·rw[nV] at h1 h2
  cases hq:au s.bx k with
  |none=>rw[hq] at h1;cases h1
  |some ds=>
   cases hq':au s.bx k' with
   |none=>rw[hq'] at h2;cases h2
   |some ds'=>exact h.bxs.2 k k' ds ds' hq hq'
 ·rw[nV] at hk
  have hL:(if L'=L then none else g.O L')=some (v,e,sz):=hL;split at hL
  ·cases hL
  ·cases hq:au s.bx k with
   |none=>rw[hq] at hk;cases hk
   |some ds=>exact h.zb k ds L' v e sz b hq hL hb
end
section
variable {E:Env} {B:Own} {G0:aM} {w0:World} {s:St} {g:Gh} {a:Act} {w:World}
theorem Ps {g:Gh} {β':Nat→Option Nat} {d:Nat} (hβ: ∀k,k≠d→β' k=g.β k) {x:V} {v:Value} (hx:q9 d x=false) (h:bE g x v):bE {g with β:=β'} x v:=by
 cases x with
 |box k off=>
  obtain⟨b,hb,hv⟩:=h;have hne:k≠d:=fun e=>by subst e;simp[q9] at hx
  exact⟨b,(hβ k hne).trans hb,hv⟩
 |sl e sh ow xs=>cases ow<;>exact h
 |eptr _ _ _ _ _ _=>exact h
 |_=>exact h
theorem Pt {g:Gh} {β':Nat→Option Nat} {d:Nat} (hβ: ∀k,k≠d→β' k=g.β k) {x:V} {v:Value} (hx:x.fV d=false) (h:aI g x v):aI {g with β:=β'} x v:=by
 cases x with
 |tup vs=>
  obtain⟨a,rfl,h⟩:=h;simp only[V.fV,List.any_eq_false] at hx;exact⟨a,rfl,h.mono fun y hy v hv=>Ps hβ (by have:=hx y hy;simpa using this) hv⟩
 |fn f c=>
  obtain⟨a,rfl,h⟩:=h;simp only[V.fV,List.any_eq_false] at hx;exact⟨a,rfl,h.mono fun y hy v hv=>Ps hβ (by have:=hx y hy;simpa using this) hv⟩
 |_=>simp only[aI] at h⊢;exact Ps hβ hx h
theorem EH {d:Nat} (h:s.lN d=true): ∀x∈s.fr,x.fV d=false:=by
 unfold St.lN at h;rw[Bool.and_eq_true,List.all_eq_true] at h;exact fun x hx=>fe (h.1 x hx)
theorem uj {d:Nat} (h:s.lN d=true): ∀k cs,au s.bx k=some cs→k≠d∧ ∀x∈cs,x.fV d=false:=by
 intro k cs hk;unfold St.lN at h;rw[Bool.and_eq_true,List.all_eq_true,List.all_eq_true] at h;have h2:=h.2 _ (jC _ _ _ hk);simp only[Bool.and_eq_true,List.all_eq_true] at h2;refine⟨fun e=>?_,fun x hx=>fe (h2.2 x hx)⟩;have:=fe h2.1;subst e;simp at this
theorem Uk {G:aM} (hG:vO G w) (o:Obj):New w (w.alloc o) G G:=by
 refine⟨iI w o,fun _ _=>rfl,fun b l h=>?_⟩;obtain⟨c,e,fr,hc,ht⟩:=hG b l h;exact⟨c,e,fr,by rw[Below.heap_alloc w o b (dV hG h)];exact hc,ht⟩
theorem Inv.nG (h:Inv E B G0 w0 s g a w) {k e:Nat} {cs:List V} {c:Array Value} (hkH:k<HL) (hk:s.lN k=true) (hp:PW (aI g) cs c.toList) (ho: ∀u∈c.toList,u.oneCell'=true) (hcs:cs.all (fun v=>aG (v.fV k))=true) (hq:jv cs=true→oo E.P e cs.length=true):
  ∃g',Inv E B G0 w0 ⟨s.fr.set k (.box k 0),(k,cs)::s.bx⟩ g' (a.put (some k) (.pointer (some ⟨w.heap.size,0,none⟩))) (w.alloc (.cells c e)):=by
 obtain⟨h1,hx⟩:=h.new (Uk h.gok (.cells c e));let β':Nat→Option Nat:=fun j=>if j=k then some w.heap.size else g.β j
 have hβ: ∀j,j≠k→β' j=g.β j:=fun j hj=>if_neg hj
 have hfr:PW (aI {g with β:=β'}) s.fr a.tmps.toList:=h1.fr.mono fun x hx v=>Pt hβ (EH hk x hx)
 rw[List.all_eq_true] at hcs;refine⟨{g with β:=β'},by rw[zC];exact hfr.set k ⟨w.heap.size,if_pos rfl,rfl⟩,h1.df,h1.gok,h1.own,⟨fun j ds hj=>?_,fun j j' ds ds' hj hj' hb=>?_⟩,h1.kX,h1.hB,⟨h1.ext.1,h1.ext.2.1,fun j hj=>(hβ j (by omega)).trans (h1.ext.2.2 j hj)⟩,h1.glob,h1.g1,fun j ds L v e2 sz b hj hL hb hβj=>?_⟩
 ·unfold au at hj
  by_cases hjk:k=j
  ·subst hjk
   rw[beq_self_eq_true,cond_true] at hj;simp only[Option.some.injEq] at hj;subst hj;refine⟨w.heap.size,c,e,if_pos rfl,h.hB.2 _ (Nat.le_refl _),heap_alloc_new w _,hp.mono fun x hx v=>Pt hβ (fe (hcs x hx)),ho,?_,hq⟩;show g.G w.heap.size=none
   cases hq:g.G w.heap.size with
   |none=>rfl
   |some l=>have:=dV h.gok hq;omega
  ·have:(k==j)=false:=by simpa using hjk
   rw[this,cond_false] at hj;obtain⟨b,c',e',hb,hBb,hh,hp',ho',hG,hq'⟩:=h1.bxs.1 j ds hj;exact⟨b,c',e',by show β' j=_;rw[hβ j (fun e=>hjk e.symm)];exact hb,hBb,hh,hp'.mono fun x hx v=>Pt hβ ((uj hk j ds hj).2 x hx),ho',hG,hq'⟩
 ·unfold au at hj hj'
  have hb:β' j=β' j':=hb;by_cases hjk:k=j<;>by_cases TD:k=j'
  ·rw[←hjk,←TD]
  ·subst hjk
   have h3:(k==j')=false:=by simpa using TD
   rw[h3,cond_false] at hj';obtain⟨b,c',e',hb',_,hh,_⟩:=h.bxs.1 j' ds' hj';have e1:β' k=some w.heap.size:=if_pos rfl;rw[e1,hβ j' (fun e=>TD e.symm),hb'] at hb;simp only[Option.some.injEq] at hb;have:=(Array.getElem?_eq_some_iff.1 hh).1;omega
  ·subst TD
   have h3:(k==j)=false:=by simpa using hjk
   rw[h3,cond_false] at hj;obtain⟨b,c',e',hb',_,hh,_⟩:=h.bxs.1 j ds hj;have e1:β' k=some w.heap.size:=if_pos rfl;rw[e1,hβ j (fun e=>hjk e.symm),hb'] at hb;simp only[Option.some.injEq] at hb;have:=(Array.getElem?_eq_some_iff.1 hh).1;omega
  ·have h3:(k==j)=false:=by simpa using hjk
   have h4:(k==j')=false:=by simpa using TD
   rw[h3,cond_false] at hj;rw[h4,cond_false] at hj';rw[hβ j (fun e=>hjk e.symm),hβ j' (fun e=>TD e.symm)] at hb;exact h1.bxs.2 j j' ds ds' hj hj' hb
 ·have hβj:β' j=some b:=hβj
  by_cases hjk:k=j
  ·subst hjk
   rw[show β' k=some w.heap.size from if_pos rfl] at hβj;simp only[Option.some.injEq] at hβj;have:=xg h.gok h.own hL hb;omega
  ·unfold au at hj
   have h3:(k==j)=false:=by simpa using hjk
   rw[h3,cond_false] at hj;rw[hβ j (fun e=>hjk e.symm)] at hβj;exact h.zb j ds L v e2 sz b hj hL hb hβj
theorem oQ: ∀(l:List (Nat×List V)) (k j:Nat) (ds old:List V),au l k=some old→au (gI l k ds) j=if j=k then some ds else au l j
 |[],k,j,ds,old,h=>by cases h
 |(i,cs)::l,k,j,ds,old,h=>by
  unfold au at h;unfold gI
  cases hi:i==k with
  |true=>
   rw[cond_true];unfold au;have e:i=k:=by simpa using hi
   subst e;by_cases hj:i=j
   ·subst hj;simp
   ·have:(i==j)=false:=by simpa using hj
    rw[this,cond_false,cond_false,if_neg (fun e=>hj e.symm)]
  |false=>
   rw[hi,cond_false] at h;rw[cond_false];have hik:i≠k:=by simpa using hi
   unfold au;rw[oQ l k j ds old h];by_cases hj:i=j
   ·subst hj
    rw[beq_self_eq_true,cond_true,cond_true,if_neg hik]
   ·have:(i==j)=false:=by simpa using hj
    rw[this,cond_false,cond_false]
theorem Inv.store (h:Inv E B G0 w0 s g a w) {k off b e:Nat} {old vs:List V} {c:Array Value} {us:List Value} (hb:g.β k=some b) (hl:au s.bx k=some old) (hh:w.heap[b]? =some (.cells c e (0,0))) (hp:PW (aI g) old c.toList)
  (hv:PW (aI g) vs us) (ho: ∀u∈us,u.oneCell'=true) (hle:off+vs.length≤old.length) (hq:jv (over old off vs)=true→jv old=true):
  Inv E B G0 w0 ⟨s.fr,gI s.bx k (over old off vs)⟩ g a (w.setRow b (c.toList.take off++us++c.toList.drop (off+us.length)).toArray):=by
 obtain⟨b',c',e',hb',hBb,hh',hp',ho',qm,hq0⟩:=h.bxs.1 k old hl;rw[hb] at hb';simp only[Option.some.injEq] at hb';subst hb';rw[hh] at hh';simp only[Option.some.injEq,Obj.cells.injEq] at hh';obtain⟨rfl,rfl,_⟩:=hh';have hl':=hl;have hset:=setRow_heap w b c (c.toList.take off++us++c.toList.drop (off+us.length)).toArray e (0,0) hh;have hoth: ∀j,j≠b→(w.setRow b (c.toList.take off++us++c.toList.drop (off+us.length)).toArray).heap[j]? =w.heap[j]? :=fun j hj=>setRow_other w b j _ hj
 have hsz:(w.setRow b (c.toList.take off++us++c.toList.drop (off+us.length)).toArray).heap.size=w.heap.size:=by simp[World.setRow]
 have hkn: ∀j l,g.G j=some l→j≠b:=fun j l hj e=>by subst e;rw[qm] at hj;cases hj
 refine⟨h.fr,h.df,fun j l hj=>?_,⟨fun L v e2 sz hL=>?_,h.own.2⟩,⟨fun j ds hj=>?_,fun j j' ds ds' hj hj'=>?_⟩,?_,by rw[hsz];exact h.hB,h.ext,h.glob,h.g1,fun j ds L v e2 sz b2 hj hL hb2=>?_⟩
 ·obtain⟨c2,e2,fr,hc,ht⟩:=h.gok j l hj
  exact⟨c2,e2,fr,by rw[hoth j (hkn j l hj)];exact hc,ht⟩
 ·obtain⟨h1,h2⟩:=h.own.1 L v e2 sz hL
  refine⟨h1,h2.imp id ?_⟩;rintro⟨j,n,cap,cur,l,hv,hj,hhj,hnc,hcm,hcs,hGj,hl⟩;have hjb:j≠b:=fun e=>h.zb k old L v e2 sz j hl' hL (by rw[hv];rfl) (by rw[e];exact hb)
  exact⟨j,n,cap,cur,l,hv,hj,by rw[hoth j hjb];exact hhj,hnc,hcm,hcs,hGj,hl⟩
 ·rw[oQ s.bx k j _ old hl] at hj
  split at hj
  ·rename_i ejk
   subst ejk;simp only[Option.some.injEq] at hj;subst hj;refine⟨b,_,e,hb,hBb,hset,by simpa using RO hp hv off,fun u hu=>?_,qm,fun hh=>by rw[Yz hle];exact hq0 (hq hh)⟩;simp only[List.mem_append] at hu;rcases hu with(hu|hu)|hu
   ·exact ho' u (List.mem_of_mem_take hu)
   ·exact ho u hu
   ·exact ho' u (List.mem_of_mem_drop hu)
  ·rename_i ejk
   obtain⟨b2,c2,e2,hb2,hBb2,hh2,hp2,ho2,hG2,hq2⟩:=h.bxs.1 j ds hj;have hne:b2≠b:=by
    intro e3;subst e3;exact ejk (h.bxs.2 j k ds old hj hl (hb2.trans hb.symm))
   exact⟨b2,c2,e2,hb2,hBb2,by rw[hoth b2 hne];exact hh2,hp2,ho2,hG2,hq2⟩
 ·rw[oQ s.bx k _ _ old hl] at hj hj'
  refine fun hbb=>?_
  split at hj<;>split at hj'
  ·rename_i e1 e2;rw[e1,e2]
  ·rename_i e1 e2;subst e1;exact h.bxs.2 _ _ old ds' hl hj' hbb
  ·rename_i e1 e2;subst e2;exact h.bxs.2 _ _ ds old hj hl hbb
  ·exact h.bxs.2 _ _ ds ds' hj hj' hbb
 ·refine h.kX.trans ⟨⟨rfl,rfl,rfl,by rw[hsz];exact Nat.le_refl _,fun j hj=>by omega⟩,fun j hj=>hoth j fun e=>hj (e▸hBb)⟩
 ·rw[oQ s.bx k j _ old hl] at hj
  split at hj
  ·rename_i e1;rw[e1];exact h.zb k old L v e2 sz b2 hl hL hb2
  ·exact h.zb j ds L v e2 sz b2 hj hL hb2
theorem Jy {f:List V→List V} {bx:List (Nat×List V)} {g:Gh} (h: ∀k cs L v e sz b,au bx k=some cs→g.O L=some (v,e,sz)→v.ownBlock=some b→g.β k≠some b): ∀k cs L v e sz b,au (bx.map fun(k,cs)=>(k,f cs)) k=some cs→g.O L=some (v,e,sz)→v.ownBlock=some b→g.β k≠some b:=by
 intro k cs L v e sz b hk;rw[fP] at hk
 cases hq:au bx k with
 |none=>rw[hq] at hk;cases hk
 |some ds=>exact h k ds L v e sz b hq
theorem jR {G G':aM} {x:V} {v:Value} (hx:BF x=true) (h:aN G x v):aN G' x v:=by
 cases x<;>first|cases hx|skip
 all_goals (unfold aN at h⊢;exact h)
theorem YL {sh:List Kd} {x:V} (hs:sh.all flatK=true) (hf:fJ sh x.cells=true): ∀c∈x.cells,BF c=true:=by
 have key: ∀(sh:List Kd) (cs:List V),sh.all flatK=true→fJ sh cs=true→ ∀c∈cs,BF c=true:=by
  intro sh;induction sh with
  |nil=>intro cs _ hf c hc;cases cs with
   |nil=>cases hc
   |cons _ _=>simp[fJ] at hf
  |cons k sh ih=>
   intro cs hs hf c hc
   cases cs with
   |nil=>cases hc
   |cons y cs=>
    rw[List.all_cons,Bool.and_eq_true] at hs;simp only[fJ] at hf;obtain⟨h1,h2⟩:=aY hf;rcases List.mem_cons.1 hc with rfl|hc
    ·cases k<;>first|(cases hs.1;done)|skip
     all_goals (cases c<;>first|rfl|(simp[fits] at h1))
    ·exact ih cs hs.2 h2 c hc
 exact key sh x.cells hs hf
theorem Ul {G G':aM} {sh:List Kd} {x:V} {u:Value} (hs:sh.all flatK=true) (hf:gH sh x=true) (h:aN G x u):aN G' x u:=by
 have hfl:=YL hs hf
 cases x with
 |agg cs=>
  unfold aN at h⊢;obtain⟨a,rfl,h⟩:=h;refine⟨a,rfl,?_⟩;rw[eP] at h⊢;exact h.mono fun y hy v hv=>jR (hfl y hy) hv
 |_=>exact jR (hfl _ List.mem_cons_self) h
theorem AX {G G':aM} {sh:List Kd} (hs:sh.all flatK=true): ∀(xs:List V) (cells:List Value),bQ G sh xs cells→bQ G' sh xs cells
 |[],_,_=>iZ
 |x::xs,cells,h=>by
  unfold bQ at h⊢;obtain⟨hf,⟨u,hu,hc⟩,ht⟩:=h;exact⟨hf,⟨u,Ul hs hf hu,hc⟩,AX hs xs _ ht⟩
theorem H8 {G G':aM} {sh:List Kd} {xs:List V} {v:Value} (hs:sh.all flatK=true) (h:rV G sh xs v) (hb: ∀b,v.ownBlock=some b→G' b=G b):rV G' sh xs v:=by
 rcases h with h|⟨b,cap,l,rfl,hcap,hG,hl,hr⟩
 ·exact .inl h
 ·exact .inr ⟨b,cap,l,rfl,hcap,by rw[hb b rfl];exact hG,hl,AX hs _ _ hr⟩
theorem RU (L e:Nat) (k:List Kd) (ys:List V) (e':Nat) (sh:List Kd) (j:Nat) (xs:List V):Lh L e k ys (.sl e' sh (some j) xs)=bif L==j then .sl e k (some L) ys else .sl e' sh (some j) xs:=rfl
theorem H9 (L e:Nat) (k:List Kd) (ys:List V) (j e':Nat) (sh:List Kd) (xs:List V) (i:Int) (off:Nat):Lh L e k ys (.eptr j e' sh xs i off)=bif L==j then .eptr L e k ys i off else .eptr j e' sh xs i off:=rfl
theorem BX {g:Gh} {x:V} {v:Value} (h:aI g x v):aI g x.forget v:=by
 unfold V.forget
 cases x.flat
 ·exact ja
 ·exact h
theorem NA: ∀x:V,x.forget=.nilp→x=.nilp:=by
 intro x h;unfold V.forget at h
 cases hf:x.flat<;>rw[hf] at h
 ·cases h
 ·exact h
theorem BZ (x:V):x.forget.flat=true:=by
 unfold V.forget
 cases hf:x.flat
 ·rfl
 ·exact hf
theorem Inv.forget (h:Inv E B G0 w0 s g a w):Inv E B G0 w0 s.forget g a w:=by
 have hl: ∀k,au s.forget.bx k=(au s.bx k).map (List.map V.forget):=fun k=>fP _ _ _
 refine⟨dJ h.fr fun z _ v hv=>BX hv,h.df,h.gok,h.own,⟨fun k cs hk=>?_,fun k k' cs cs' h1 h2=>?_⟩,h.kX,h.hB,h.ext,h.glob,h.g1,Jy (f:=List.map V.forget) h.zb⟩
 ·rw[hl] at hk
  cases hq:au s.bx k with
  |none=>rw[hq] at hk;cases hk
  |some ds=>
   rw[hq] at hk;simp only[Option.map_some,Option.some.injEq] at hk;subst hk;obtain⟨b,c,e,hb,hBb,hh,hp,ho,hG,hq2⟩:=h.bxs.1 k ds hq;exact⟨b,c,e,hb,hBb,hh,dJ hp fun z _ v hv=>BX hv,ho,hG,kg NA hq2⟩
 ·rw[hl] at h1 h2
  cases hq:au s.bx k with
  |none=>rw[hq] at h1;cases h1
  |some ds=>
   cases hq':au s.bx k' with
   |none=>rw[hq'] at h2;cases h2
   |some ds'=>exact h.bxs.2 k k' ds ds' hq hq'
theorem KF (s:St):s.forget.Ra=true:=by
 unfold St.Ra St.forget;rw[Bool.and_eq_true,List.all_eq_true,List.all_eq_true];refine⟨fun x hx=>?_,fun p hp=>?_⟩
 ·obtain⟨y,_,rfl⟩:=List.mem_map.1 hx
  exact BZ y
 ·obtain⟨q,_,rfl⟩:=List.mem_map.1 hp
  show(q.2.map V.forget).all V.flat=true;rw[List.all_eq_true];intro x hx;obtain⟨y,_,rfl⟩:=List.mem_map.1 hx;exact BZ y
theorem Inv.DL (h:Inv E B G0 w0 s g a w) {L e b i:Nat} {k:List Kd} {v0 u:Value} {c:Array Value} {l:List Value} {xs ys:List V} (hO:g.O L=some (v0,e,k.length)) (hb:v0.ownBlock=some b) (hh:w.heap[b]? =some (.cells c e (0,0))) (qm:g.G b=some l) (hi:i<l.length)
  (hown:rV g.G k xs v0) (hys:ys.length=xs.length) (hk:k.all flatK=true) (hr:bQ g.G k ys (l.set i u)) (hone:u.oneCell'=true) (hn:s.Ra=true) (hL:L<HL):
  ∃g',Inv E B G0 w0 (s.upd L e k ys) g' a (w.setRow b (c.toList.take i++[u]++c.toList.drop (i+1)).toArray):=by
 have hBb:B.ok L b:=by
  rcases(h.own.1 L v0 e k.length hO).2 with hv|⟨b',n,cap,cur,l',hv,hB',_⟩
  ·rw[hv] at hb;cases hb
  ·rw[hv] at hb;simp[Value.ownBlock] at hb;subst hb;exact hB'
 obtain⟨c0,e0,fr0,hc0,ht0⟩:=h.gok b l qm;rw[hh] at hc0;simp only[Option.some.injEq,Obj.cells.injEq] at hc0;obtain⟨rfl,rfl,rfl⟩:=hc0;have hil:i<c.toList.length:=by
  have:=congrArg List.length ht0;rw[List.length_take] at this;omega
 have hset:c.toList.take i++[u]++c.toList.drop (i+1)=c.toList.set i u:=by
  rw[List.set_eq_take_append_cons_drop,if_pos hil];simp
 rw[hset];let G':aM:=fun j=>if j=b then some (l.set i u) else g.G j
 have hG': ∀j,j≠b→G' j=g.G j:=fun j hj=>if_neg hj
 have hGs:G' b=some (l.set i u):=if_pos rfl;have hnew:=setRow_heap w b c (c.toList.set i u).toArray e (0,0) hh;have hoth: ∀j,j≠b→(w.setRow b (c.toList.set i u).toArray).heap[j]? =w.heap[j]? :=fun j hj=>setRow_other w b j _ hj
 have hsz:(w.setRow b (c.toList.set i u).toArray).heap.size=w.heap.size:=by simp[World.setRow]
 have hv0:rV G' k ys v0:=by
  rcases hown with⟨hv,hx0⟩|⟨b',cap,l',hv,hcap,hGl,hll,hE⟩
  ·rw[hv] at hb;cases hb
  ·rw[hv] at hb
   simp only[Value.ownBlock,Option.some.injEq] at hb;subst hb;rw[qm] at hGl;simp only[Option.some.injEq] at hGl;subst hGl;exact .inr ⟨b',cap,l.set i u,by rw[hv,hys],by rw[hys];exact hcap,hGs,by rw[List.length_set,hys];exact hll,AX hk _ _ hr⟩
 have hlenL: ∀(sh:List Kd) (zs:List V),g.O L=some (v0,e,sh.length)→rV g.G sh zs v0→zs.length=xs.length:=by
  intro sh zs _ hz;rcases hz with⟨hv,hz⟩|⟨b',cap,l',hv,_⟩
  ·rw[hv] at hb;cases hb
  ·rcases hown with⟨hv2,_⟩|⟨b2,cap2,l2,hv2,_⟩
   ·rw[hv2] at hb;cases hb
   ·rw[hv] at hv2
    simp only[Value.slice.injEq] at hv2;exact hv2.2.1
 have hother: ∀j v e' sz b',j≠L→g.O j=some (v,e',sz)→v.ownBlock=some b'→b'≠b:=by
  intro j v e' sz b' hj hOj hb' e1;subst e1;exact hj (h.own.2 j L v v0 e' e sz k.length b' hOj hO hb' hb)
 have hm1:lH g.G1 G':=fun j m hj=>by
  obtain⟨m1,q1,q2⟩:=h.g1 j m hj;have hjb:j≠b:=fun e=>by have h1:=h.glob.2 j m1 q1;have h2:=hBb.2 hL;omega
  obtain⟨m2,q3,q4⟩:=h.ext.2.1 j m1 q1;exact⟨m2,(hG' j hjb).trans q3,q2.trans q4⟩
 have qz: ∀(y:V) (v:Value),GV y=true→bE g y v→bE {g with G:=G'} (Lh L e k ys y) v:=by
  intro y v hy hv
  cases y with
  |sl e' sh ow zs=>
   cases ow with
   |none=>cases hy
   |some j=>
    rw[RU];obtain⟨p1,p2⟩:=hv;by_cases hj:L=j
    ·have e1:(L==j)=true:=by simpa using hj
     rw[e1,cond_true];subst hj;rw[hO] at p1;simp only[Option.some.injEq,Prod.mk.injEq] at p1;obtain⟨rfl,rfl,_⟩:=p1;exact⟨hO,hv0⟩
    ·have e1:(L==j)=false:=by simpa using hj
     rw[e1,cond_false];exact⟨p1,H8 hy p2 fun b' hb'=>hG' b' (hother j v e' _ b' (fun e=>hj e.symm) p1 hb')⟩
  |eptr j e' sh zs q off=>
   rw[H9];obtain⟨v1,b1,p1,p2,p3,p4,p5,p6⟩:=hv;by_cases hj:L=j
   ·have e1:(L==j)=true:=by simpa using hj
    rw[e1,cond_true];subst hj;have p1':=p1;rw[hO] at p1;simp only[Option.some.injEq,Prod.mk.injEq] at p1;obtain⟨rfl,rfl,hsl⟩:=p1;have hzl:=hlenL sh zs p1' p2;refine⟨v0,b1,hO,hv0,p3,by rw[hys];omega,p5,?_⟩;rw[p6,hsl]
   ·have e1:(L==j)=false:=by simpa using hj
    rw[e1,cond_false];exact⟨v1,b1,p1,H8 hy p2 fun b' hb'=>hG' b' (hother j v1 e' _ b' (fun e=>hj e.symm) p1 hb'),p3,p4,p5,p6⟩
  |box j off=>exact hv
  |old x=>exact⟨hv.1,gJ hm1 _ _ hv.1,hv.2.2⟩
  |any=>show aN G' .any v;unfold aN;trivial
  |bool _=>exact jR (G:=g.G) rfl hv
  |int _ _=>exact jR (G:=g.G) rfl hv
  |str _=>exact jR (G:=g.G) rfl hv
  |nilsl=>exact jR (G:=g.G) rfl hv
  |nilif=>exact jR (G:=g.G) rfl hv
  |nilp=>exact jR (G:=g.G) rfl hv
  |iface _ _=>cases hy
  |bxa _ _=>cases hy
  |out _ _ _=>cases hy
  |o9 _ _ _=>cases hy
  |agg _=>cases hy
  |tup _=>cases hy
  |rptr _ _ _=>cases hy
  |fn _ _=>cases hy
  |slz _ _ _ _ _ _ _ _ _ _=>cases hy
  |epz _ _ _ _ _=>cases hy
  |keep _ _=>cases hy
 have htrep: ∀(y:V) (v:Value),y.flat=true→aI g y v→aI {g with G:=G'} (y.upd L e k ys) v:=by
  intro y v hy hv
  cases y with
  |tup vs=>
   obtain⟨a,rfl,p⟩:=hv;have hy:vs.all GV=true:=hy;rw[List.all_eq_true] at hy;exact⟨a,rfl,dJ p fun z hz v hv=>qz z v (hy z hz) hv⟩
  |fn f vs=>
   obtain⟨a,rfl,p⟩:=hv;have hy:vs.all GV=true:=hy;rw[List.all_eq_true] at hy;exact⟨a,rfl,dJ p fun z hz v hv=>qz z v (hy z hz) hv⟩
  |agg cs=>
   obtain⟨a,rfl,p⟩:=iC.1 hv;have hy:cs.all BF=true:=hy;rw[List.all_eq_true] at hy;exact iC.2 ⟨a,rfl,p.mono fun z hz v hv=>jR (hy z hz) hv⟩
  |sl e' sh ow zs=>
   have h2:=qz (.sl e' sh ow zs) v hy (aV (x:=.sl e' sh ow zs) rfl hv);refine bA ?_ h2
   cases ow with
   |none=>cases hy
   |some j=>show(Lh L e k ys (V.sl e' sh (some j) zs)).single=true;rw[RU];cases L==j<;>rfl
  |eptr j e' sh zs q off=>
   have h2:=qz (.eptr j e' sh zs q off) v hy (aV (x:=.eptr j e' sh zs q off) rfl hv);refine bA ?_ h2;show(Lh L e k ys (V.eptr j e' sh zs q off)).single=true;rw[H9];cases L==j<;>rfl
  |any=>exact bA rfl (qz (.any) v rfl (aV (x:=.any) rfl hv))
  |bool q=>exact bA rfl (qz (.bool q) v rfl (aV (x:=.bool q) rfl hv))
  |int q r=>exact bA rfl (qz (.int q r) v rfl (aV (x:=.int q r) rfl hv))
  |str q=>exact bA rfl (qz (.str q) v rfl (aV (x:=.str q) rfl hv))
  |nilsl=>exact bA rfl (qz (.nilsl) v rfl (aV (x:=.nilsl) rfl hv))
  |nilif=>exact bA rfl (qz (.nilif) v rfl (aV (x:=.nilif) rfl hv))
  |nilp=>exact bA rfl (qz (.nilp) v rfl (aV (x:=.nilp) rfl hv))
  |iface _ _=>cases hy
  |bxa _ _=>cases hy
  |out _ _ _=>cases hy
  |o9 _ _ _=>cases hy
  |box q r=>exact bA rfl (qz (.box q r) v rfl (aV (x:=.box q r) rfl hv))
  |old q=>exact bA rfl (qz (.old q) v rfl (aV (x:=.old q) rfl hv))
  |rptr _ _ _=>cases hy
  |slz _ _ _ _ _ _ _ _ _ _=>cases hy
  |epz _ _ _ _ _=>cases hy
  |keep _ _=>cases hy
 unfold St.Ra at hn;rw[Bool.and_eq_true,List.all_eq_true,List.all_eq_true] at hn;obtain⟨n1,n2⟩:=hn;refine⟨{g with G:=G'},dJ h.fr fun y hy v hv=>htrep y v (n1 y hy) hv,h.df,fun j m hj=>?_,⟨fun j v e2 sz hj=>?_,h.own.2⟩,⟨fun j ds hj=>?_,fun j j' ds ds' hj hj'=>?_⟩,?_,by rw[hsz];exact h.hB,⟨fun j hj=>(hG' j fun e=>hj (e▸hBb.1)).trans (h.ext.1 j hj),fun j m hj=>by
  have hjb:j≠b:=fun e=>by have h1:=h.glob.2 j m hj;have h2:=hBb.2 hL;omega
  obtain⟨m',h1,h2⟩:=h.ext.2.1 j m hj;exact⟨m',by show G' j=_;rw[hG' j hjb];exact h1,h2⟩,h.ext.2.2⟩,h.glob,h.g1,Jy (f:=List.map (V.upd L e k ys)) h.zb⟩
 ·by_cases hjb:j=b
  ·subst hjb
   have hj:G' j=some m:=hj;rw[hGs] at hj;simp only[Option.some.injEq] at hj;subst hj;refine⟨_,_,_,hnew,?_⟩;rw[List.length_set,List.toList_toArray];rw[List.take_set,ht0]
  ·have hj:G' j=some m:=hj
   rw[hG' j hjb] at hj;obtain⟨c2,e2,fr,hc,ht⟩:=h.gok j m hj;exact⟨c2,e2,fr,by rw[hoth j hjb];exact hc,ht⟩
 ·obtain⟨q1,q2⟩:=h.own.1 j v e2 sz hj
  refine⟨q1,q2.imp id ?_⟩;rintro⟨b',n,cap,cur,m,hv,hB',On,hnc,hcm,hcs,hGj,hl⟩;by_cases hjb:b'=b
  ·subst hjb
   rw[hh] at On;simp only[Option.some.injEq,Obj.cells.injEq] at On;obtain⟨rfl,rfl,_⟩:=On;obtain⟨e9,hCj⟩:=hGj.known qm;subst e9;exact⟨b',n,cap,_,_,hv,hB',hnew,hnc,hcm,by simpa using hcs,mI.mk0 hCj hGs,by simpa using hl⟩
  ·exact⟨b',n,cap,cur,m,hv,hB',by rw[hoth b' hjb];exact On,hnc,hcm,hcs,hGj.keep rfl (hG' b' hjb),hl⟩
 ·have hj:au (s.bx.map fun(q,cs)=>(q,cs.map (V.upd L e k ys))) j=some ds:=hj
  rw[fP] at hj
  cases hq:au s.bx j with
  |none=>rw[hq] at hj;cases hj
  |some cs=>
   rw[hq] at hj;simp only[Option.map_some,Option.some.injEq] at hj;subst hj;obtain⟨b',c',e',p1,p2,p3,p4,p5,p6,p7⟩:=h.bxs.1 j cs hq;have hne:b'≠b:=fun e1=>by subst e1;rw[qm] at p6;cases p6
   have hfl:=n2 _ (jC _ _ _ hq);simp only[List.all_eq_true] at hfl;exact⟨b',c',e',p1,p2,by rw[hoth b' hne];exact p3,dJ p4 fun y hy v hv=>htrep y v (hfl y hy) hv,p5,by show G' b'=none;rw[hG' b' hne];exact p6,kg (YA _ _ _ _) p7⟩
 ·have hj:au (s.bx.map fun(q,cs)=>(q,cs.map (V.upd L e k ys))) j=some ds:=hj
  have hj':au (s.bx.map fun(q,cs)=>(q,cs.map (V.upd L e k ys))) j'=some ds':=hj';rw[fP] at hj hj'
  cases hq:au s.bx j with
  |none=>rw[hq] at hj;cases hj
  |some cs=>
   cases hq':au s.bx j' with
   |none=>rw[hq'] at hj';cases hj'
   |some cs'=>exact h.bxs.2 j j' cs cs' hq hq'
 ·refine h.kX.trans ⟨⟨rfl,rfl,rfl,by rw[hsz];exact Nat.le_refl _,fun j hj=>by omega⟩,fun j hj=>hoth j fun e=>hj (e▸hBb.1)⟩
theorem Ia (L i e:Nat) (sh:List Kd) (k:Nat) (xs:List V):qX L i (.sl e sh (some k) xs)=bif L==k then .sl e sh (some i) xs else .sl e sh (some k) xs:=rfl
theorem B5 (L i k e:Nat) (sh:List Kd) (xs:List V) (j:Int) (off:Nat):qX L i (.eptr k e sh xs j off)=bif L==k then .eptr i e sh xs j off else .eptr k e sh xs j off:=rfl
theorem Qc (L i k e:Nat) (sh:List Kd) (xs:List V) (o2:Option Nat) (j:Int) (c e2:Nat) (bC:List Kd) (ys:List V):qX L i (.slz k e sh xs o2 j c e2 bC ys)=.slz (bif L==k then i else k) e sh xs (renO L i o2) j c e2 bC ys:=rfl
theorem Qd (L i k e sz:Nat) (j:Int) (off:Nat):qX L i (.epz k e sz j off)=.epz (bif L==k then i else k) e sz j off:=rfl
theorem jD {g:Gh} {O':Nat→Option (Value×Nat×Nat)} {C':Nat→Option (List Value)} {L i:Nat} (hi:O' i=g.O L) (hO: ∀k,k≠L→k≠i→O' k=g.O k) (QY:C' i=g.C L) (hC: ∀k,k≠L→k≠i→C' k=g.C k) {x:V} {v:Value} (hx:jd i x=false) (h:bE g x v):bE {g with O:=O',C:=C'} (qX L i x) v:=by
 cases x with
 |sl e sh ow xs=>
  cases ow with
  |none=>exact h
  |some k=>
   rw[Ia];by_cases hk:L=k
   ·have:(L==k)=true:=by simpa using hk
    rw[this];subst hk;exact⟨hi.trans h.1,h.2⟩
   ·have:(L==k)=false:=by simpa using hk
    rw[this];have hki:k≠i:=fun e=>by subst e;simp[jd] at hx
    exact⟨(hO k (fun e=>hk e.symm) hki).trans h.1,h.2⟩
 |eptr k e sh xs j off=>
  rw[B5];obtain⟨v0,b,h1,h2⟩:=h;by_cases hk:L=k
  ·have:(L==k)=true:=by simpa using hk
   rw[this];subst hk;exact⟨v0,b,hi.trans h1,h2⟩
  ·have:(L==k)=false:=by simpa using hk
   rw[this];have hki:k≠i:=fun e=>by subst e;simp[jd] at hx
   exact⟨v0,b,(hO k (fun e=>hk e.symm) hki).trans h1,h2⟩
 |slz k e sh xs o2 j c e2 bC ys=>
  rw[Qc];have hx:(i==k||lkO i o2)=false:=hx;rw[Bool.or_eq_false_iff,beq_eq_false_iff_ne] at hx;obtain⟨hx1,hx2⟩:=hx;obtain⟨l,h1,h2,h3,h4⟩:=h;have hlk:qy {g with O:=O',C:=C'} l sh.length (renO L i o2) j c e2 bC ys:=by
   cases o2 with
   |none=>trivial
   |some L2=>
    have hx2:(i==L2)=false:=hx2;rw[beq_eq_false_iff_ne] at hx2;obtain⟨v2,q1,q2⟩:=h4;by_cases hk2:L=L2
    ·subst hk2
     show qy _ l sh.length (bif L==L then some i else some L) j c e2 bC ys;rw[beq_self_eq_true];exact⟨v2,hi.trans q1,q2⟩
    ·show qy _ l sh.length (bif L==L2 then some i else some L2) j c e2 bC ys
     rw[beq_eq_false_iff_ne.2 hk2];exact⟨v2,(hO L2 (fun e=>hk2 e.symm) (fun e=>hx2 e.symm)).trans q1,q2⟩
  by_cases hk:L=k
  ·subst hk
   rw[beq_self_eq_true];exact⟨l,hi.trans h1,QY.trans h2,h3,hlk⟩
  ·rw[beq_eq_false_iff_ne.2 hk]
   exact⟨l,(hO k (fun e=>hk e.symm) (fun e=>hx1 e.symm)).trans h1,(hC k (fun e=>hk e.symm) (fun e=>hx1 e.symm)).trans h2,h3,hlk⟩
 |epz k e sz j off=>
  rw[Qd];have hx:(i==k)=false:=hx;rw[beq_eq_false_iff_ne] at hx;obtain⟨v0,b,l,h1,h2,h3⟩:=h;by_cases hk:L=k
  ·subst hk
   rw[beq_self_eq_true];exact⟨v0,b,l,hi.trans h1,QY.trans h2,h3⟩
  ·rw[beq_eq_false_iff_ne.2 hk]
   exact⟨v0,b,l,(hO k (fun e=>hk e.symm) (fun e=>hx e.symm)).trans h1,(hC k (fun e=>hk e.symm) (fun e=>hx e.symm)).trans h2,h3⟩
 |_=>exact h
theorem wo {L i:Nat} {x:V} (h:x.single=true):(qX L i x).single=true:=by
 cases x with
 |sl e sh ow xs=>
  cases ow with
  |none=>rfl
  |some k=>rw[Ia];cases L==k<;>rfl
 |eptr k e sh xs j off=>rw[B5];cases L==k<;>rfl
 |tup _=>cases h
 |fn _ _=>cases h
 |_=>rfl
theorem Fj {g:Gh} {O':Nat→Option (Value×Nat×Nat)} {C':Nat→Option (List Value)} {L i:Nat} (hi:O' i=g.O L) (hO: ∀k,k≠L→k≠i→O' k=g.O k) (QY:C' i=g.C L) (hC: ∀k,k≠L→k≠i→C' k=g.C k) {x:V} {v:Value} (hx:x.dA i=false) (h:aI g x v):aI {g with O:=O',C:=C'} (x.canon L i) v:=by
 cases x with
 |tup vs=>
  obtain⟨a,rfl,h⟩:=h;simp only[V.dA,List.any_eq_false] at hx;exact⟨a,rfl,dJ h fun y hy v hv=>jD hi hO QY hC (by have:=hx y hy;simpa using this) hv⟩
 |fn f c=>
  obtain⟨a,rfl,h⟩:=h;simp only[V.dA,List.any_eq_false] at hx;exact⟨a,rfl,dJ h fun y hy v hv=>jD hi hO QY hC (by have:=hx y hy;simpa using this) hv⟩
 |sl e sh ow xs=>exact bA (wo rfl) (jD hi hO QY hC hx (aV rfl h))
 |eptr k e sh xs j off=>exact bA (wo (x:=.eptr k e sh xs j off) rfl) (jD (x:=.eptr k e sh xs j off) hi hO QY hC hx (aV (x:=.eptr k e sh xs j off) rfl h))
 |slz k e sh xs o2 j c e2 bC ys=>exact bA (x:=.slz (bif L==k then i else k) e sh xs (renO L i o2) j c e2 bC ys) rfl (jD (x:=.slz k e sh xs o2 j c e2 bC ys) hi hO QY hC hx (aV (x:=.slz k e sh xs o2 j c e2 bC ys) rfl h))
 |epz k e sz j off=>exact bA (x:=.epz (bif L==k then i else k) e sz j off) rfl (jD (x:=.epz k e sz j off) hi hO QY hC hx (aV (x:=.epz k e sz j off) rfl h))
 |_=>simp only[aI,V.dA] at h hx⊢;exact jD hi hO QY hC hx h
theorem Inv.canon (h:Inv E B G0 w0 s g a w) {L i:Nat} (hne:L≠i) (hcl:i<HL→L<HL) (hi:s.bu i=true): ∃g',Inv E B G0 w0 (s.canon L i) g' a w:=by
 let O':Nat→Option (Value×Nat×Nat):=fun k=>if k=i then g.O L else if k=L then none else g.O k
 have h1:O' i=g.O L:=if_pos rfl;have h2: ∀k,k≠L→k≠i→O' k=g.O k:=fun k hk hki=>by show(if k=i then g.O L else if k=L then none else g.O k)=_;rw[if_neg hki,if_neg hk]
 let C':Nat→Option (List Value):=fun k=>if k=i then g.C L else if k=L then none else g.C k
 have c1':C' i=g.C L:=if_pos rfl;have c2': ∀k,k≠L→k≠i→C' k=g.C k:=fun k hk hki=>by show(if k=i then g.C L else if k=L then none else g.C k)=_;rw[if_neg hki,if_neg hk]
 have hinv: ∀k x,O' k=some x→ ∃j,g.O j=some x∧(j=if k=i then L else k):=by
  intro k x hk;have hk:(if k=i then g.O L else if k=L then none else g.O k)=some x:=hk;split at hk
  ·rename_i e;exact⟨L,hk,by rw[if_pos e]⟩
  ·rename_i e
   split at hk
   ·cases hk
   ·exact⟨k,hk,by rw[if_neg e]⟩
 refine⟨{g with O:=O',C:=C'},dJ h.fr fun x hx v=>Fj h1 h2 c1' c2' (rD hi x hx),h.df,h.gok,⟨fun k v e sz hk=>?_,fun k k' v v' e e' sz sz' b hk hk' hb hb'=>?_⟩,⟨fun k cs hk=>?_,fun k k' cs cs' hk hk'=>?_⟩,h.kX,h.hB,h.ext,h.glob,h.g1,fun k cs k' v e sz b hk hk' hb=>?_⟩
 ·obtain⟨j,hj,ej⟩:=hinv k _ hk
  have h1:=h.own.1 j v e sz hj;refine⟨h1.1,h1.2.imp id ?_⟩;rintro⟨b,n,cap,cur,l,hv,hb,hh,hnc,hcm,hcs,hrow,hl⟩;have hCk:C' k=g.C j:=by
   rw[ej];by_cases ek:k=i
   ·rw[if_pos ek,ek];exact c1'
   ·rw[if_neg ek]
    have hkL:k≠L:=fun e9=>by
     subst e9;have hk:(if k=i then g.O k else if k=k then none else g.O k)=some (v,e,sz):=hk;rw[if_neg ek,if_pos rfl] at hk
     cases hk
    exact c2' k hkL ek
  refine⟨b,n,cap,cur,l,hv,⟨hb.1,fun hk=>hb.2 ?_⟩,hh,hnc,hcm,hcs,?_,hl⟩
  ·rw[ej]
   split
   ·rename_i e;exact hcl (e▸hk)
   ·exact hk
  ·unfold mI at hrow⊢
   show(match C' k with|none=>g.G b=some l|some l'=>g.G b=none∧l'=l∧cur.toList.take l.length=l);rw[hCk];exact hrow
 ·have hkL: ∀k x,O' k=some x→k≠L:=by
   intro k x hk e;subst e;have hk:(if k=i then g.O k else if k=k then none else g.O k)=some x:=hk;rw[if_neg hne,if_pos rfl] at hk
   cases hk
  obtain⟨j,hj,ej⟩:=hinv k _ hk;obtain⟨j',hj',ej'⟩:=hinv k' _ hk';have hjj:=h.own.2 j j' v v' e e' sz sz' b hj hj' hb hb';have hk1:=hkL k _ hk;have hk2:=hkL k' _ hk';by_cases c1:k=i<;>by_cases c2:k'=i
  ·rw[c1,c2]
  ·rw[if_pos c1] at ej;rw[if_neg c2] at ej';omega
  ·rw[if_neg c1] at ej;rw[if_pos c2] at ej';omega
  ·rw[if_neg c1] at ej;rw[if_neg c2] at ej';omega
 ·have hk:au (s.bx.map fun(k,cs)=>(k,cs.map (V.canon L i))) k=some cs:=hk
  rw[fP] at hk
  cases hq:au s.bx k with
  |none=>rw[hq] at hk;cases hk
  |some ds=>
   rw[hq] at hk;simp only[Option.map_some,Option.some.injEq] at hk;subst hk;obtain⟨b,c,e,hb,hBb,hh,hp,ho,hG,hq2⟩:=h.bxs.1 k ds hq;exact⟨b,c,e,hb,hBb,hh,dJ hp fun x hx v=>Fj h1 h2 c1' c2' (xH hi k ds hq x hx),ho,hG,kg (PX _ _) hq2⟩
 ·have hk:au (s.bx.map fun(k,cs)=>(k,cs.map (V.canon L i))) k=some cs:=hk
  have hk':au (s.bx.map fun(k,cs)=>(k,cs.map (V.canon L i))) k'=some cs':=hk';rw[fP] at hk hk'
  cases hq:au s.bx k with
  |none=>rw[hq] at hk;cases hk
  |some ds=>
   cases hq':au s.bx k' with
   |none=>rw[hq'] at hk';cases hk'
   |some ds'=>exact h.bxs.2 k k' ds ds' hq hq'
 ·obtain⟨j,hj,_⟩:=hinv k' _ hk'
  have hk:au (s.bx.map fun(k,cs)=>(k,cs.map (V.canon L i))) k=some cs:=hk;rw[fP] at hk
  cases hq:au s.bx k with
  |none=>rw[hq] at hk;cases hk
  |some ds=>exact h.zb k ds j v e sz b hq hj hb
theorem Inv.less (h:Inv E B G0 w0 s g a w) {fr:List V} {bx:List (Nat×List V)} (hf:PW (aI g) fr a.tmps.toList) (hb: ∀k cs,au bx k=some cs→au s.bx k=some cs):Inv E B G0 w0 ⟨fr,bx⟩ g a w:=
 ⟨hf,h.df,h.gok,h.own,⟨fun k cs hk=>h.bxs.1 k cs (hb k cs hk),fun k k' cs cs' hk hk'=>h.bxs.2 k k' cs cs' (hb k cs hk) (hb k' cs' hk')⟩,h.kX,h.hB,h.ext,h.glob,h.g1,fun k cs L v e sz b hk=>h.zb k cs L v e sz b (hb k cs hk)⟩
theorem Ib {g:Gh} (mask:List Nat): ∀(xs:List V) (vs:List Value) (i:Nat),PW (aI g) xs vs→PW (aI g) (Aq mask xs i) vs
 |[],vs,i,h=>by rw[h.bT];exact .nil
 |x::xs,vs,i,h=>by
  obtain⟨v,t,rfl,h1,h2⟩:=h.cons_inv;unfold Aq;refine .cons ?_ (Ib mask xs t (i+1) h2)
  cases mask.contains i
  ·exact h1
  ·exact ja
theorem B6 (q:Nat→Bool): ∀(l:List (Nat×List V)) (k:Nat) (cs:List V),au (l.filter fun(k,_)=>q k) k=some cs→au l k=some cs
 |[],k,cs,h=>by cases h
 |(j,ds)::l,k,cs,h=>by
  have ih:=B6 q l k cs;simp only[List.filter_cons] at h;unfold au
  cases hj:j==k with
  |true=>
   have e:j=k:=by simpa using hj
   subst e;rw[cond_true]
   cases hq:q j with
   |true=>
    rw[hq,if_pos rfl] at h;unfold au at h;rw[hj,cond_true] at h;exact h
   |false=>
    rw[hq,if_neg (by decide)] at h;exfalso;have: ∀(l:List (Nat×List V)),au (l.filter fun(k,_)=>q k) j=none:=by
     intro l;induction l with
     |nil=>rfl
     |cons p l ih=>
      obtain⟨i,es⟩:=p;simp only[List.filter_cons];by_cases hi:q i=true
      ·rw[if_pos hi]
       unfold au;have:(i==j)=false:=by
        rw[beq_eq_false_iff_ne];intro e;subst e;rw[hi] at hq;cases hq
       rw[this,cond_false];exact ih
      ·rw[if_neg hi];exact ih
    rw[this l] at h
    cases h
  |false=>
   rw[cond_false]
   cases hq:q j with
   |true=>
    rw[hq,if_pos rfl] at h;unfold au at h;rw[hj,cond_false] at h;exact ih h
   |false=>
    rw[hq,if_neg (by decide)] at h;exact ih h
theorem Ei {L i:Nat} (hi:i<HL) (h:fo true L i<HL):L<HL:=by
 unfold fo at h;rw[Bool.true_and] at h
 cases hq:Nat.ble HL L with
 |true=>rw[hq,cond_true] at h;omega
 |false=>
  refine Nat.lt_of_not_le fun e=>?_
  rw[Nat.ble_eq_true_of_le e] at hq
  cases hq
theorem Gs: ∀(fr:List V) (i:Nat) (done:List Nat) (s:St) (g:Gh),Inv E B G0 w0 s g a w→ ∃g',Inv E B G0 w0 (jO fr i done s) g' a w:=by
 intro fr;induction fr with
 |nil=>intro i done s g h;exact⟨g,h⟩
 |cons x fr ih=>
  intro i done s g h
  cases x with
  |sl e sh ow xs=>
   cases ow with
   |none=>unfold jO;exact ih _ _ _ _ h
   |some L=>
    unfold jO
    cases hd:(done.contains L||L==fo true L i) with
    |true=>rw[cond_true];exact ih _ _ _ _ h
    |false=>
     rw[cond_false]
     cases hn:(s.bu (fo true L i)&&Nat.blt i HL) with
     |false=>rw[cond_false];exact ih _ _ _ _ h
     |true=>
      rw[cond_true];rw[Bool.and_eq_true] at hn;have hne:L≠fo true L i:=by
       intro e;rw[Bool.or_eq_false_iff,beq_eq_false_iff_ne] at hd;exact hd.2 e
      obtain⟨g',h'⟩:=h.canon hne (Ei (jk hn.2)) hn.1;exact ih _ _ _ _ h'
  |_=>unfold jO;exact ih _ _ _ _ h
theorem xJ (n L:Nat) (h:Inv E B G0 w0 s g a w): ∃g',Inv E B G0 w0 (Ee n L s) g' a w:=by
 unfold Ee
 cases hd:(L==fo true L n||s.fr.any (fun v=>v.dA L)) with
 |true=>exact⟨g,h⟩
 |false=>
  rw[cond_false]
  cases hn:(s.bu (fo true L n)&&Nat.blt n HL) with
  |false=>exact⟨g,h⟩
  |true=>
   rw[cond_true];rw[Bool.and_eq_true] at hn;have hne:L≠fo true L n:=by
    intro e;rw[Bool.or_eq_false_iff,beq_eq_false_iff_ne] at hd;exact hd.1 e
   exact h.canon hne (Ei (jk hn.2)) hn.1
theorem Qe (b:Nat): ∀(cs:List V) (i:Nat) (s:St) (g:Gh),Inv E B G0 w0 s g a w→ ∃g',Inv E B G0 w0 (nH b cs i s) g' a w:=by
 intro cs;induction cs with
 |nil=>intro i s g h;exact⟨g,h⟩
 |cons x cs ih=>
  intro i s g h
  cases x with
  |sl e sh ow xs=>
   cases ow with
   |none=>unfold nH;exact ih _ _ _ h
   |some L=>
    unfold nH
    cases hd:(L==fo true L (b+i)||s.fr.any (fun v=>v.dA L)) with
    |true=>rw[cond_true];exact ih _ _ _ h
    |false=>
     rw[cond_false]
     cases hn:(s.bu (fo true L (b+i))&&Nat.blt (b+i) HL) with
     |false=>rw[cond_false];exact ih _ _ _ h
     |true=>
      rw[cond_true];rw[Bool.and_eq_true] at hn;have hne:L≠fo true L (b+i):=by
       intro e;rw[Bool.or_eq_false_iff,beq_eq_false_iff_ne] at hd;exact hd.1 e
      obtain⟨g',h'⟩:=h.canon hne (Ei (jk hn.2)) hn.1;exact ih _ _ _ h'
  |slz L e sh xs o2 j c e2 bC ys=>
   cases o2 with
   |none=>
    unfold nH;obtain⟨g',h'⟩:=xJ (b+i) L h;exact ih _ _ _ h'
   |some L2=>
    unfold nH;obtain⟨g',h'⟩:=xJ (b+i) L h;obtain⟨g'',h''⟩:=xJ (b+i+5000) L2 h';exact ih _ _ _ h''
  |_=>unfold nH;exact ih _ _ _ h
theorem NB: ∀(bx:List (Nat×List V)) (s:St) (g:Gh),Inv E B G0 w0 s g a w→ ∃g',Inv E B G0 w0 (Dh bx s) g' a w:=by
 intro bx;induction bx with
 |nil=>intro s g h;exact⟨g,h⟩
 |cons p bx ih=>
  intro s g h;unfold Dh;obtain⟨g',h'⟩:=Qe _ _ 0 s g h;exact ih _ _ h'
theorem Inv.head (h:Inv E B G0 w0 s g a w) (mask:List Nat): ∃g',Inv E B G0 w0 (Ef mask s) g' a w:=by
 unfold Ef;rw[Hg];obtain⟨g1,h1⟩:=Gs (Aq mask s.fr 0) 0 [] _ _ (h.less (Ib mask _ _ 0 h.fr) fun k cs hk=>B6 (fun k=>!mask.contains k||(Aq mask s.fr 0).any (V.fV k)) _ _ _ hk);exact NB _ _ _ h1
end
theorem jV: ∀{m:List (Nat×Nat)} {k v:Nat},lk m k=some v→(k,v)∈m
 |[],k,v,h=>by cases h
 |(a,b)::m,k,v,h=>by
  unfold lk at h
  cases hk:a==k with
  |true=>
   rw[hk,cond_true] at h;simp only[Option.some.injEq] at h;obtain rfl:a=k:=by simpa using hk
   subst h;exact List.mem_cons_self
  |false=>
   rw[hk,cond_false] at h;exact List.mem_cons_of_mem _ (jV h)
theorem rF: ∀(l:List Nat),qh l=true↔l.Nodup
 |[]=>by simp[qh]
 |a::l=>by
  unfold qh;rw[List.nodup_cons,←rF l]
  cases hc:l.contains a with
  |true=>simp at hc;simp[hc]
  |false=>simp at hc;simp[hc]
theorem vk: ∀{m:List (Nat×Nat)} {k v:Nat},(m.map (·.1)).Nodup→(k,v)∈m→lk m k=some v
 |[],k,v,_,h=>by cases h
 |(a,b)::m,k,v,hn,h=>by
  rw[List.map_cons,List.nodup_cons] at hn;unfold lk;rcases List.mem_cons.1 h with h|h
  ·simp only[Prod.mk.injEq] at h
   obtain⟨rfl,rfl⟩:=h;rw[beq_self_eq_true,cond_true]
  ·have hne:a≠k:=fun e=>hn.1 (List.mem_map.2 ⟨_,h,e.symm⟩)
   have:(a==k)=false:=by simpa using hne
   rw[this,cond_false];exact vk hn.2 h
theorem Um (m:List (Nat×Nat)):(dY m).map (·.1)=m.map (·.2):=by simp[dY,Function.comp_def]
theorem oI {m:List (Nat×Nat)} {a b:Nat}:(a,b)∈dY m↔(b,a)∈m:=by
 unfold dY;rw[List.mem_map];constructor
 ·rintro⟨⟨x,y⟩,h1,h2⟩;simp only[Prod.mk.injEq] at h2;obtain⟨rfl,rfl⟩:=h2;exact h1
 ·intro h;exact⟨_,h,rfl⟩
theorem jK {m:List (Nat×Nat)} {k v:Nat} (hn:(m.map (·.2)).Nodup) (h:(k,v)∈m):lk (dY m) v=some k:=vk (by rw[Um];exact hn) (oI.2 h)
theorem yV {m:List (Nat×Nat)} {k v v':Nat} (hn:(m.map (·.1)).Nodup) (h:(k,v)∈m) (h':(k,v')∈m):v=v':=by
 have h1:=vk hn h;rw[vk hn h'] at h1;simp only[Option.some.injEq] at h1;exact h1.symm
theorem lY {g g':Gh} {mb ml:List (Nat×Nat)} (hG:g'.G=g.G) (hO: ∀L n,lk ml L=some n→g'.O n=g.O L) (hC: ∀L n,lk ml L=some n→g'.C n=g.C L) (hβ: ∀k n,lk mb k=some n→g'.β n=g.β k) {x:V} {v:Value} (h:bE g x v):bE g' (vH mb ml x) v:=by
 cases x with
 |sl e sh ow xs=>
  cases ow with
  |none=>show aN g'.G _ _;rw[hG];exact h
  |some L=>
   show bE g' (.sl e sh (lk ml L) xs) v;obtain⟨h1,h2⟩:=h
   cases hl:lk ml L with
   |none=>show aN g'.G _ _;rw[hG];exact oG h2
   |some n=>exact⟨(hO L n hl).trans h1,by rw[hG];exact h2⟩
 |eptr _ _ _ _ _ _=>show aN g'.G .any v;unfold aN;trivial
 |epz _ _ _ _ _=>show aN g'.G .any v;unfold aN;trivial
 |slz L e sh xs o2 i c e2 bC ys=>
  show bE g' (match lk ml L with|some L'=> .slz L' e sh xs (o2.bind (lk ml)) i c e2 bC ys|none=> .any) v;obtain⟨l,h1,h2,h3,h4⟩:=h
  cases hl:lk ml L with
  |none=>show aN g'.G .any v;unfold aN;trivial
  |some n=>
   refine⟨l,(hO L n hl).trans h1,(hC L n hl).trans h2,⟨h3.1,h3.2.1,by rw[hG];exact h3.2.2⟩,?_⟩
   cases o2 with
   |none=>trivial
   |some L2=>
    show qy g' l sh.length (lk ml L2) i c e2 bC ys;obtain⟨v2,q1,q2,q3⟩:=h4
    cases hl2:lk ml L2 with
    |none=>trivial
    |some n2=>exact⟨v2,(hO L2 n2 hl2).trans q1,by rw[hG];exact q2,q3⟩
 |box k off=>
  show bE g' (match lk mb k with|some k'=> .box k' off|none=> .any) v;obtain⟨b,h1,h2⟩:=h
  cases hl:lk mb k with
  |none=>show aN g'.G .any v;unfold aN;trivial
  |some n=>exact⟨b,(hβ k n hl).trans h1,h2⟩
 |fn f bG=>
  cases bG with
  |nil=>show aN g'.G _ _;rw[hG];exact h
  |cons a c=>show aN g'.G .any v;unfold aN;trivial
 |old x=>
  show bE g' (bif x.dZ then x else .any) v
  cases x.dZ
  ·show aN g'.G .any v;unfold aN;trivial
  ·exact Ni h.2.2 (by rw[hG];exact h.2.1)
 |_=>show aN g'.G _ _;rw[hG];exact h
theorem uI {mb ml:List (Nat×Nat)} {x:V} (hx:x.single=true) (hf: ∀f c,x≠.fn f c) (ho: ∀y,x≠.old y:=by intro y e;cases e):(vH mb ml x).single=true:=by
 cases x with
 |sl e sh ow xs=>cases ow<;>rfl
 |box k off=>show(match lk mb k with|some k'=>V.box k' off|none=>V.any).single=true;cases lk mb k<;>rfl
 |slz L e sh xs o2 i c e2 bC ys=>show(match lk ml L with|some L'=>V.slz L' e sh xs (o2.bind (lk ml)) i c e2 bC ys|none=>V.any).single=true;cases lk ml L<;>rfl
 |tup _=>cases hx
 |fn f c=>exact absurd rfl (hf f c)
 |old y=>exact absurd rfl (ho y)
 |_=>rfl
theorem EI {g g':Gh} {mb ml:List (Nat×Nat)} (hG:g'.G=g.G) (hO: ∀L n,lk ml L=some n→g'.O n=g.O L) (hC: ∀L n,lk ml L=some n→g'.C n=g.C L) (hβ: ∀k n,lk mb k=some n→g'.β n=g.β k) {x:V} {v:Value} (h:aI g x v):aI g' (x.ren mb ml) v:=by
 cases x with
 |tup vs=>
  obtain⟨a,rfl,h⟩:=h;exact⟨a,rfl,dJ h fun y _ v hv=>lY hG hO hC hβ hv⟩
 |fn f bG=>
  cases bG with
  |nil=>obtain⟨a,rfl,h⟩:=h;exact⟨[],by rw[h.bT],.nil⟩
  |cons a c=>exact ja
 |sl e sh ow xs=>exact bA (uI (x:=.sl e sh ow xs) rfl (by intro f c e;cases e)) (lY hG hO hC hβ (aV (x:=.sl e sh ow xs) rfl h))
 |box k off=>exact bA (uI (ml:=ml) (x:=.box k off) rfl (by intro f c e;cases e)) (lY hG hO hC hβ (aV (x:=.box k off) rfl h))
 |eptr _ _ _ _ _ _=>exact ja
 |epz _ _ _ _ _=>exact ja
 |slz L e sh xs o2 i c e2 bC ys=>exact bA (uI (mb:=mb) (x:=.slz L e sh xs o2 i c e2 bC ys) rfl (by intro f c e;cases e)) (lY hG hO hC hβ (aV (x:=.slz L e sh xs o2 i c e2 bC ys) rfl h))
 |old x=>
  show aI g' (bif x.dZ then x else .any) v
  cases x.dZ
  ·exact ja
  ·exact bI h.2.2 (by rw[hG];exact h.2.1)
 |_=>simp only[aI] at h;exact lY (x:=_) hG hO hC hβ h
theorem iF {nm:Nat→Nat→Nat}: ∀(i:Nat) (l:List V) (p:Nat×Nat),p∈pJ nm i l→ ∃j,p.2=nm p.1 j
 |i,[],p,h=>by cases h
 |i,x::l,p,h=>by
  cases x with
  |sl e sh ow xs=>
   cases ow with
   |none=>exact iF (i+1) l p h
   |some L=>
    rcases List.mem_cons.1 h with h|h
    ·subst h;exact⟨i,rfl⟩
    ·exact iF (i+1) l p h
  |slz L e sh xs o2 j c e2 bC ys=>
   cases o2 with
   |none=>
    rcases List.mem_cons.1 h with h|h
    ·subst h;exact⟨i,rfl⟩
    ·exact iF (i+1) l p h
   |some L2=>
    rcases List.mem_cons.1 h with h|h
    ·subst h;exact⟨i,rfl⟩
    ·rcases List.mem_cons.1 h with h|h
     ·subst h;exact⟨i+500,rfl⟩
     ·exact iF (i+1) l p h
  |_=>exact iF (i+1) l p h
theorem YM {bx:List (Nat×List V)} {j:Nat} {x:V} {p:Nat×Nat} (h:p∈(qw bx j x).1):p.2=HL+j∧ ∃cs,au bx p.1=some cs:=by
 cases x with
 |box k off=>
  unfold qw at h;simp only at h;split at h
  ·rename_i cs hc
   simp only[List.mem_singleton] at h;subst h;exact⟨rfl,cs,hc⟩
  ·cases h
 |sl e sh ow xs=>cases ow<;>cases h
 |_=>cases h
theorem vo {bx:List (Nat×List V)}: ∀(vs:List V) (j:Nat) {p:Nat×Nat},p∈(dN bx j vs).1→(∃j',j≤j'∧p.2=HL+j')∧ ∃cs,au bx p.1=some cs
 |[],j,p,h=>by cases h
 |x::vs,j,p,h=>by
  unfold dN at h;rcases List.mem_append.1 h with h|h
  ·obtain⟨h1,h2⟩:=YM h;exact⟨⟨j,Nat.le_refl _,h1⟩,h2⟩
  ·obtain⟨⟨j',h1,h2⟩,h3⟩:=vo vs (j+1) h;exact⟨⟨j',by omega,h2⟩,h3⟩
theorem YN {bx:List (Nat×List V)} {j:Nat} {x:V} {p:Nat×Nat} (h:p∈(qw bx j x).2):HL≤p.2:=by
 cases x with
 |box k off=>
  unfold qw at h;simp only at h;split at h
  ·obtain⟨i,hi⟩:=iF _ _ _ h
   omega
  ·cases h
 |sl e sh ow xs=>
  cases ow with
  |none=>cases h
  |some L=>
   simp only[qw,List.mem_singleton] at h;subst h;simp only;omega
 |_=>cases h
theorem Ic {bx:List (Nat×List V)}: ∀(vs:List V) (j:Nat) {p:Nat×Nat},p∈(dN bx j vs).2→HL≤p.2
 |[],j,p,h=>by cases h
 |x::vs,j,p,h=>by
  unfold dN at h;rcases List.mem_append.1 h with h|h
  ·exact YN h
  ·exact Ic vs (j+1) h
theorem xK {x y:V} (h:x.deep=some y) (j:Nat):WN j y=y∧y.yw=false:=by
 cases x with
 |fn f c=>cases c<;>simp[V.deep] at h;subst h;exact⟨rfl,rfl⟩
 |_=>simp[V.deep] at h<;>subst h<;>exact⟨rfl,rfl⟩
theorem wu {bx:List (Nat×List V)}: ∀(as hs:List V) (j:Nat),(dN bx j (as++hs)).1=(dN bx j as).1++(dN bx (j+as.length) hs).1
 |[],hs,j=>by simp[dN]
 |x::as,hs,j=>by
  have e: ∀v l j,(dN bx j (v::l)).1=(qw bx j v).1++(dN bx (j+1) l).1:=fun _ _ _=>rfl
  rw[List.cons_append,e,e,wu as hs (j+1),List.append_assoc,List.length_cons,show j+1+as.length=j+(as.length+1) by omega]
theorem qi {bx:List (Nat×List V)} {MB ML:List (Nat×Nat)}: ∀(as hs args:List V),fK bx MB ML (as++hs)=some args→ ∃A H,args=A++H∧fK bx MB ML as=some A∧fK bx MB ML hs=some H
 |[],hs,args,h=>⟨[],args,rfl,rfl,h⟩
 |x::as,hs,args,h=>by
  rw[List.cons_append] at h;unfold fK at h;split at h
  ·rename_i y ys hy hys
   simp only[Option.some.injEq] at h;subst h;obtain⟨A,H,rfl,h1,h2⟩:=qi as hs ys hys;refine⟨y::A,H,rfl,?_,h2⟩;unfold fK;rw[hy,h1]
  ·cases h
theorem uJ: ∀(as:List V),∀x∈jr as,∃k,x=.box k HID
 |[],x,h=>by cases h
 |v::as,x,h=>by
  unfold jr at h;rcases List.mem_append.1 h with h|h
  ·split at h
   ·obtain⟨c,_,hc⟩:=List.mem_filterMap.1 h
    split at hc
    ·rename_i k hk
     exact⟨k,(Option.some.inj hc).symm⟩
    ·cases hc
   ·cases h
  ·exact uJ as x h
theorem JV {bx:List (Nat×List V)} {MB ML:List (Nat×Nat)}: ∀(hs H:List V),(∀x∈hs,∃k,x=.box k HID)→fK bx MB ML hs=some H→ ∀y∈H,tq y=true
 |[],H,_,h,y,hy=>by
  simp only[fK,Option.some.injEq] at h;subst h
  cases hy
 |x::hs,H,hx,h,y,hy=>by
  obtain⟨k,rfl⟩:=hx x List.mem_cons_self;unfold fK at h;split at h
  ·rename_i z zs hz hzs
   simp only[Option.some.injEq] at h;subst h;rcases List.mem_cons.1 hy with rfl|hy
   ·unfold tu at hz
    simp only at hz;split at hz
    ·simp only[Option.some.injEq] at hz
     subst hz;rfl
    ·cases hz
   ·exact JV hs zs (fun x h=>hx x (List.mem_cons_of_mem _ h)) hzs y hy
  ·cases h
theorem Fp: ∀(A H:List V) (j:Nat),(∀y∈H,tq y=true)→bH j (A++H)=bH j A
 |[],H,j,h=>by
  rw[List.nil_append];induction H generalizing j with
  |nil=>rfl
  |cons y H ih=>
   unfold bH;rw[h y List.mem_cons_self,cond_true,ih (j+1) fun z hz=>h z (List.mem_cons_of_mem _ hz)];rfl
 |a::A,H,j,h=>by
  rw[List.cons_append];unfold bH;rw[Fp A H (j+1) h]
theorem hid_bxa {H:List V} (h: ∀y∈H,tq y=true) (hb:iy H=false):H=[]:=by
 cases H with
 |nil=>rfl
 |cons y H=>
  have:=h y List.mem_cons_self;unfold iy at hb;rw[List.any_cons,Bool.or_eq_false_iff] at hb
  cases y with
  |bxa _ _=>cases hb.1
  |_=>cases this
theorem Ie {g gi:Gh} {bx:List (Nat×List V)} {MB ML:List (Nat×Nat)} (hG:gi.G=g.G) (hO: ∀L n,lk ML L=some n→gi.O n=g.O L) (hC: ∀L n,lk ML L=some n→gi.C n=g.C L) (hβ: ∀k n,(k,n)∈MB→gi.β n=g.β k):
  ∀(as args:List V) (vs:List Value) (j:Nat),as.any Jk=false→fK bx MB ML as=some args→(∀p∈(dN bx j as).1,p∈MB)→(∀k n,lk MB k=some n→(k,n)∈MB)→PW (Jd g) as vs→PW (aI gi) (bH j args) vs
 |[],args,vs,j,_,h,_,_,hp=>by
  simp only[fK,Option.some.injEq] at h;subst h;rw[hp.bT];exact .nil
 |x::as,args,vs,j,CS,h,hm,hlk,hp=>by
  rw[List.any_cons,Bool.or_eq_false_iff] at CS;obtain⟨v,t,rfl,h1,h2⟩:=hp.cons_inv;unfold fK at h;split at h
  ·rename_i y ys hy hys
   simp only[Option.some.injEq] at h;subst h;have hih:tq y=false:=by
    cases x with
    |box k off=>
     unfold tu at hy;simp only at hy;split at hy
     ·simp only[Option.some.injEq] at hy
      subst hy;exact CS.1
     ·cases hy
    |sl e sh ow xs=>
     cases ow with
     |none=>simp only[tu,V.deep,Option.some.injEq] at hy;subst hy;rfl
     |some L=>simp only[tu,Option.some.injEq] at hy;subst hy;rfl
    |fn f c=>
     cases c with
     |nil=>simp only[tu,V.deep,Option.some.injEq] at hy;subst hy;rfl
     |cons c cs=>obtain⟨_,hy⟩:=aC (show(bif Nat.blt f wN&&wX (c::cs) then some (V.fn f ((c::cs).map (vH MB ML))) else none)=some y from hy);simp only[Option.some.injEq] at hy;subst hy;rfl
    |_=>simp[tu,V.deep] at hy<;>subst hy<;>rfl
   unfold bH;rw[hih,cond_false];refine .cons ?_ (Ie hG hO hC hβ as ys t (j+1) CS.2 hys (fun p hp=>hm p (by unfold dN;exact List.mem_append_right _ hp)) hlk h2);have hβ': ∀k n,lk MB k=some n→gi.β n=g.β k:=fun k n hl=>hβ k n (hlk k n hl)
   have hsr: ∀z,Jd g z v→(∀f c,z≠.fn f c)→(∀vs,z≠.tup vs)→bE g z v:=fun z hz hf ht=>hz.elim (fun hz=>aV (by cases z<;>first|rfl|exact absurd rfl (ht _)|exact absurd rfl (hf _ _)) hz) id
   have fO:x.deep=some y→aI gi (WN j y) v:=by
    intro hd;rw[(xK hd j).1];refine bI (jy hd) ?_;rw[hG];exact h1.elim (fun h=>nU h hd) (fun h=>AF h hd)
   cases x with
   |box k off=>
    unfold tu at hy;simp only at hy;split at hy
    ·rename_i cs hcs
     simp only[Option.some.injEq] at hy;subst hy;show aI gi (.box (HL+j) off) v;obtain⟨b,hb,hv⟩:=hsr _ h1 (by intro f c e;cases e) (by intro vs e;cases e);refine dQ.2 ⟨b,?_,hv⟩;rw[hβ k (HL+j) (hm _ (by unfold dN qw;simp only[hcs];exact List.mem_append_left _ (List.mem_singleton.2 rfl)))];exact hb
    ·cases hy
   |sl e sh ow xs=>
    cases ow with
    |none=>exact fO hy
    |some L=>
     have hy:some (vH MB ML (.sl e sh (some L) xs))=some y:=hy;simp only[Option.some.injEq] at hy;subst hy;show aI gi (.sl e sh (lk ML L) xs) v;exact bA rfl (lY (x:=.sl e sh (some L) xs) hG hO hC hβ' (hsr _ h1 (by intro f c e;cases e) (by intro vs e;cases e)))
   |fn f c=>
    cases c with
    |nil=>exact fO hy
    |cons c cs=>
     obtain⟨hcb,hy⟩:=aC (show(bif Nat.blt f wN&&wX (c::cs) then some (V.fn f ((c::cs).map (vH MB ML))) else none)=some y from hy);simp only[Option.some.injEq] at hy;subst hy;show aI gi (.fn f ((c::cs).map (vH MB ML))) v;have h1:aI g (.fn f (c::cs)) v:=h1.elim id fun h=>by
      have h:aN g.G (.fn f (c::cs)) v:=h;unfold aN at h;exact absurd h.2 (by simp)
     obtain⟨a,ha,hpa⟩:=h1;exact⟨a,ha,dJ hpa fun z _ u hz=>lY hG hO hC hβ' hz⟩
   |_=>exact fO hy
  ·cases h
theorem qG {bx:List (Nat×List V)} {MB ML:List (Nat×Nat)}: ∀(as args:List V) (j:Nat),fK bx MB ML as=some args→ ∀k' cs',au (dG j args) k'=some cs'→ ∃k cs,(k,k')∈(dN bx j as).1∧au bx k=some cs∧cs'=cs.map (V.ren MB ML)
 |[],args,j,h,k',cs',hl=>by
  simp only[fK,Option.some.injEq] at h;subst h
  cases hl
 |x::as,args,j,h,k',cs',hl=>by
  unfold fK at h;split at h
  ·rename_i y ys hy hys
   simp only[Option.some.injEq] at h;subst h;have rest:au (dG (j+1) ys) k'=some cs'→ ∃k cs,(k,k')∈(dN bx j (x::as)).1∧au bx k=some cs∧cs'=cs.map (V.ren MB ML):=by
    intro hl;obtain⟨k,cs,h1,h2⟩:=qG as ys (j+1) hys k' cs' hl;exact⟨k,cs,by unfold dN;exact List.mem_append_right _ h1,h2⟩
   have fO:x.deep=some y→ ∃k cs,(k,k')∈(dN bx j (x::as)).1∧au bx k=some cs∧cs'=cs.map (V.ren MB ML):=by
    intro hd;have:=(xK hd j).2;refine rest ?_
    cases y with
    |bxa _ _=>cases this
    |_=>exact hl
   cases x with
   |box k off=>
    unfold tu at hy;simp only at hy;split at hy
    ·rename_i cs hcs
     simp only[Option.some.injEq] at hy;subst hy;unfold dG au at hl
     cases hk:HL+j==k' with
     |true=>
      rw[hk,cond_true] at hl;simp only[Option.some.injEq] at hl;obtain rfl:HL+j=k':=by simpa using hk
      exact⟨k,cs,by unfold dN qw;simp only[hcs];exact List.mem_append_left _ (List.mem_singleton.2 rfl),hcs,hl.symm⟩
     |false=>
      rw[hk,cond_false] at hl;exact rest hl
    ·cases hy
   |sl e sh ow xs=>
    cases ow with
    |none=>exact fO hy
    |some L=>
     have hy:some (vH MB ML (.sl e sh (some L) xs))=some y:=hy;simp only[Option.some.injEq] at hy;subst hy;exact rest hl
   |fn f c=>
    cases c with
    |nil=>exact fO hy
    |cons c cs=>
     obtain⟨_,hy⟩:=aC (show(bif Nat.blt f wN&&wX (c::cs) then some (V.fn f ((c::cs).map (vH MB ML))) else none)=some y from hy);simp only[Option.some.injEq] at hy;subst hy;exact rest hl
   |_=>exact fO hy
  ·cases h
theorem xM {bx:List (Nat×List V)} {MB ML:List (Nat×Nat)}: ∀(as args:List V) (j:Nat) (bs:List (List V)),fK bx MB ML as=some args→ ∀(i:Nat) k k' cs,(dN bx j as).1[i]? =some (k,k')→bs[i]? =some cs→au (eX j args bs) k'=some cs
 |[],args,j,bs,h,i,k,k',cs,hi,_=>by simp[dN] at hi
 |x::as,args,j,bs,h,i,k,k',cs,hi,hb=>by
  unfold fK at h;split at h
  ·rename_i y ys hy hys
   simp only[Option.some.injEq] at h;subst h;unfold dN at hi;have plain:(qw bx j x).1=[]→eX j (y::ys) bs=eX (j+1) ys bs→au (eX j (y::ys) bs) k'=some cs:=by
    intro he ho;rw[he] at hi;rw[ho];exact xM as ys (j+1) bs hys i k k' cs hi hb
   have fO:x.deep=some y→(qw bx j x).1=[]→au (eX j (y::ys) bs) k'=some cs:=by
    intro hd he;have:=(xK hd j).2;refine plain he ?_
    cases y with
    |bxa _ _=>cases this
    |_=>rfl
   cases x with
   |box k0 off=>
    unfold tu at hy;simp only at hy;split at hy
    ·rename_i cs0 hcs
     simp only[Option.some.injEq] at hy;subst hy;unfold qw at hi;simp only[hcs] at hi
     cases bs with
     |nil=>simp at hb
     |cons c0 bs=>
      cases i with
      |zero=>
       simp only[List.cons_append,List.nil_append,List.getElem?_cons_zero,Option.some.injEq,Prod.mk.injEq] at hi hb;obtain⟨rfl,rfl⟩:=hi;subst hb;unfold eX au;rw[beq_self_eq_true,cond_true]
      |succ i=>
       simp only[List.cons_append,List.nil_append,List.getElem?_cons_succ] at hi hb;have hm:=List.mem_of_getElem? hi;obtain⟨⟨j',h1,h2⟩,_⟩:=vo as (j+1) hm;unfold eX au;have:(HL+j==k')=false:=by
        rw[beq_eq_false_iff_ne];simp only at h2;omega
       rw[this,cond_false];exact xM as ys (j+1) bs hys i k k' cs hi hb
    ·cases hy
   |sl e sh ow xs=>
    cases ow with
    |none=>exact fO hy rfl
    |some L=>
     have hy:some (vH MB ML (.sl e sh (some L) xs))=some y:=hy;simp only[Option.some.injEq] at hy;subst hy;exact plain rfl rfl
   |fn f c=>
    cases c with
    |nil=>exact fO hy rfl
    |cons c cs=>
     obtain⟨_,hy⟩:=aC (show(bif Nat.blt f wN&&wX (c::cs) then some (V.fn f ((c::cs).map (vH MB ML))) else none)=some y from hy);simp only[Option.some.injEq] at hy;subst hy;exact plain rfl rfl
   |_=>exact fO hy rfl
  ·cases h
theorem AY {E:Env} {B:Own} {G0:aM} {w0:World} {a:Act} {w:World}: ∀(l:List Nat) (s:St) (g:Gh),Inv E B G0 w0 s g a w→
  ∃g',g'.G=g.G∧g'.β=g.β∧(∀k,k∈l→g'.O k=none)∧(∀k,k∉l→g'.O k=g.O k)∧g'.G1=g.G1∧g'.C=g.C∧Inv E B G0 w0 (pK s l) g' a w
 |[],s,g,h=>⟨g,rfl,rfl,(fun k hk=>absurd hk (by simp)),(fun _ _=>rfl),rfl,rfl,h⟩
 |L::l,s,g,h=>by
  obtain⟨g',h1,h2,h3,h4,h6,h7,h5⟩:=AY l (s.kill L) _ (h.kill L);refine⟨g',h1,h2,fun k hk=>?_,fun k hk=>?_,h6,h7,h5⟩
  ·by_cases hl:k∈l
   ·exact h3 k hl
   ·rw[h4 k hl]
    rcases List.mem_cons.1 hk with rfl|hk
    ·exact if_pos rfl
    ·exact absurd hk hl
  ·rw[List.mem_cons,not_or] at hk
   rw[h4 k hk.2];exact if_neg hk.1
theorem oU: ∀(l:List Nat) (s:St) (k:Nat),(∃cs,au (pK s l).bx k=some cs)↔ ∃cs,au s.bx k=some cs
 |[],s,k=>Iff.rfl
 |L::l,s,k=>by
  unfold pK;rw[oU l,nV]
  cases au s.bx k<;>simp
theorem Fq (k:Nat) (ds:List V): ∀(l:List (Nat×List V)) (j:Nat),(∃cs,au (gI l k ds) j=some cs)↔ ∃cs,au l j=some cs
 |[],j=>Iff.rfl
 |(i,cs)::l,j=>by
  unfold gI
  cases hi:i==k with
  |true=>
   rw[cond_true];unfold au;obtain rfl:i=k:=by simpa using hi
   cases i==j<;>simp
  |false=>
   rw[cond_false];unfold au
   cases i==j with
   |true=>simp
   |false=>exact Fq k ds l j
theorem Fs {mb ml:List (Nat×Nat)}: ∀(l:List (Nat×Nat)) (bs:List (List V)) (bx:List (Nat×List V)),bs.length=l.length→(l.map (·.1)).Nodup→(∀p∈l,∃old,au bx p.1=some old)→ ∀k,
  (∃(i:Nat) (k':Nat) (cs:List V),l[i]? =some (k,k')∧bs[i]? =some cs∧au (GY mb ml l bs bx) k=some (cs.map (V.ren mb ml)))∨((∀p∈l,p.1≠k)∧au (GY mb ml l bs bx) k=au bx k)
 |[],bs,bx,_,_,_,k=> .inr ⟨(fun p hp=>absurd hp (by simp)),by cases bs<;>rfl⟩
 |(a,b)::l,[],bx,hl,_,_,k=>by simp at hl
 |(a,b)::l,c::bs,bx,hl,hn,hm,k=>by
  rw[List.map_cons,List.nodup_cons] at hn;obtain⟨old,hold⟩:=hm (a,b) List.mem_cons_self;have hold:au bx a=some old:=hold;have hset:=fun j=>oQ bx a j (c.map (V.ren mb ml)) old hold
  unfold GY;rcases Fs l bs (gI bx a (c.map (V.ren mb ml))) (by simpa using hl) hn.2 (fun p hp=>(Fq _ _ bx p.1).2 (hm p (List.mem_cons_of_mem _ hp))) k with⟨i,k',cs,h1,h2,h3⟩|⟨h1,h2⟩
  ·exact .inl ⟨i+1,k',cs,by simpa using h1,by simpa using h2,h3⟩
  ·by_cases hk:k=a
   ·subst hk
    refine .inl ⟨0,b,c,rfl,rfl,?_⟩;rw[h2,hset k,if_pos rfl]
   ·refine .inr ⟨fun p hp=>?_,?_⟩
    ·rcases List.mem_cons.1 hp with rfl|hp
     ·exact fun e=>hk e.symm
     ·exact h1 p hp
    ·rw[h2,hset k,if_neg hk]
theorem pR: ∀(l:List (Nat×Nat)) (done:List Nat),((oq done l).map (·.1)).Nodup∧ ∀p∈oq done l,p∈l∧p.1∉done
 |[],done=>⟨List.nodup_nil,(fun p hp=>absurd hp (by simp[oq]))⟩
 |(L,n)::l,done=>by
  unfold oq
  cases hd:done.contains L with
  |true=>
   rw[cond_true];obtain⟨h1,h2⟩:=pR l done;exact⟨h1,fun p hp=>⟨List.mem_cons_of_mem _ (h2 p hp).1,(h2 p hp).2⟩⟩
  |false=>
   rw[cond_false];obtain⟨h1,h2⟩:=pR l (L::done);simp at hd;refine⟨?_,fun p hp=>?_⟩
   ·rw[List.map_cons,List.nodup_cons]
    refine⟨fun hm=>?_,h1⟩;obtain⟨p,hp,he⟩:=List.mem_map.1 hm;exact(h2 p hp).2 (by rw[he];exact List.mem_cons_self)
   ·rcases List.mem_cons.1 hp with rfl|hp
    ·exact⟨List.mem_cons_self,hd⟩
    ·obtain⟨h3,h4⟩:=h2 p hp
     exact⟨List.mem_cons_of_mem _ h3,fun e=>h4 (List.mem_cons_of_mem _ e)⟩
theorem Ig {any:Bool} {d:Nat} {x:V}: ∀(mb:List (Nat×Nat)) (bs:List (List V)) (p:Nat×Nat),p∈DV any d x mb bs→ ∃i,p.2=fo any p.1 i
 |[],bs,p,h=>by
  have h:p∈pJ (fun L i=>fo any L (match i with|0=>d|_=>d+1000*i)) 0 (Al x):=by cases bs<;>exact h
  obtain⟨j,hj⟩:=iF _ _ _ h;exact⟨_,hj⟩
 |(k,k')::mb,[],p,h=>by
  have h:p∈pJ (fun L i=>fo any L (match i with|0=>d|_=>d+1000*i)) 0 (Al x):=h;obtain⟨j,hj⟩:=iF _ _ _ h;exact⟨_,hj⟩
 |(k,k')::mb,c::bs,p,h=>by
  unfold DV at h;rcases List.mem_append.1 h with h|h
  ·obtain⟨j,hj⟩:=iF _ _ _ h
   exact⟨_,hj⟩
  ·exact Ig mb bs p h
section
variable {E:Env} {B:Own} {G0:aM} {w0:World} {s:St} {g:Gh} {a:Act} {w:World}
def vX (g:Gh) (w:World) (mb ml:List (Nat×Nat)):Own where
 m:=fun b=>(∃k k',(k,k')∈mb∧g.β k=some b)∨(∃L n v e sz,(L,n)∈ml∧g.O L=some (v,e,sz)∧v.ownBlock=some b)∨w.heap.size≤b
 n:=w.heap.size
 β:=fun k'=>match lk (dY mb) k' with|some k=>g.β k|none=>none
 df:=[]
def pO (g:Gh) (mb ml:List (Nat×Nat)):Gh where
 G:=g.G
 O:=fun n=>match lk (dY ml) n with|some L=>g.O L|none=>none
 β:=fun k'=>match lk (dY mb) k' with|some k=>g.β k|none=>none
 G1:=g.G
 C:=fun n=>match lk (dY ml) n with|some L=>g.C L|none=>none
theorem Ca: ∀{l:List (Nat×Nat)},vV l=false→ ∀{L n:Nat},(L,n)∈l→L<HL
 |[],_,L,n,h=>by cases h
 |(a,b)::l,h,L,n,hm=>by
  unfold vV at h;rw[Bool.or_eq_false_iff] at h;rcases List.mem_cons.1 hm with hm|hm
  ·simp only[Prod.mk.injEq] at hm
   rw[hm.1];refine Nat.lt_of_not_le fun e=>?_
   rw[Nat.ble_eq_true_of_le e] at h
   cases h.1
  ·exact Ca h.2 hm
theorem Cb {mb ml:List (Nat×Nat)} (h:oh mb ml=true):(mb.map (·.1)).Nodup∧(mb.map (·.2)).Nodup∧(ml.map (·.1)).Nodup∧(ml.map (·.2)).Nodup:=by
 unfold oh at h;simp only[Bool.and_eq_true,rF] at h;exact⟨h.1.1.1,h.1.1.2,h.1.2,h.2⟩
theorem uK {bx:List (Nat×List V)} {as args:List V} {mb ml:List (Nat×Nat)} (h:om bx 0 as=some (args,mb,ml)):mb=(dN bx 0 (as++jr as)).1∧ml=(dN bx 0 (as++jr as)).2∧fK bx mb ml (as++jr as)=some args∧as.any Jk=false:=by
 unfold om at h
 cases hq:as.any Jk with
 |true=>rw[hq] at h;cases h
 |false=>
  rw[hq,cond_false] at h;unfold RH at h;split at h
  ·rename_i x hx
   simp only[Option.some.injEq,Prod.mk.injEq] at h;obtain⟨rfl,rfl,rfl⟩:=h;exact⟨rfl,rfl,hx,rfl⟩
  ·cases h
theorem hand_m (h:Inv E B G0 w0 s g a w) {mb ml:List (Nat×Nat)} (hm: ∀p∈mb,∃cs,au s.bx p.1=some cs): ∀b,(vX g w mb ml).m b→B.m b:=by
 rintro b (⟨k,k',hk,hb⟩|⟨L,n,v,e,sz,hL,hO,hb⟩|hb)
 ·obtain⟨cs,hc⟩:=hm _ hk
  obtain⟨b',_,_,h1,h2,_⟩:=h.bxs.1 k cs hc;rw[hb] at h1;simp only[Option.some.injEq] at h1;rw[h1];exact h2
 ·rcases(h.own.1 L v e sz hO).2 with hv|⟨b',n,cap,cur,l,hv,hok,_⟩
  ·rw[hv] at hb;cases hb
  ·rw[hv] at hb
   simp only[Value.ownBlock,Option.some.injEq] at hb;rw[←hb];exact hok.1
 ·exact h.hB.2 b hb
theorem oV (h:Inv E B G0 w0 s g a w) {as args:List V} {vs:List Value} {mb ml:List (Nat×Nat)} (hp:PW (Jd g) as vs) (ho:om s.bx 0 as=some (args,mb,ml)) (hn:oh mb ml=true):
  Inv E (vX g w mb ml) g.G w ⟨bH 0 args,dG 0 args⟩ (pO g mb ml) ⟨vs.toArray,[]⟩ w:=by
 obtain⟨n1,n2,n3,n4⟩:=Cb hn;obtain⟨e1,e2,hv,hnoh⟩:=uK ho;have hm: ∀p∈mb,(∃j,p.2=HL+j)∧ ∃cs,au s.bx p.1=some cs:=fun p hp=>by
  rw[e1] at hp;obtain⟨⟨j,_,hj⟩,hc⟩:=vo (as++jr as) 0 hp;exact⟨⟨j,hj⟩,hc⟩
 have hl: ∀p∈ml,HL≤p.2:=fun p hp=>by rw[e2] at hp;exact Ic (as++jr as) 0 hp
 have hO: ∀L n,lk ml L=some n→(pO g mb ml).O n=g.O L:=fun L n hl=>by
  show(match lk (dY ml) n with|some L=>g.O L|none=>none)=_;rw[jK n4 (jV hl)]
 have hC: ∀L n,lk ml L=some n→(pO g mb ml).C n=g.C L:=fun L n hl=>by
  show(match lk (dY ml) n with|some L=>g.C L|none=>none)=_;rw[jK n4 (jV hl)]
 have hC2: ∀L n,(L,n)∈ml→(pO g mb ml).C n=g.C L:=fun L n hl=>by
  show(match lk (dY ml) n with|some L=>g.C L|none=>none)=_;rw[jK n4 hl]
 have hβ: ∀k n,(k,n)∈mb→(pO g mb ml).β n=g.β k:=fun k n hl=>by
  show(match lk (dY mb) n with|some L=>g.β L|none=>none)=_;rw[jK n2 hl]
 have yA: ∀n x,(pO g mb ml).O n=some x→ ∃L,(L,n)∈ml∧g.O L=some x:=fun n x hx=>by
  have hx:(match lk (dY ml) n with|some L=>g.O L|none=>none)=some x:=hx;split at hx
  ·rename_i L hL;exact⟨L,oI.1 (jV hL),hx⟩
  ·cases hx
 refine⟨?_,rfl,h.gok,⟨fun n v e sz hn'=>?_,fun n n' v v' e e' sz sz' b h1 h2 hb hb'=>?_⟩,⟨fun k' cs' hk'=>?_,fun k k' cs cs' hk hk' hb=>?_⟩,.refl _ _,⟨Nat.le_refl _,fun b hb=> .inr (.inr hb)⟩,⟨fun _ _=>rfl,.refl _,fun _ _=>rfl⟩,⟨h.mU,fun b l hb=>dV h.gok hb⟩,.refl _,fun k' cs' n v e sz b hk' hn' hb hβb=>?_⟩
 ·show PW (aI (pO g mb ml)) (bH 0 args) vs.toArray.toList
  rw[List.toList_toArray];obtain⟨A,H,rfl,hA,hH⟩:=qi as (jr as) args hv;rw[Fp A H 0 (JV (jr as) H (uJ as) hH)];exact Ie (g:=g) (gi:=pO g mb ml) rfl hO hC hβ as A vs 0 hnoh hA (fun p hp=>by rw[e1,wu];exact List.mem_append_left _ hp) (fun k n=>jV) hp
 ·obtain⟨L,hL,hx⟩:=yA n _ hn'
  obtain⟨h1,h2⟩:=h.own.1 L v e sz hx;refine⟨h1,h2.imp id ?_⟩;rintro⟨b,m,cap,cur,l,hv',hb,hh,hnc,hcm,hcs,hrow,hln⟩;refine⟨b,m,cap,cur,l,hv',⟨.inr (.inl ⟨L,n,v,e,sz,hL,hx,by rw[hv'];rfl⟩),fun hlt=>?_⟩,hh,hnc,hcm,hcs,by
   unfold mI at hrow⊢;rw[hC2 L n hL];exact hrow,hln⟩
  have:=hl _ hL;simp only at this;omega
 ·obtain⟨L,hL,hx⟩:=yA n _ h1
  obtain⟨L',hL',hx'⟩:=yA n' _ h2;have:=h.own.2 L L' v v' e e' sz sz' b hx hx' hb hb';subst this;exact yV n3 hL hL'
 ·obtain⟨k,cs,h1,h2,rfl⟩:=qG (as++jr as) args 0 hv k' cs' hk'
  rw[←e1] at h1;obtain⟨b,c,e,hb,hBb,hh,hpw,hone,hG,hq9⟩:=h.bxs.1 k cs h2;exact⟨b,c,e,(hβ k k' h1).trans hb,.inl ⟨k,k',h1,hb⟩,hh,dJ hpw fun y _ v hv=>EI (g:=g) (g':=pO g mb ml) rfl hO hC (fun k n hl=>hβ k n (jV hl)) hv,hone,hG,kg (EC _ _) hq9⟩
 ·obtain⟨k1,cs1,h1,h2,_⟩:=qG (as++jr as) args 0 hv k cs hk
  obtain⟨k2,cs2,h3,h4,_⟩:=qG (as++jr as) args 0 hv k' cs' hk';rw[←e1] at h1 h3;rw[hβ k1 k h1,hβ k2 k' h3] at hb;have:=h.bxs.2 k1 k2 cs1 cs2 h2 h4 hb;subst this;exact yV n1 h1 h3
 ·obtain⟨L,hL,hx⟩:=yA n _ hn'
  obtain⟨k,cs,h1,h2,_⟩:=qG (as++jr as) args 0 hv k' cs' hk';rw[←e1] at h1;rw[hβ k k' h1] at hβb;exact h.zb k cs L v e sz b h2 hx hb hβb
theorem AZ (h:Inv E B G0 w0 s g a w) {as args:List V} {mb ml:List (Nat×Nat)} (ho:om s.bx 0 as=some (args,mb,ml)) (hn:oh mb ml=true) {d:Option Nat} {x:V} {bs:List (List V)} {s':St} (hs:ou s d mb ml x bs=some s')
  {g1:Gh} {v:Value} {w':World} (hx:Inv E (vX g w mb ml) g.G w ⟨[x],eX 0 args bs⟩ g1 ⟨#[v],[]⟩ w'):
  ∃g2,Inv E B G0 w0 s' g2 (a.put d v) w':=by
 obtain⟨n1,n2,n3,n4⟩:=Cb hn;obtain⟨e1,e2,hv,hnoh⟩:=uK ho;have hm: ∀p∈mb,(∃j,p.2=HL+j)∧ ∃cs,au s.bx p.1=some cs:=fun p hp=>by
  rw[e1] at hp;obtain⟨⟨j,_,hj⟩,hc⟩:=vo (as++jr as) 0 hp;exact⟨⟨j,hj⟩,hc⟩
 unfold ou at hs;have hfst:=pR (DV (vV ml) (dOr d) x mb bs) [];have hcls: ∀p∈oq [] (DV (vV ml) (dOr d) x mb bs),∃i,p.2=fo (vV ml) p.1 i:=fun p hp=>Ig mb bs p (hfst.2 p hp).1
 have n6:=hfst.1;clear hfst;generalize oq [] (DV (vV ml) (dOr d) x mb bs)=zW at hs hcls n6;unfold RI at hs;obtain⟨hc,hs⟩:=aC hs;rw[Bool.and_eq_true,rF,beq_iff_eq] at hc;obtain⟨n5,hlen⟩:=hc;simp only[Option.some.injEq] at hs;obtain⟨ga,ga1,ga2,ga3,ga4,ga5,ga6,ha⟩:=AY (ml.map (·.1)) s g h;obtain⟨gb,gb1,gb2,gb3,gb4,gb5,gb6,hb⟩:=AY (zW.map (·.2)) _ ga ha;have Je: ∀L x,gb.O L=some x→g.O L=some x∧(∀n,(L,n)∉ml)∧ ∀n,(n,L)∉zW:=by
  intro L x hL;by_cases h1:L∈zW.map (·.2)
  ·rw[gb3 L h1] at hL;cases hL
  ·rw[gb4 L h1] at hL
   by_cases h2:L∈ml.map (·.1)
   ·rw[ga3 L h2] at hL;cases hL
   ·rw[ga4 L h2] at hL
    exact⟨hL,fun n hn=>h2 (List.mem_map.2 ⟨_,hn,rfl⟩),fun n hn=>h1 (List.mem_map.2 ⟨_,hn,rfl⟩)⟩
 have hbxm: ∀k cs b,au s.bx k=some cs→(∀p∈mb,p.1≠k)→g.β k=some b→ ¬(vX g w mb ml).m b:=by
  intro k cs b hk hne hb';obtain⟨b1,c1,_,q1,_,q3,_,_,q6,_⟩:=h.bxs.1 k cs hk;rw[hb'] at q1;simp only[Option.some.injEq] at q1;subst q1;rintro(⟨k2,k',h1,h2⟩|⟨L,n,v,e,sz,hL,hO,hb''⟩|h3)
  ·obtain⟨_,cs2,hc2⟩:=hm _ h1
   exact hne _ h1 (h.bxs.2 k2 k cs2 cs hc2 hk (h2.trans hb'.symm))
  ·exact h.zb k cs L v e sz b hk hO hb'' hb'
  ·have:=(Array.getElem?_eq_some_iff.1 q3).1
   omega
 have Rm: ∀L v e sz b,g.O L=some (v,e,sz)→(∀n,(L,n)∉ml)→v.ownBlock=some b→ ¬(vX g w mb ml).m b:=by
  intro L v e sz b hO hne hb';rcases(h.own.1 L v e sz hO).2 with hv|⟨b2,_,_,_,l,hv,_,hh,_,_,_,hG,_⟩
  ·rw[hv] at hb';cases hb'
  ·have hb2:=hb'
   rw[hv] at hb2;simp only[Value.ownBlock,Option.some.injEq] at hb2;subst hb2;rintro(⟨k2,k',h1,h2⟩|⟨L2,n,v2,e2,sz2,hL2,hO2,hb2⟩|h3)
   ·obtain⟨_,cs2,hc2⟩:=hm _ h1
    exact h.zb k2 cs2 L v e sz b2 hc2 hO hb' h2
   ·have:=h.own.2 L L2 v v2 e e2 sz sz2 b2 hO hO2 hb' hb2
    subst this;exact hne _ hL2
   ·have:=(Array.getElem?_eq_some_iff.1 hh).1
    omega
 have hmM:=hand_m h (ml:=ml) fun p hp=>(hm p hp).2
 let O2:Nat→Option (Value×Nat×Nat):=fun L=>match lk (dY zW) L with|some n=>g1.O n|none=>gb.O L
 let C2:Nat→Option (List Value):=fun L=>match lk (dY zW) L with|some n=>g1.C n|none=>gb.C L
 let g2:Gh:=⟨g1.G,O2,g.β,g.G1,C2⟩
 have Xz: ∀L x,gb.O L=some x→C2 L=gb.C L:=by
  intro L x hL;have h1:=(Je L x hL).2.2;show(match lk (dY zW) L with|some n=>g1.C n|none=>gb.C L)=_
  cases hq:lk (dY zW) L with
  |some n=>exact absurd (oI.1 (jV hq)) (h1 n)
  |none=>rfl
 have XA: ∀n L,(n,L)∈zW→C2 L=g1.C n:=by
  intro n L hL;show(match lk (dY zW) L with|some n=>g1.C n|none=>gb.C L)=_;rw[jK n5 hL]
 have hO2old: ∀L x,gb.O L=some x→O2 L=some x:=by
  intro L x hL;have h1:=(Je L x hL).2.2;show(match lk (dY zW) L with|some n=>g1.O n|none=>gb.O L)=_
  cases hq:lk (dY zW) L with
  |some n=>exact absurd (oI.1 (jV hq)) (h1 n)
  |none=>exact hL
 have hO2new: ∀n L,lk zW n=some L→O2 L=g1.O n:=by
  intro n L hL;show(match lk (dY zW) L with|some n=>g1.O n|none=>gb.O L)=_;rw[jK n5 (jV hL)]
 have Jz: ∀L x,O2 L=some x→(∃n,(n,L)∈zW∧g1.O n=some x)∨gb.O L=some x:=by
  intro L x hL;have hL:(match lk (dY zW) L with|some n=>g1.O n|none=>gb.O L)=some x:=hL;split at hL
  ·rename_i n hq;exact .inl ⟨n,oI.1 (jV hq),hL⟩
  ·exact .inr hL
 have hext:Ext gb g2:=by
  refine⟨?_,hO2old,fun L v e sz b hL hb'=>?_,fun k b hk=>?_,by rw[gb5,ga5],fun L x hL=>Xz L x hL⟩
  ·rw[gb1,ga1];exact hx.ext.2.1
  ·obtain⟨q1,q2,_⟩:=Je L _ hL
   show g1.G b=gb.G b;rw[gb1,ga1];exact hx.ext.1 b (Rm L v e sz b q1 q2 hb')
  ·rw[gb2,ga2] at hk;exact hk
 have hβ1: ∀k k',lk (dY mb) k'=some k→g2.β k=g1.β k':=by
  intro k k' hk;have hmem:=oI.1 (jV hk);obtain⟨⟨j,hj⟩,_⟩:=hm _ hmem;simp only at hj;rw[hx.ext.2.2 k' (by omega)];show g.β k=(match lk (dY mb) k' with|some k=>g.β k|none=>none)
  rw[hk]
 have yg: ∀(y:V) (u:Value),aI g1 y u→aI g2 (y.ren (dY mb) zW) u:=fun y u hy=>EI (g:=g1) (g':=g2) rfl (fun n L hL=>hO2new n L hL) (fun n L hL=>XA n L (jV hL)) (fun k' k hk=>hβ1 k k' hk) hy
 have JA: ∀k cs,au (pK (pK s (ml.map (·.1))) (zW.map (·.2))).bx k=some cs→ ∃cs0,au s.bx k=some cs0:=fun k cs hk=>(oU _ _ _).1 ((oU _ _ _).1 ⟨cs,hk⟩)
 have hput:=Fs (mb:=dY mb) (ml:=zW) mb bs (pK (pK s (ml.map (·.1))) (zW.map (·.2))).bx hlen n1 (fun p hp=>(oU _ _ _).2 ((oU _ _ _).2 (hm p hp).2));have Ro: ∀(i:Nat) k k' cs,mb[i]? =some (k,k')→bs[i]? =some cs→au (eX 0 args bs) k'=some cs:=fun i k k' cs h1 h2=>xM (as++jr as) args 0 bs hv i k k' cs (by rw[←e1];exact h1) h2
 have hboxG: ∀k k' b,(k,k')∈mb→g.β k=some b→g1.G b=none:=by
  intro k k' b hk hb';obtain⟨i,hi⟩:=List.getElem?_of_mem hk;have hib:i<bs.length:=by rw[hlen];exact(List.getElem?_eq_some_iff.1 hi).1
  obtain⟨b2,_,_,q1,_,_,_,_,q6,_⟩:=hx.bxs.1 k' _ (Ro i k k' _ hi (List.getElem?_eq_getElem hib));rw[←hβ1 k k' (jK n2 hk)] at q1;have q1:g.β k=some b2:=q1;rw[hb'] at q1;simp only[Option.some.injEq] at q1;rw[q1];exact q6
 have hbig:Inv E B G0 w0 ⟨(pK (pK s (ml.map (·.1))) (zW.map (·.2))).fr,GY (dY mb) zW mb bs (pK (pK s (ml.map (·.1))) (zW.map (·.2))).bx⟩ g2 a w':=by
  refine⟨hb.fr.mono fun y _ u=>qC hext,h.df,hx.gok,⟨fun L v e sz hL=>?_,fun L L' v v' e e' sz sz' b hL hL' hb1 hb2=>?_⟩,⟨fun k cs hk=>?_,fun k k' cs cs' hk hk' hbe=>?_⟩,h.kX.trans (hx.kX.mono hmM),Dj h.hB hx.kX.kX.size,⟨fun b hbm=>(hx.ext.1 b fun e=>hbm (hmM b e)).trans (h.ext.1 b hbm),h.ext.2.1.trans hx.ext.2.1,h.ext.2.2⟩,h.glob,h.g1,fun k cs L v e sz b hk hL hb' hβb=>?_⟩
  ·rcases Jz L _ hL with⟨n,hn',hL⟩|hL
   ·obtain⟨q1,q2⟩:=hx.own.1 n v e sz hL
    refine⟨q1,q2.imp id ?_⟩;rintro⟨b,m,cap,cur,l,hv',hok,hh,hnc,hcm,hcs,hG,hl⟩;refine⟨b,m,cap,cur,l,hv',⟨hmM b hok.1,fun hlt=>?_⟩,hh,hnc,hcm,hcs,by
     unfold mI at hG⊢;rw[show g2.C L=g1.C n from XA n L hn'];exact hG,hl⟩
    obtain⟨i,hi⟩:=hcls _ hn';simp only at hi;by_cases hnl:n<HL
    ·exact Nat.le_trans h.hB.1 (hok.2 hnl)
    ·have hany:vV ml=false:=by
      cases hq:vV ml with
      |false=>rfl
      |true=>
       rw[hq] at hi;unfold fo at hi;rw[Nat.ble_eq_true_of_le (Nat.le_of_not_lt hnl),Bool.and_self,cond_true] at hi;omega
     rcases hok.1 with⟨k2,k',h1,h2⟩|⟨L2,n2',v2,e2,sz2,hL2,hO2,hb2⟩|h3
     ·exfalso
      obtain⟨i2,hi2⟩:=List.getElem?_of_mem h1;have hib:i2<bs.length:=by rw[hlen];exact(List.getElem?_eq_some_iff.1 hi2).1
      refine hx.zb k' _ n v e sz b (Ro i2 k2 k' _ hi2 (List.getElem?_eq_getElem hib)) hL (by rw[hv'];rfl) ?_;rw[←hβ1 k2 k' (jK n2 h1)];exact h2
     ·have h5:=Ca hany hL2
      rcases(h.own.1 L2 v2 e2 sz2 hO2).2 with hv2|⟨b3,_,_,_,_,hv2,hok2,_⟩
      ·rw[hv2] at hb2;cases hb2
      ·rw[hv2] at hb2
       simp only[Value.ownBlock,Option.some.injEq] at hb2;rw[←hb2];exact hok2.2 h5
     ·exact Nat.le_trans h.hB.1 h3
   ·obtain⟨r1,r2,_⟩:=Je L _ hL
    obtain⟨q1,q2⟩:=h.own.1 L v e sz r1;refine⟨q1,q2.imp id ?_⟩;rintro⟨b,m,cap,cur,l,hv',hok,hh,hnc,hcm,hcs,hG,hl⟩;have hnm:=Rm L v e sz b r1 r2 (by rw[hv'];rfl);exact⟨b,m,cap,cur,l,hv',hok,by rw[hx.kX.row b hnm];exact hh,hnc,hcm,hcs,hG.keep (show C2 L=g.C L by rw[Xz L _ hL,gb6,ga6]) (hx.ext.1 b hnm),hl⟩
  ·rcases Jz L _ hL with⟨n,hn1,hL1⟩|hL1<;>rcases Jz L' _ hL' with⟨n',hn2,hL2⟩|hL2
   ·have:=hx.own.2 n n' v v' e e' sz sz' b hL1 hL2 hb1 hb2
    subst this;exact yV n6 hn1 hn2
   ·exfalso
    obtain⟨r1,r2,_⟩:=Je L' _ hL2;have hnm:=Rm L' v' e' sz' b r1 r2 hb2;rcases(hx.own.1 n v e sz hL1).2 with hv'|⟨b3,_,_,_,_,hv',hok,_⟩
    ·rw[hv'] at hb1;cases hb1
    ·rw[hv'] at hb1
     simp only[Value.ownBlock,Option.some.injEq] at hb1;rw[←hb1] at hnm;exact hnm hok.1
   ·exfalso
    obtain⟨r1,r2,_⟩:=Je L _ hL1;have hnm:=Rm L v e sz b r1 r2 hb1;rcases(hx.own.1 n' v' e' sz' hL2).2 with hv'|⟨b3,_,_,_,_,hv',hok,_⟩
    ·rw[hv'] at hb2;cases hb2
    ·rw[hv'] at hb2
     simp only[Value.ownBlock,Option.some.injEq] at hb2;rw[←hb2] at hnm;exact hnm hok.1
   ·exact h.own.2 L L' v v' e e' sz sz' b (Je L _ hL1).1 (Je L' _ hL2).1 hb1 hb2
  ·rcases hput k with⟨i,k',c0,h1,h2,h3⟩|⟨h1,h2⟩
   ·rw[h3] at hk
    simp only[Option.some.injEq] at hk;subst hk;have hmem:=List.mem_of_getElem? h1;obtain⟨_,cs0,hcs0⟩:=hm _ hmem;obtain⟨b,_,_,p1,p2,_⟩:=h.bxs.1 k cs0 hcs0;obtain⟨b2,c,e,q1,_,q3,q4,q5,q6,q7⟩:=hx.bxs.1 k' c0 (Ro i k k' c0 h1 h2);rw[←hβ1 k k' (jK n2 hmem)] at q1;have q1:g.β k=some b2:=q1;rw[p1] at q1;simp only[Option.some.injEq] at q1;subst q1;exact⟨b,c,e,p1,p2,q3,dJ q4 fun y _ u=>yg y u,q5,q6,kg (EC _ _) q7⟩
   ·rw[h2] at hk
    obtain⟨cs0,hcs0⟩:=JA k cs hk;obtain⟨b,c,e,q1,q2,q3,q4,q5,q6,q7⟩:=hb.bxs.1 k cs hk;rw[gb2,ga2] at q1;rw[gb1,ga1] at q6;have hnm:=hbxm k cs0 b hcs0 h1 q1;exact⟨b,c,e,q1,q2,by rw[hx.kX.row b hnm];exact q3,q4.mono fun y _ u=>qC hext,q5,by show g1.G b=none;rw[hx.ext.1 b hnm];exact q6,q7⟩
  ·have hk0: ∃c0,au s.bx k=some c0:=by
    rcases hput k with⟨i,k1,c0,h1,_⟩|⟨_,h2⟩
    ·exact(hm _ (List.mem_of_getElem? h1)).2
    ·rw[h2] at hk;exact JA k cs hk
   have hk0': ∃c0,au s.bx k'=some c0:=by
    rcases hput k' with⟨i,k1,c0,h1,_⟩|⟨_,h2⟩
    ·exact(hm _ (List.mem_of_getElem? h1)).2
    ·rw[h2] at hk';exact JA k' cs' hk'
   obtain⟨c0,hk0⟩:=hk0;obtain⟨c0',hk0'⟩:=hk0';exact h.bxs.2 k k' c0 c0' hk0 hk0' hbe
  ·have hβb:g.β k=some b:=hβb
   have hk0: ∃c0,au s.bx k=some c0:=by
    rcases hput k with⟨i,k1,c0,h1,_⟩|⟨_,h2⟩
    ·exact(hm _ (List.mem_of_getElem? h1)).2
    ·rw[h2] at hk;exact JA k cs hk
   obtain⟨c0,hk0⟩:=hk0;rcases Jz L _ hL with⟨n,hn',hL⟩|hL
   ·rcases hput k with⟨i,k',c1,h1,h2,_⟩|⟨h1,_⟩
    ·refine hx.zb k' c1 n v e sz b (Ro i k k' c1 h1 h2) hL hb' ?_
     rw[←hβ1 k k' (jK n2 (List.mem_of_getElem? h1))];exact hβb
    ·have hnm:=hbxm k c0 b hk0 h1 hβb
     rcases(hx.own.1 n v e sz hL).2 with hv|⟨b2,_,_,_,_,hv,hok,_⟩
     ·rw[hv] at hb';cases hb'
     ·rw[hv] at hb'
      simp only[Value.ownBlock,Option.some.injEq] at hb';subst hb';exact hnm hok.1
   ·exact h.zb k c0 L v e sz b hk0 (Je L _ hL).1 hb' hβb
 rw[←hs];exact⟨g2,hbig.put d (yg x v hx.fr.head)⟩
end
section
variable {E:Env} {B:Own} {G0:aM} {w0:World} {s s':St} {g:Gh} {a:Act} {w:World} {bx:List (Nat×List V)} {o:Oper} {eff:Eff}
theorem Inv.still (h:Inv E B G0 w0 s g a w) {w':World} (hb:Below w.heap.size w w'):Inv E B G0 w0 s g a w':=by
 have hn:New w w' g.G g.G:=⟨hb,fun _ _=>rfl,fun b l hl=>by
  obtain⟨c,e,fr,h1,h2⟩:=h.gok b l hl;exact⟨c,e,fr,by rw[hb.block b (dV h.gok hl)];exact h1,h2⟩⟩
 exact(h.new hn).1
theorem Inv.XB (h:Inv E B G0 w0 s g a w) {d e:Nat} {sh:List Kd} {xs:List V} {u:Value} {l:List Value} (hd:s.bu d=true) (hz:wZ g.G w (B.ok d) e sh.length xs.length u l)
  (hne: ∀L v e sz b,g.O L=some (v,e,sz)→L≠d→v.ownBlock=some b→u.ownBlock≠some b) (hnb: ∀k cs b,au s.bx k=some cs→u.ownBlock=some b→g.β k≠some b):
  ∃g',g'.G=g.G∧Inv E B G0 w0 s g' a w∧g'.O d=some (u,e,sh.length)∧g'.C d=some l∧(∀L,L≠d→g'.O L=g.O L):=by
 let O':Nat→Option (Value×Nat×Nat):=fun L=>if L=d then some (u,e,sh.length) else g.O L
 let C':Nat→Option (List Value):=fun L=>if L=d then some l else g.C L
 have I7: ∀L,L≠d→O' L=g.O L:=fun L hL=>if_neg hL
 have hC': ∀L,L≠d→C' L=g.C L:=fun L hL=>if_neg hL
 obtain⟨h0,hln,hf⟩:=hz;refine⟨{g with O:=O',C:=C'},rfl,⟨h.fr.mono fun x hx v=>Jw I7 hC' (rD hd x hx),h.df,h.gok,⟨?_,?_⟩,⟨fun k cs hk=>?_,h.bxs.2⟩,h.kX,h.hB,h.ext,h.glob,h.g1,?_⟩,if_pos rfl,if_pos rfl,I7⟩
 ·intro L v e' sz hL
  by_cases Oz:L=d
  ·subst Oz
   have hL:(if L=L then some (u,e,sh.length) else g.O L)=some (v,e',sz):=hL;rw[if_pos rfl] at hL;simp only[Option.some.injEq,Prod.mk.injEq] at hL;obtain⟨rfl,rfl,rfl⟩:=hL;refine⟨h0,?_⟩;rcases hf with⟨hu,_⟩|⟨b,cap,cur,hv,hb,hh,hcap,hcm,hcs,ht,hG⟩
   ·exact .inl hu
   ·exact .inr ⟨b,_,cap,cur,l,hv,hb,hh,hcap,hcm,hcs,mI.mk1 (if_pos rfl) hG ht,hln⟩
  ·have hL:O' L=some (v,e',sz):=hL
   rw[I7 L Oz] at hL;obtain⟨q1,q2⟩:=h.own.1 L v e' sz hL;refine⟨q1,q2.imp id ?_⟩;rintro⟨b,n,cap,cur,l,hv,hb,hh,hnc,hcm,hcs,hrow,hl⟩;exact⟨b,n,cap,cur,l,hv,hb,hh,hnc,hcm,hcs,hrow.keep (hC' L Oz) rfl,hl⟩
 ·intro L L' v v' e1 e2 sz sz' b h1 h2 hb hb'
  have h1:O' L=some (v,e1,sz):=h1;have h2:O' L'=some (v',e2,sz'):=h2;by_cases hL:L=d<;>by_cases hL':L'=d
  ·rw[hL,hL']
  ·subst hL
   have h1':(if L=L then some (u,e,sh.length) else g.O L)=some (v,e1,sz):=h1;rw[if_pos rfl] at h1';simp only[Option.some.injEq,Prod.mk.injEq] at h1';rw[I7 L' hL'] at h2;exact absurd (by rw[h1'.1];exact hb) (hne L' v' e2 sz' b h2 hL' hb')
  ·subst hL'
   have h2':(if L'=L' then some (u,e,sh.length) else g.O L')=some (v',e2,sz'):=h2;rw[if_pos rfl] at h2';simp only[Option.some.injEq,Prod.mk.injEq] at h2';rw[I7 L hL] at h1;exact absurd (by rw[h2'.1];exact hb') (hne L v e1 sz b h1 hL hb)
  ·rw[I7 L hL] at h1
   rw[I7 L' hL'] at h2;exact h.own.2 L L' v v' e1 e2 sz sz' b h1 h2 hb hb'
 ·obtain⟨b,c,e',hb,hBb,hh,hp,ho,hG,hq⟩:=h.bxs.1 k cs hk
  exact⟨b,c,e',hb,hBb,hh,hp.mono fun x hx v=>Jw I7 hC' (xH hd k cs hk x hx),ho,hG,hq⟩
 ·intro k cs L v e' sz b hk hL hb hβ
  have hL:O' L=some (v,e',sz):=hL;by_cases Oz:L=d
  ·subst Oz
   have hL:(if L=L then some (u,e,sh.length) else g.O L)=some (v,e',sz):=hL;rw[if_pos rfl] at hL;simp only[Option.some.injEq,Prod.mk.injEq] at hL;obtain⟨rfl,rfl,rfl⟩:=hL;exact hnb k cs b hk hb hβ
  ·rw[I7 L Oz] at hL
   exact h.zb k cs L v e' sz b hk hL hb hβ
theorem Inv.grow (h:Inv E B G0 w0 s g a w) {w':World} {ob:Option Nat} (hgr:w.grownBy w' ob) (hG: ∀b,ob=some b→g.G b=none) (hO: ∀L v e sz b,g.O L=some (v,e,sz)→v.ownBlock=some b→some b≠ob) (hβ: ∀k cs b,au s.bx k=some cs→g.β k=some b→some b≠ob) (hm: ∀b,ob=some b→B.m b):
  Inv E B G0 w0 s g a w':=by
 refine⟨h.fr,h.df,fun b l hl=>?_,⟨fun L v e sz hL=>?_,h.own.2⟩,⟨fun k cs hk=>?_,h.bxs.2⟩,?_,Dj h.hB hgr.size,h.ext,h.glob,h.g1,h.zb⟩
 ·obtain⟨c,e,fr,h1,h2⟩:=h.gok b l hl
  refine⟨c,e,fr,?_,h2⟩;rw[hgr.block b (dV h.gok hl) (fun e9=>by rw[hG b e9.symm] at hl;cases hl)];exact h1
 ·obtain⟨p1,p2⟩:=h.own.1 L v e sz hL
  refine⟨p1,p2.imp id ?_⟩;rintro⟨b,n,cap,cur,l,hv,hb,hh,hnc,hcm,hcs,hrow,hl⟩;have hlt:=(Array.getElem?_eq_some_iff.1 hh).1;exact⟨b,n,cap,cur,l,hv,hb,by rw[hgr.block b hlt (hO L v e sz b hL (by rw[hv];rfl))];exact hh,hnc,hcm,hcs,hrow,hl⟩
 ·obtain⟨b,c,e,hb,hBb,hh,hp,ho,qm,hq⟩:=h.bxs.1 k cs hk
  have hlt:=(Array.getElem?_eq_some_iff.1 hh).1;exact⟨b,c,e,hb,hBb,by rw[hgr.block b hlt (hβ k cs b hk hb)];exact hh,hp,ho,qm,hq⟩
 ·exact h.kX.trans ⟨⟨hgr.os,hgr.tape,hgr.output,hgr.size,fun b hb=>by omega⟩,fun b hb=>hgr.block b (Nat.lt_of_not_le fun e=>hb (h.hB.2 b e)) fun e1=>hb (hm b e1.symm)⟩
theorem Un {L e:Nat} {sh:List Kd} {xs:List V} {i:Int} {c L3 e2:Nat} {bC:List Kd} {ys:List V} {v0 u:Value} {l:List Value} (hO:g.O L=some (v0,e,sh.length)) (hC:g.C L=some l) (hp:i.toNat*sh.length+c<l.length) (hz:zG g sh xs v0 (l.set (i.toNat*sh.length+c) u))
  (h3:g.O L3=some (u,e2,bC.length)) (ho3:rV g.G bC ys u) {y:V} {v:Value} (h:aI g y v):aI {g with C:=fun k=>if k=L then some (l.set (i.toNat*sh.length+c) u) else g.C k} (y.Af L e sh xs i c L3 e2 bC ys) v:=by
 have one: ∀{y:V} {v:Value},bE g y v→bE {g with C:=fun k=>if k=L then some (l.set (i.toNat*sh.length+c) u) else g.C k} (Rh L e sh xs i c L3 e2 bC ys y) v:=by
  intro y v h
  cases y with
  |slz k e' sh' xs' o2 i' c' e2' lQ ys'=>
   show bE _ (bif L==k then V.slz L e sh xs (some L3) i c e2 bC ys else .slz k e' sh' xs' o2 i' c' e2' lQ ys') v;obtain⟨l',q1,q2,q3,q4⟩:=h;by_cases hk:L=k
   ·subst hk
    rw[beq_self_eq_true];rw[hO] at q1;simp only[Option.some.injEq,Prod.mk.injEq] at q1;obtain⟨rfl,_,_⟩:=q1;refine⟨_,hO,if_pos rfl,hz,u,h3,ho3,fun y hy hl=>?_⟩;rw[List.getElem?_set_self hp] at hl;exact(Option.some.inj hl).symm
   ·rw[beq_eq_false_iff_ne.2 hk]
    exact⟨l',q1,(if_neg (fun e9=>hk e9.symm)).trans q2,q3,q4⟩
  |epz k e' sz' i' off'=>
   obtain⟨v1,b,l',q1,q2,q3,q4,q5⟩:=h;by_cases hk:k=L
   ·subst hk
    rw[hC] at q2;simp only[Option.some.injEq] at q2;subst q2;exact⟨v1,b,_,q1,if_pos rfl,q3,by rw[List.length_set];exact q4,q5⟩
   ·exact⟨v1,b,l',q1,(if_neg hk).trans q2,q3,q4,q5⟩
  |sl e' sh' o' xs'=>cases o'<;>exact h
  |_=>exact h
 cases y with
 |tup vs=>obtain⟨a,rfl,h⟩:=h;exact⟨a,rfl,dJ h fun z _ v hv=>one hv⟩
 |fn f vs=>obtain⟨a,rfl,h⟩:=h;exact⟨a,rfl,dJ h fun z _ v hv=>one hv⟩
 |slz k e' sh' xs' o2 i' c' e2' lQ ys'=>
  have h2:=one (y:=.slz k e' sh' xs' o2 i' c' e2' lQ ys') (aV (x:=.slz k e' sh' xs' o2 i' c' e2' lQ ys') rfl h);refine bA ?_ h2;show(bif L==k then V.slz L e sh xs (some L3) i c e2 bC ys else .slz k e' sh' xs' o2 i' c' e2' lQ ys').single=true
  cases L==k<;>rfl
 |epz k e' sz' i' off'=>exact bA (x:=.epz k e' sz' i' off') rfl (one (y:=.epz k e' sz' i' off') (aV (x:=.epz k e' sz' i' off') rfl h))
 |_=>simp only[aI] at h⊢;exact one h
theorem Inv.DN (h:Inv E B G0 w0 s g a w) {L e b:Nat} {sh:List Kd} {xs:List V} {i:Int} {c L3 e2:Nat} {bC:List Kd} {ys:List V} {v0 u:Value} {cur:Array Value} {l:List Value} (hO:g.O L=some (v0,e,sh.length)) (hC:g.C L=some l) (hb:v0.ownBlock=some b) (hh:w.heap[b]? =some (.cells cur e (0,0)))
  (hp:i.toNat*sh.length+c<l.length) (hz:zG g sh xs v0 (l.set (i.toNat*sh.length+c) u)) (h3:g.O L3=some (u,e2,bC.length)) (ho3:rV g.G bC ys u):
  ∃g',Inv E B G0 w0 (s.Af L e sh xs i c L3 e2 bC ys) g' a (w.setRow b (cur.toList.take (i.toNat*sh.length+c)++[u]++cur.toList.drop (i.toNat*sh.length+c+1)).toArray):=by
 obtain⟨cur',n,cap,hv0,hn,hh',ht,hcs,hln,qm,hok⟩:=WW h.own hO hC hb;rw[hh] at hh';simp only[Option.some.injEq,Obj.cells.injEq] at hh';obtain⟨rfl,_⟩:=hh';have htr: ∀(y:V) (v:Value),aI g y v→aI {g with C:=fun k=>if k=L then some (l.set (i.toNat*sh.length+c) u) else g.C k} (y.Af L e sh xs i c L3 e2 bC ys) v:=fun y v hy=>Un hO hC hp hz h3 ho3 hy
 generalize i.toNat*sh.length+c=p at hp hz htr⊢;have hil:p<cur.toList.length:=by
  have:=congrArg List.length ht;rw[List.length_take] at this;omega
 have hset:cur.toList.take p++[u]++cur.toList.drop (p+1)=cur.toList.set p u:=by
  rw[List.set_eq_take_append_cons_drop,if_pos hil];simp
 rw[hset];have hnew:=setRow_heap w b cur (cur.toList.set p u).toArray e (0,0) hh;have hoth: ∀j,j≠b→(w.setRow b (cur.toList.set p u).toArray).heap[j]? =w.heap[j]? :=fun j hj=>setRow_other w b j _ hj
 have hsz:(w.setRow b (cur.toList.set p u).toArray).heap.size=w.heap.size:=by simp[World.setRow]
 have hlk: ∀k,au (s.Af L e sh xs i c L3 e2 bC ys).bx k=(au s.bx k).map (List.map (V.Af L e sh xs i c L3 e2 bC ys)):=fun k=>fP _ _ _
 refine⟨_,dJ h.fr fun y _ v hy=>htr y v hy,h.df,fun j m hj=>?_,⟨fun j v e' sz hj=>?_,h.own.2⟩,⟨fun k cs hk=>?_,fun k k' cs cs' hk hk'=>?_⟩,?_,by rw[hsz];exact h.hB,h.ext,h.glob,h.g1,Jy (f:=List.map (V.Af L e sh xs i c L3 e2 bC ys)) h.zb⟩
 ·have hjb:j≠b:=fun e9=>by subst e9;have hj:g.G j=some m:=hj;rw[qm] at hj;cases hj
  obtain⟨c2,e3,fr,hc,ht2⟩:=h.gok j m hj;exact⟨c2,e3,fr,by rw[hoth j hjb];exact hc,ht2⟩
 ·obtain⟨q1,q2⟩:=h.own.1 j v e' sz hj
  refine⟨q1,q2.imp id ?_⟩;rintro⟨b',n',cap',cur',m,hv,hB',On,hnc,hcm,hcs',hrow,hl⟩;by_cases sJ:j=L
  ·subst sJ
   have hj:g.O j=some (v,e',sz):=hj;rw[hO] at hj;simp only[Option.some.injEq,Prod.mk.injEq] at hj;obtain⟨rfl,rfl,rfl⟩:=hj;rw[hv] at hb;simp only[Value.ownBlock,Option.some.injEq] at hb;subst hb;rw[hh] at On;simp only[Option.some.injEq,Obj.cells.injEq] at On;obtain⟨rfl,_⟩:=On;obtain⟨_,e9,ht9⟩:=hrow.nested hC;subst e9;refine⟨b',n',cap',_,_,hv,hB',hnew,hnc,hcm,by simpa using hcs',mI.mk1 (if_pos rfl) qm ?_,by rw[List.length_set];exact hl⟩;rw[List.length_set,List.toList_toArray,List.take_set,ht]
  ·have hne:b'≠b:=fun e9=>sJ (h.own.2 j L v v0 e' e sz _ b' hj hO (by rw[hv];rfl) (by rw[e9];exact hb))
   exact⟨b',n',cap',cur',m,hv,hB',by rw[hoth b' hne];exact On,hnc,hcm,hcs',hrow.keep (if_neg sJ) rfl,hl⟩
 ·rw[hlk] at hk
  cases hq:au s.bx k with
  |none=>rw[hq] at hk;cases hk
  |some ds=>
   rw[hq] at hk;simp only[Option.map_some,Option.some.injEq] at hk;subst hk;obtain⟨b',c',e',p1,p2,p3,p4,p5,p6,p7⟩:=h.bxs.1 k ds hq;have hne:b'≠b:=fun e9=>h.zb k ds L v0 e _ b hq hO hb (by rw[←e9];exact p1)
   exact⟨b',c',e',p1,p2,by rw[hoth b' hne];exact p3,dJ p4 fun y _ v hy=>htr y v hy,p5,p6,kg (T3 _ _ _ _ _ _ _ _ _ _) p7⟩
 ·rw[hlk] at hk hk'
  cases hq:au s.bx k with
  |none=>rw[hq] at hk;cases hk
  |some ds=>
   cases hq':au s.bx k' with
   |none=>rw[hq'] at hk';cases hk'
   |some ds'=>exact h.bxs.2 k k' ds ds' hq hq'
 ·exact h.kX.trans ⟨⟨rfl,rfl,rfl,by rw[hsz];exact Nat.le_refl _,fun j hj=>by omega⟩,fun j hj=>hoth j fun e9=>hj (e9▸hok.1)⟩
theorem Inv.QX (h:Inv E B G0 w0 s g a w) (L:Nat): ∃g',Inv E B G0 w0 (s.QX L) g' a w:=by
 have hlk: ∀k,au (s.QX L).bx k=(au s.bx k).map (List.map (V.QX L)):=fun k=>fP _ _ _
 have build: ∀g':Gh,(∀(y:V) (v:Value),aI g y v→aI g' (y.QX L) v)→g'.β=g.β→g'.O=g.O→vO g'.G w→K8 B g' w→(∀k cs b,au s.bx k=some cs→g.β k=some b→g'.G b=none)→((∀b,¬B.m b→g'.G b=g.G b)∧lH g.G g'.G)→lH g'.G1 G0→Inv E B G0 w0 (s.QX L) g' a w:=by
  intro g' htr hβ hO hg ho hbx hx hg1;refine⟨dJ h.fr fun y _ v hy=>htr y v hy,h.df,hg,ho,⟨fun k cs hk=>?_,fun k k' cs cs' hk hk'=>?_⟩,h.kX,h.hB,⟨fun b hb=>(hx.1 b hb).trans (h.ext.1 b hb),h.ext.2.1.trans hx.2,by rw[hβ];exact h.ext.2.2⟩,h.glob,hg1,by rw[hβ,hO];exact Jy (f:=List.map (V.QX L)) h.zb⟩
  ·rw[hlk] at hk
   cases hq:au s.bx k with
   |none=>rw[hq] at hk;cases hk
   |some ds=>
    rw[hq] at hk;simp only[Option.map_some,Option.some.injEq] at hk;subst hk;obtain⟨b',c',e',p1,p2,p3,p4,p5,p6,p7⟩:=h.bxs.1 k ds hq;exact⟨b',c',e',by rw[hβ];exact p1,p2,p3,dJ p4 fun y _ v hy=>htr y v hy,p5,hbx k ds b' hq p1,kg (YB _) p7⟩
  ·rw[hlk] at hk hk'
   cases hq:au s.bx k with
   |none=>rw[hq] at hk;cases hk
   |some ds=>
    cases hq':au s.bx k' with
    |none=>rw[hq'] at hk';cases hk'
    |some ds'=>rw[hβ];exact h.bxs.2 k k' ds ds' hq hq'
 have lift: ∀g':Gh,(∀(y:V) (v:Value),bE g y v→bE g' (unzV L y) v)→ ∀(y:V) (v:Value),aI g y v→aI g' (y.QX L) v:=by
  intro g' one y v hy
  cases y with
  |tup vs=>obtain⟨a,rfl,h⟩:=hy;exact⟨a,rfl,dJ h fun z _ v hv=>one z v hv⟩
  |fn f vs=>obtain⟨a,rfl,h⟩:=hy;exact⟨a,rfl,dJ h fun z _ v hv=>one z v hv⟩
  |slz k e' sh' xs' o2 i' c' e2' lQ ys'=>
   have h2:=one (.slz k e' sh' xs' o2 i' c' e2' lQ ys') v (aV (x:=.slz k e' sh' xs' o2 i' c' e2' lQ ys') rfl hy);refine bA ?_ h2;show(bif L==k then V.sl e' sh' (some L) xs' else .slz k e' sh' xs' o2 i' c' e2' lQ ys').single=true
   cases L==k<;>rfl
  |epz k e' sz' i' off'=>
   have h2:=one (.epz k e' sz' i' off') v (aV (x:=.epz k e' sz' i' off') rfl hy);refine bA ?_ h2;show(bif L==k then V.any else .epz k e' sz' i' off').single=true
   cases L==k<;>rfl
  |_=>simp only[aI] at hy⊢;exact one _ v hy
 by_cases hex: ∃v e sz l,g.O L=some (v,e,sz)∧g.C L=some l
 ·obtain⟨v0,e,sz,l,hO,hC⟩:=hex
  have hrow:=(h.own.1 L v0 e sz hO).2;rcases hrow with hv|⟨b,n,cap,cur,l',hv,hok,hh,hnc,hcm,hcs,hrow,hl⟩
  ·
   refine⟨{g with C:=fun k=>if k=L then none else g.C k},build _ (lift _ fun y v hy=>?_) rfl rfl h.gok ⟨fun j v e' sz' hj=>?_,h.own.2⟩ (fun k cs b hk hb=>?_) ⟨fun _ _=>rfl,.refl _⟩ h.g1⟩
   ·cases y with
    |slz k e' sh' xs' o2 i' c' e2' lQ ys'=>
     show bE _ (bif L==k then V.sl e' sh' (some L) xs' else .slz k e' sh' xs' o2 i' c' e2' lQ ys') v;obtain⟨l',q1,q2,q3,q4⟩:=hy;by_cases hk:L=k
     ·subst hk
      rw[beq_self_eq_true];refine⟨q1,?_⟩;rcases q3.1 with q5|⟨b,cap,q5⟩
      ·exact .inl q5
      ·rw[hO] at q1
       simp only[Option.some.injEq,Prod.mk.injEq] at q1;rw[←q1.1,hv] at q5;cases q5
     ·rw[beq_eq_false_iff_ne.2 hk]
      exact⟨l',q1,(if_neg (fun e9=>hk e9.symm)).trans q2,q3,q4⟩
    |epz k e' sz' i' off'=>
     show bE _ (bif L==k then V.any else .epz k e' sz' i' off') v;by_cases hk:L=k
     ·subst hk
      rw[beq_self_eq_true];show aN g.G .any v;unfold aN;trivial
     ·rw[beq_eq_false_iff_ne.2 hk]
      obtain⟨v1,b,l',q1,q2,q3⟩:=hy;exact⟨v1,b,l',q1,(if_neg (fun e9=>hk e9.symm)).trans q2,q3⟩
    |sl e' sh' o' xs'=>cases o'<;>exact hy
    |_=>exact hy
   ·obtain⟨q1,q2⟩:=h.own.1 j v e' sz' hj
    by_cases sJ:j=L
    ·subst sJ
     have hj:g.O j=some (v,e',sz'):=hj;rw[hO] at hj;simp only[Option.some.injEq,Prod.mk.injEq] at hj;exact⟨q1,.inl (by rw[←hj.1];exact hv)⟩
    ·refine⟨q1,q2.imp id ?_⟩
     rintro⟨b',n',cap',cur',m,hv',hB',On,hnc,hcm,hcs',hrow,hl⟩;exact⟨b',n',cap',cur',m,hv',hB',On,hnc,hcm,hcs',hrow.keep (if_neg sJ) rfl,hl⟩
   ·obtain⟨b',_,_,p1,_,_,_,_,p6,_⟩:=h.bxs.1 k cs hk
    rw[hb] at p1;simp only[Option.some.injEq] at p1;rw[p1];exact p6
  ·obtain⟨qm,e9,ht⟩:=hrow.nested hC
   subst e9;have hother: ∀j,j≠b→upd g.G b l j=g.G j:=fun j hj=>gq _ _ _ _ hj
   have hmore:lH g.G (upd g.G b l):=fun j m hj=>by
    have hjb:j≠b:=fun e9=>by subst e9;rw[qm] at hj;cases hj
    exact⟨m,by rw[hother j hjb];exact hj,List.prefix_refl _⟩
   have hown: ∀{sh:List Kd} {xs:List V} {k e' sz':Nat} {v:Value},g.O k=some (v,e',sz')→rV g.G sh xs v→rV (upd g.G b l) sh xs v:=by
    intro sh xs k e' sz' v hk ho;refine yR ho hmore fun b' hb'=>?_
    refine hother b' fun e9=>?_
    subst e9;rcases ho with⟨hq,_⟩|⟨b2,_,l2,hq,_,hG2,_⟩
    ·rw[hq] at hb';cases hb'
    ·rw[hq] at hb'
     simp only[Value.ownBlock,Option.some.injEq] at hb';subst hb';rw[qm] at hG2;cases hG2
   have hlink: ∀{C':Nat→Option (List Value)} {l2:List Value} {sz2:Nat} {o2:Option Nat} {i:Int} {c e2:Nat} {bC:List Kd} {ys:List V},qy g l2 sz2 o2 i c e2 bC ys→qy {g with G:=upd g.G b l,C:=C'} l2 sz2 o2 i c e2 bC ys:=by
    intro C' l2 sz2 o2 i c e2 bC ys hq
    cases o2 with
    |none=>trivial
    |some L2=>
     obtain⟨v2,q1,q2,q3⟩:=hq;exact⟨v2,q1,hown q1 q2,q3⟩
   refine⟨{g with G:=upd g.G b l,C:=fun k=>if k=L then none else g.C k},build _ (lift _ fun y v hy=>?_) rfl rfl (fun j m hj=>?_) ⟨fun j v e' sz' hj=>?_,h.own.2⟩ (fun k cs b' hk hb=>?_) ⟨fun j hj=>hother j fun e9=>hj (e9▸hok.1),hmore⟩ h.g1⟩
   ·cases y with
    |slz k e' sh' xs' o2 i' c' e2' lQ ys'=>
     show bE _ (bif L==k then V.sl e' sh' (some L) xs' else .slz k e' sh' xs' o2 i' c' e2' lQ ys') v;obtain⟨l',q1,q2,q3,q4⟩:=hy;by_cases hk:L=k
     ·subst hk
      rw[beq_self_eq_true];have q1':=q1;rw[hO] at q1';simp only[Option.some.injEq,Prod.mk.injEq] at q1';obtain⟨rfl,rfl,rfl⟩:=q1';rw[hC] at q2;simp only[Option.some.injEq] at q2;subst q2;refine⟨q1,.inr ?_⟩;rcases q3.1 with⟨q5,_⟩|⟨b2,cap2,q5⟩
      ·rw[hv] at q5;cases q5
      ·have q6:=q5
       rw[hv] at q6;simp only[Value.slice.injEq,Option.some.injEq,Addr.mk.injEq] at q6;obtain⟨⟨rfl,_,_⟩,hn2,rfl⟩:=q6;exact⟨b,cap,l,q5,by omega,upd_same _ _ _,q3.2.1,iD hmore _ _ _ _ q3.2.2 (List.prefix_refl _)⟩
     ·rw[beq_eq_false_iff_ne.2 hk]
      exact⟨l',q1,(if_neg (fun e9=>hk e9.symm)).trans q2,⟨q3.1,q3.2.1,iD hmore _ _ _ _ q3.2.2 (List.prefix_refl _)⟩,hlink q4⟩
    |epz k e' sz' i' off'=>
     show bE _ (bif L==k then V.any else .epz k e' sz' i' off') v;by_cases hk:L=k
     ·subst hk
      rw[beq_self_eq_true];show aN (upd g.G b l) .any v;unfold aN;trivial
     ·rw[beq_eq_false_iff_ne.2 hk]
      obtain⟨v1,b1,l',q1,q2,q3⟩:=hy;exact⟨v1,b1,l',q1,(if_neg (fun e9=>hk e9.symm)).trans q2,q3⟩
    |sl e' sh' o' xs'=>
     cases o' with
     |none=>exact gJ hmore _ _ hy
     |some k=>exact⟨hy.1,hown hy.1 hy.2⟩
    |eptr k e' sh' xs' i' off'=>
     obtain⟨v1,b1,q1,q2,q3⟩:=hy;exact⟨v1,b1,q1,hown q1 q2,q3⟩
    |box k off=>exact hy
    |old x=>exact⟨hy.1,gJ hmore _ _ hy.2.1,hy.2.2⟩
    |_=>exact gJ hmore _ _ hy
   ·by_cases hjb:j=b
    ·subst hjb
     have hj:upd g.G j l j=some m:=hj;rw[upd_same] at hj;simp only[Option.some.injEq] at hj;subst hj;exact⟨cur,e,(0,0),hh,ht⟩
    ·have hj:upd g.G b l j=some m:=hj
     rw[hother j hjb] at hj;exact h.gok j m hj
   ·obtain⟨q1,q2⟩:=h.own.1 j v e' sz' hj
    refine⟨q1,q2.imp id ?_⟩;rintro⟨b',n',cap',cur',m,hv',hB',On,hnc',hcm',hcs',hrow',hl'⟩;by_cases sJ:j=L
    ·subst sJ
     have hj:g.O j=some (v,e',sz'):=hj;rw[hO] at hj;simp only[Option.some.injEq,Prod.mk.injEq] at hj;obtain⟨rfl,rfl,rfl⟩:=hj;rw[hv] at hv';simp only[Value.slice.injEq,Option.some.injEq,Addr.mk.injEq] at hv';obtain⟨⟨rfl,_,_⟩,rfl,rfl⟩:=hv';rw[hh] at On;simp only[Option.some.injEq,Obj.cells.injEq] at On;obtain⟨rfl,_⟩:=On;exact⟨b,n,cap,cur,l,hv,hB',hh,hnc,hcm,hcs,mI.mk0 (if_pos rfl) (upd_same _ _ _),hl⟩
    ·have hne:b'≠b:=fun e9=>sJ (h.own.2 j L v v0 e' e sz' _ b' hj hO (by rw[hv'];rfl) (by rw[hv,e9];rfl))
     exact⟨b',n',cap',cur',m,hv',hB',On,hnc',hcm',hcs',hrow'.keep (if_neg sJ) (hother b' hne),hl'⟩
   ·obtain⟨b2,_,_,p1,_,_,_,_,p6,_⟩:=h.bxs.1 k cs hk
    rw[hb] at p1;simp only[Option.some.injEq] at p1;subst p1;have hne:b'≠b:=fun e9=>h.zb k cs L v0 e sz b hk hO (by rw[hv];rfl) (by rw[←e9];exact hb)
    show upd g.G b l b'=none;rw[hother b' hne];exact p6
 ·
  refine⟨g,build g (lift g fun y v hy=>?_) rfl rfl h.gok h.own (fun k cs b hk hb=>?_) ⟨fun _ _=>rfl,.refl _⟩ h.g1⟩
  ·cases y with
   |slz k e' sh' xs' o2 i' c' e2' lQ ys'=>
    show bE _ (bif L==k then V.sl e' sh' (some L) xs' else .slz k e' sh' xs' o2 i' c' e2' lQ ys') v;obtain⟨l',q1,q2,q3,q4⟩:=hy;by_cases hk:L=k
    ·subst hk;exact absurd ⟨_,_,_,_,q1,q2⟩ hex
    ·rw[beq_eq_false_iff_ne.2 hk];exact⟨l',q1,q2,q3,q4⟩
   |epz k e' sz' i' off'=>
    show bE _ (bif L==k then V.any else .epz k e' sz' i' off') v;obtain⟨v1,b,l',q1,q2,q3⟩:=hy;by_cases hk:L=k
    ·subst hk;exact absurd ⟨_,_,_,_,q1,q2⟩ hex
    ·rw[beq_eq_false_iff_ne.2 hk];exact⟨v1,b,l',q1,q2,q3⟩
   |_=>exact hy
  ·obtain⟨b',_,_,p1,_,_,_,_,p6,_⟩:=h.bxs.1 k cs hk
   rw[hb] at p1;simp only[Option.some.injEq] at p1;rw[p1];exact p6
theorem Mf: ∀(l:List Nat) (s:St) (g:Gh),Inv E B G0 w0 s g a w→ ∃g',Inv E B G0 w0 (unzL s l) g' a w
 |[],s,g,h=>⟨g,h⟩
 |L::l,s,g,h=>by
  obtain⟨g',h'⟩:=h.QX L;exact Mf l _ g' h'
theorem yX (h:Inv E B G0 w0 s g a w) (P:Program) (ops:List Oper): ∃g',Inv E B G0 w0 (Wt P ops s) g' a w:=by
 unfold Wt
 cases(s.bx.any (fun(_,cs)=>cs.any isZ)&&ops.any (Xq P)) with
 |true=>exact Mf _ _ _ h
 |false=>exact⟨g,h⟩
end
section
variable {E:Env} {B:Own} {G0:aM} {w0:World} {s s':St} {g:Gh} {a:Act} {w:World} {bx:List (Nat×List V)} {o:Oper} {eff:Eff}
theorem V3.sub {P:Program} {bx bx':List (Nat×List V)} (h:V3 P B g bx' w) (hs: ∀k cs,au bx k=some cs→au bx' k=some cs):V3 P B g bx w:=
 ⟨fun k cs hk=>h.1 k cs (hs k cs hk),fun k k' cs cs' hk hk'=>h.2 k k' cs cs' (hs k cs hk) (hs k' cs' hk')⟩
theorem Fu {G:aM} {w:World} {B:Nat→Prop} {x:V} {v:Value} {g:Gh} (hg:g.G=G) (hl:rW x=false) (h:nu G w B x v):bE g x v:=by
 subst hg
 cases x with
 |sl e sh ow xs=>
  cases ow with
  |none=>exact h
  |some L=>cases hl
 |box k off=>simp only[nu] at h;unfold aN at h;exact h.elim
 |eptr _ _ _ _ _ _=>simp only[nu] at h;unfold aN at h;exact h.elim
 |old _=>simp only[nu] at h;unfold aN at h;exact h.elim
 |slz _ _ _ _ _ _ _ _ _ _=>simp only[nu] at h;unfold aN at h;exact h.elim
 |epz _ _ _ _ _=>simp only[nu] at h;unfold aN at h;exact h.elim
 |_=>exact h
theorem Cc: ∀(d:Nat) (l:List V),l.countP rW=0→ ∀b,fZ d b l=l
 |d,[],_,b=>by cases b<;>rfl
 |d,x::l,h,b=>by
  rw[List.countP_cons] at h;have hx:rW x=false:=by
   cases hq:rW x with
   |false=>rfl
   |true=>rw[hq] at h;simp at h
  rw[hx] at h;have ih:=Cc d l (by simpa using h) b
  cases x with
  |sl e sh ow xs=>
   cases ow with
   |none=>cases b<;>simp only[fZ,ih]
   |some L=>cases hx
  |_=>cases b<;>simp only[fZ,ih]
theorem Uo (h:Inv E B G0 w0 s g a w) {d:Nat} {r:V} {v:Value} {b0:Nat} (hd:s.bu d=true) (hb0:B.n≤b0∧ ∀b,b0≤b→B.m b) (hlt: ∀L v e sz b,g.O L=some (v,e,sz)→v.ownBlock=some b→b<b0) (hr:fu g.G w (b0≤ ·) r v):
  ∃g',Inv E B G0 w0 s g' a w∧aI g' (r.LC d) v:=by
 have XD: ∀{e sh xs u},iB g.G w (b0≤ ·) e sh xs u→iB g.G w (B.ok d) e sh xs u:=by
  rintro e sh xs u ⟨h1,h2⟩;refine⟨h1,h2.imp id ?_⟩;rintro⟨b,cap,cur,l,hv,hb,rest⟩;exact⟨b,cap,cur,l,hv,⟨hb0.2 b hb,fun _=>Nat.le_trans hb0.1 hb⟩,rest⟩
 have nO: ∀{e sh xs u},iB g.G w (b0≤ ·) e sh xs u→ ∀L v e sz b,g.O L=some (v,e,sz)→L≠d→v.ownBlock=some b→u.ownBlock≠some b:=by
  rintro e sh xs u ⟨h1,h2⟩ L v e' sz b hL _ hb hu;have h3:=hlt L v e' sz b hL hb;rcases h2 with⟨rfl,_⟩|⟨b',cap,cur,l,rfl,hb',_⟩
  ·cases hu
  ·simp[Value.ownBlock] at hu
   omega
 cases r with
 |tup vs=>
  obtain⟨us,rfl,hp,hc⟩:=hr;have key: ∀(xs:List V) (us:List Value),PW (nu g.G w (b0≤ ·)) xs us→xs.countP rW≤1→ ∃g',g'.G=g.G∧Inv E B G0 w0 s g' a w∧PW (bE g') (fZ d true xs) us:=by
   intro xs;induction xs with
   |nil=>intro us hp _;exact⟨g,rfl,h,by rw[hp.bT];exact .nil⟩
   |cons x xs ih=>
    intro us hp hc;obtain⟨u,t,rfl,h1,h2⟩:=hp.cons_inv;rw[List.countP_cons] at hc
    cases hx:rW x with
    |true=>
     rw[hx] at hc;have h0:xs.countP rW=0:=by rw[if_pos rfl] at hc;omega
     cases x with
     |sl e sh ow ys=>
      cases ow with
      |none=>cases hx
      |some L=>
       have h1:iB g.G w (b0≤ ·) e sh ys u:=h1;obtain⟨g',hg,hi,hs⟩:=h.label (e:=e) (sh:=sh) (xs:=ys) (u:=u) hd (XD h1) (nO h1);refine⟨g',hg,hi,?_⟩;show PW (bE g') (V.sl e sh (some d) ys::fZ d false xs) (u::t);rw[Cc d xs h0];refine .cons hs (h2.mono fun y hy v hv=>Fu hg ?_ hv);have:=List.countP_eq_zero.1 h0 y hy;simpa using this
     |_=>cases hx
    |false=>
     rw[hx] at hc;obtain⟨g',hg,hi,hs⟩:=ih t h2 (by simpa using hc);refine⟨g',hg,hi,?_⟩;have e1:fZ d true (x::xs)=x::fZ d true xs:=by
      cases x with
      |sl e sh ow ys=>cases ow with
       |none=>rfl
       |some L=>cases hx
      |_=>rfl
     rw[e1];exact .cons (Fu hg hx h1) hs
  obtain⟨g',_,hi,hs⟩:=key vs us hp hc;exact⟨g',hi,us,rfl,hs⟩
 |sl e sh ow xs=>
  cases ow with
  |none=>exact⟨g,h,hr⟩
  |some L=>
   have hr:iB g.G w (b0≤ ·) e sh xs v:=hr;obtain⟨g',hg,hi,hs⟩:=h.label (e:=e) (sh:=sh) (xs:=xs) (u:=v) hd (XD hr) (nO hr);exact⟨g',hi,hs⟩
 |box k off=>simp only[fu,nu] at hr;unfold aN at hr;exact hr.elim
 |eptr _ _ _ _ _ _=>simp only[fu,nu] at hr;unfold aN at hr;exact hr.elim
 |old _=>simp only[fu,nu] at hr;unfold aN at hr;exact hr.elim
 |slz _ _ _ _ _ _ _ _ _ _=>simp only[fu,nu] at hr;unfold aN at hr;exact hr.elim
 |epz _ _ _ _ _=>simp only[fu,nu] at hr;unfold aN at hr;exact hr.elim
 |fn f c=>
  simp only[fu,nu] at hr;have h2:=hr;unfold aN at h2;obtain⟨_,rfl⟩:=h2;exact⟨g,h,bI rfl hr⟩
 |_=>exact⟨g,h,hr⟩
theorem YO {x y:V} (h:x.deep=some y):y.wO=y:=by
 cases x with
 |fn f c=>cases c<;>simp[V.deep] at h;subst h;rfl
 |_=>simp[V.deep] at h<;>subst h<;>rfl
theorem Fv {g:Gh} {bx:List (Nat×List V)} {MB ML:List (Nat×Nat)}: ∀(as args:List V) (vs:List Value),jr as=[]→fK bx MB ML as=some args→iy args=false→PW (Jd g) as vs→PW (aN g.G) (args.map V.wO) vs
 |[],args,vs,_,h,_,hp=>by
  simp only[fK,Option.some.injEq] at h;subst h;rw[hp.bT];exact .nil
 |x::as,args,vs,hno,h,hb,hp=>by
  unfold jr at hno;obtain⟨hno1,hno⟩:=List.append_eq_nil_iff.1 hno;obtain⟨v,t,rfl,h1,h2⟩:=hp.cons_inv;unfold fK at h;split at h
  ·rename_i y ys hy hys
   simp only[Option.some.injEq] at h;subst h;unfold iy at hb;rw[List.any_cons,Bool.or_eq_false_iff] at hb;rw[List.map_cons];refine .cons ?_ (Fv as ys t hno hys hb.2 h2);have fO:x.deep=some y→aN g.G y.wO v:=by
    intro hd;rw[YO hd];exact h1.elim (fun h=>nU h hd) (fun h=>AF h hd)
   cases x with
   |box k off=>
    unfold tu at hy;simp only at hy;split at hy
    ·simp only[Option.some.injEq] at hy
     subst hy
     cases hb.1
    ·cases hy
   |sl e sh ow xs=>
    cases ow with
    |none=>exact fO hy
    |some L=>
     have hy:some (vH MB ML (.sl e sh (some L) xs))=some y:=hy;simp only[Option.some.injEq] at hy;subst hy;have hs:bE g (.sl e sh (some L) xs) v:=h1.elim (fun h=>aV rfl h) id;exact oG hs.2
   |fn f c=>
    cases c with
    |nil=>exact fO hy
    |cons c cs=>
     obtain⟨hcb,_⟩:=aC (show(bif Nat.blt f wN&&wX (c::cs) then some (V.fn f ((c::cs).map (vH MB ML))) else none)=some y from hy);rw[Bool.and_eq_true] at hcb;have hc:=hcb.2;unfold wX at hc;rw[List.all_cons,Bool.and_eq_true] at hc;have hc:=hc.1;simp only at hno1;split at hc
     ·rw[List.filterMap_cons] at hno1
      cases hno1
     ·cases hc
   |_=>exact fO hy
  ·cases h
theorem zD {G:aM} {x:V} {u v:Value} (h:mW x=some u) (hr:aN G x v):v=u:=by
 cases x with
 |bool b=>simp only[mW,Option.some.injEq] at h;unfold aN at hr;rw[hr,h]
 |int k n=>simp only[mW,Option.some.injEq] at h;unfold aN at hr;rw[hr,h]
 |_=>cases h
theorem zF {G:aM}: ∀(xs:List V) (us vs:List Value),mX xs=some us→PW (aN G) xs vs→vs=us
 |[],us,vs,h,hp=>by simp only[mX,Option.some.injEq] at h;rw[hp.bT,h]
 |x::xs,us,vs,h,hp=>by
  obtain⟨v,t,rfl,h1,h2⟩:=hp.cons_inv;unfold mX at h;split at h
  ·rename_i a b ha hb
   simp only[Option.some.injEq] at h;rw[←h,zD ha h1,zF xs b t hb h2]
  ·cases h
theorem Ce {G:aM} {x:V} {u v:Value} (h:bR x=some u) (hr:aN G x v):v=u:=by
 unfold bR at h;split at h
 ·rename_i t cs
  split at h
  ·rename_i l hl
   simp only[Option.some.injEq] at h;unfold aN at hr;obtain⟨z,rfl,hz⟩:=hr;unfold aN at hz;obtain⟨a,rfl,ha⟩:=hz;rw[eP] at ha;rw[zF cs l a hl ha,h]
  ·cases h
 ·rename_i t y _
  split at h
  ·rename_i z hz
   simp only[Option.some.injEq] at h;unfold aN at hr;obtain⟨q,rfl,hq⟩:=hr;rw[zD hz hq,h]
  ·cases h
 ·cases h
theorem KG {g:Gh} {x:V} {u v:Value} (h:bR x=some u) (hr:aI g x v):v=u:=by
 cases x with
 |iface t y=>exact Ce (G:=g.G) h hr
 |_=>cases h
theorem eff_pan (h:Inv E B G0 w0 s g a w) (hd:Does E.P a.eval o B w g s.bx eff) {v:V} (hr:Jv E s eff v s') {next:Act→World→Prop} {Q:Exit→Act→World→Prop}
  (hk: ∀g' w' u,Inv E B G0 w0 s' g' a w'→bR v=some u→Q (.panic [{v:=u,recovered:=false}]) a w'):o.wp E.P a w next Q:=by
 unfold Oper.wp;obtain⟨⟨u,hfu⟩,hr⟩:=hr
 cases eff with
 |call f args mb ml=>
  obtain⟨vs,as,hu,hp,hof,CS⟩:=hd;rw[hu];rcases hr with⟨bs,hc,hback⟩|⟨hc,rfl⟩
  rotate_left
  ·refine Calls.mono (hc (vX g w mb ml) (pO g mb ml) w vs rfl (oV h hp hof CS)) ?_
   rintro e w' ⟨q,rfl,hx,hb⟩;exact hk _ _ _ (h.still hb) hx
  refine Calls.mono (hc (vX g w mb ml) (pO g mb ml) w vs rfl (oV h hp hof CS)) ?_;rintro e w' ⟨g1,q,rfl,hx⟩;obtain⟨g2,hi⟩:=AZ h hof CS hback hx;have hq:=KG hfu hx.fr.head;subst hq;exact hk _ _ _ hi hfu
 |nX v'=>
  obtain⟨q,hu,hq⟩:=hd;obtain⟨rfl,rfl⟩:=hr;rw[hu];have:=Ce hfu hq;subst this;exact hk _ _ _ h hfu
 |_=>exact hr.elim
theorem uV (h:Inv E B G0 w0 s g a w) (hd:Does E.P a.eval o B w g bx eff) (hs: ∀k cs,au bx k=some cs→au s.bx k=some cs) {dr:Bool} (hsb:dr=false→bx=s.bx) (hr:Eh E dr s o.dst eff s') {next:Act→World→Prop} {Q:Exit→Act→World→Prop}
  (hk: ∀g' a' w',Inv E B G0 w0 s' g' a' w'→(∃u,a'=a.put o.dst u)→next a' w'):o.wp E.P a w next Q:=by
 unfold Oper.wp
 cases eff with
 |val v=>
  obtain⟨u,hu,ht⟩:=hd;have e1:s'=s.put o.dst v:=hr;subst e1;rw[hu];exact hk g _ _ (h.put o.dst ht) ⟨u,rfl⟩
 |newSl e sh xs=>
  obtain⟨u,w',G',hu,hn,ht⟩:=hd;obtain⟨h1,_⟩:=h.new hn;rw[hu];have e1:s'=s.put o.dst (.sl e sh none xs):=hr;subst e1;exact hk _ _ _ (h1.put o.dst (v:=.sl e sh none xs) ht) ⟨u,rfl⟩
 |own e sh xs=>
  obtain⟨u,w',G',hu,hn,hf⟩:=hd;obtain⟨k,hk1,hk2,hk4,rfl⟩:=hr;obtain⟨h1,_⟩:=h.new hn;rw[hu];have hf':iB G' w' (B.ok k) e sh xs u:=by
   refine⟨hf.1,hf.2.imp id ?_⟩;rintro⟨b,cap,cur,l,hv,hb,rest⟩;exact⟨b,cap,cur,l,hv,⟨h.hB.2 b hb,fun _=>Nat.le_trans h.hB.1 hb⟩,rest⟩
  have h1':=h1.put (some k) (v:=.any) (u:=u) ja;obtain⟨g',hg,hi,ht⟩:=h1'.label (e:=e) (sh:=sh) (xs:=xs) (u:=u) hk2 hf' (by
   intro L v e' sz b hL _ hb hub;have h3:=xg h.gok h.own hL hb;rcases hf.2 with⟨rfl,_⟩|⟨b',cap,cur,l,rfl,hb',_⟩
   ·cases hub
   ·simp[Value.ownBlock] at hub;omega)
  have:=hi.put (some k) (v:=.sl e sh (some k) xs) (u:=u) ht;rw[show(s.put (some k) .any).put (some k) (.sl e sh (some k) xs)=s.put (some k) (.sl e sh (some k) xs) by simp[St.put],show(a.put (some k) u).put (some k) u=a.put (some k) u by simp[Act.put]] at this;rw[Oper.upon_value];rw[hk1] at hk⊢;exact hk _ _ _ this ⟨u,rfl⟩
 |app L e sh xs=>
  obtain⟨v0,u,w',G',Oy,hu,hgr,hG1,hmore,hGk,hf,hub⟩:=hd;obtain⟨k,hk1,hk2,hk4,rfl⟩:=hr;have h1:=h.kill L;rw[hu];have hrow: ∀b,v0.ownBlock=some b→B.ok L b:=by
   intro b hb;rcases(h.own.1 L v0 e sh.length Oy).2 with hv|⟨b',n,cap,cur,l,hv,hB',_⟩
   ·rw[hv] at hb;cases hb
   ·rw[hv] at hb;simp[Value.ownBlock] at hb;subst hb;exact hB'
  have hother: ∀L' v e' sz b,(if L'=L then none else g.O L')=some (v,e',sz)→v.ownBlock=some b→b<w.heap.size∧some b≠v0.ownBlock:=by
   intro L' v e' sz b hL' hb;split at hL'
   ·cases hL'
   ·rename_i hne
    refine⟨xg h.gok h.own hL' hb,fun e1=>hne ?_⟩;exact h.own.2 L' L v v0 _ _ _ _ b hL' Oy hb e1.symm
  have hext:Ext {g with O:=fun k=>if k=L then none else g.O k} {g with O:=(fun k=>if k=L then none else g.O k),G:=G'}:=
   ⟨hmore,fun _ _ h=>h,fun L' v e' sz b hL' hb=>by obtain⟨h2,h3⟩:=hother L' v e' sz b hL' hb;exact hG1 b h2 h3,fun _ _ h=>h,rfl,fun _ _ _=>rfl⟩
  have h2:Inv E B G0 w0 (s.kill L) {g with O:=(fun k=>if k=L then none else g.O k),G:=G'} a w':=by
   refine⟨h1.fr.mono fun x _ v=>qC hext,h1.df,hGk,⟨fun L' v e' sz hL'=>?_,h1.own.2⟩,⟨fun j cs hj=>?_,h1.bxs.2⟩,?_,Dj h.hB hgr.size,⟨fun b hb=>?_,h.ext.2.1.trans hmore,h.ext.2.2⟩,h1.glob,h1.g1,h1.zb⟩
   ·obtain⟨p1,p2⟩:=h1.own.1 L' v e' sz hL'
    refine⟨p1,p2.imp id ?_⟩;rintro⟨b,n,cap,cur,l,hv,hb,hh,hnc,hcm,hcs,qm,hl⟩;obtain⟨q1,q2⟩:=hother L' v e' sz b hL' (by rw[hv];rfl);exact⟨b,n,cap,cur,l,hv,hb,by rw[hgr.block b q1 q2];exact hh,hnc,hcm,hcs,qm.keep rfl (hG1 b q1 q2),hl⟩
   ·obtain⟨b,c,e2,hb,hBb,hh,hp,ho,qm,hq⟩:=h1.bxs.1 j cs hj
    have hlt:=(Array.getElem?_eq_some_iff.1 hh).1;have hne:some b≠v0.ownBlock:=by
     intro e1;have hj:au (s.kill L).bx j=some cs:=hj;rw[nV] at hj
     cases hq9:au s.bx j with
     |none=>rw[hq9] at hj;cases hj
     |some ds=>exact h.zb j ds L v0 e sh.length b hq9 Oy e1.symm hb
    exact⟨b,c,e2,hb,hBb,by rw[hgr.block b hlt hne];exact hh,hp.mono fun x _ v=>qC hext,ho,by show G' b=_;rw[hG1 b hlt hne];exact qm,hq⟩
   ·refine h.kX.trans ⟨⟨hgr.os,hgr.tape,hgr.output,hgr.size,fun b hb=>by omega⟩,fun b hb=>hgr.block b (Nat.lt_of_not_le fun e=>hb (h.hB.2 b e)) fun e1=>hb (hrow b e1.symm).1⟩
   ·have hlt:b<w.heap.size:=Nat.lt_of_not_le fun e=>hb (h.hB.2 b e)
    have hne:some b≠v0.ownBlock:=fun e1=>hb (hrow b e1.symm).1
    exact(hG1 b hlt hne).trans (h.ext.1 b hb)
  have hf2:iB G' w' (B.ok (fo true L k)) e sh xs u:=by
   refine⟨hf.1,hf.2.imp id ?_⟩;rintro⟨b,cap,cur,l,hv,hb,rest⟩;exact⟨b,cap,cur,l,hv,⟨hb.1,fun hlt=>hb.2 (Ei hk4 hlt)⟩,rest⟩
  obtain⟨g',hg,hi,ht⟩:=h2.label (e:=e) (sh:=sh) (xs:=xs) (u:=u) hk2 hf2 (by
   intro L' v e' sz b hL' _ hb Lj;obtain⟨q1,q2⟩:=hother L' v e' sz b hL' hb;rcases hub with hub|hub
   ·rw[Lj] at hub;exact q2 hub
   ·have:=hub b Lj;omega)
  have:=hi.put (some k) (v:=.sl e sh (some (fo true L k)) xs) (u:=u) ht;rw[Oper.upon_value];rw[hk1] at hk⊢;exact hk _ _ _ this ⟨u,rfl⟩
 |nG e cs=>
  obtain⟨c,hu,hp,ho,hq⟩:=hd;obtain⟨k,hk1,hk2,hk3,hk4,rfl⟩:=hr;rw[hu];obtain⟨g',hi⟩:=h.nG (e:=e) hk4 hk2 hp ho hk3 hq;rw[Oper.upon_value];rw[hk1] at hk⊢;exact hk _ _ _ hi ⟨_,rfl⟩
 |put k off cs=>
  obtain⟨b,c,e,us,old,hb,hl,hh,hp,hu,hv,ho,hle⟩:=hd;obtain⟨old',hl',hq,rfl⟩:=hr;rw[hs k old hl] at hl';simp only[Option.some.injEq] at hl';subst hl';rw[hu];have h1:=h.store (off:=off) (vs:=cs) (us:=us) hb (hs k old hl) hh hp hv ho hle hq;exact hk _ _ _ (h1.put o.dst (v:=.tup []) (u:=undef) ⟨[],rfl,.nil⟩) ⟨_,rfl⟩
 |call f args mb ml=>
  obtain⟨vs,as,hu,hp,hof,CS⟩:=hd;rw[hu];rcases hr with⟨hbx,hr⟩|⟨hdr,x,bs,hc,hback⟩|⟨hdr,x,hc,rfl⟩
  ·have hpl:PW (aN g.G) (args.map V.wO) vs:=by
    obtain⟨e1,e2,hv,_⟩:=uK hof;obtain⟨A,H,rfl,hA,hH⟩:=qi as (jr as) args hv;have hbx2:iy A=false∧iy H=false:=by
     unfold iy at hbx⊢;rw[List.any_append,Bool.or_eq_false_iff] at hbx;exact hbx
    have hH0:=hid_bxa (JV (jr as) H (uJ as) hH) hbx2.2;subst hH0;have hh0:jr as=[]:=by
     cases hq:jr as with
     |nil=>rfl
     |cons x t=>
      rw[hq] at hH;unfold fK at hH;split at hH<;>simp at hH
    rw[List.append_nil];exact Fv as A vs hh0 hA hbx2.1 hp
   have key: ∀r,af E f (args.map V.wO) r→(∀v w' G',New w w' g.G G'→fu G' w' (w.heap.size≤ ·) r v→next (a.put o.dst v) w')→o.upon E.P a next Q (.ok (.enter f vs.toArray) w):=by
    intro r hc hn;refine Calls.mono (hc g.G w vs h.gok h.mU hpl) ?_;rintro e w' ⟨v,G',rfl,h1,h2⟩;exact hn v w' G' h1 h2
   rcases hr with⟨k,r,hk1,hk2,hk3,hc,rfl⟩|⟨r,hk1,hc,rfl⟩
   ·refine key r hc fun v w' G' hn hres=>?_
    obtain⟨h1,_⟩:=h.new hn;obtain⟨g',hi,ht⟩:=Uo h1 (d:=k) (r:=r) (v:=v) (b0:=w.heap.size) hk2 h.hB (fun L v e sz b hL hb=>xg h.gok h.own hL hb) hres;have:=hi.put (some k) ht;rw[hk1] at hk⊢;exact hk _ _ _ this ⟨v,rfl⟩
   ·refine key r hc fun v w' G' hn hres=>?_
    obtain⟨h1,_⟩:=h.new hn;have:=h1.put none (v:=.any) (u:=v) ja;rw[hk1] at hk⊢;exact hk _ _ _ this ⟨v,rfl⟩
  ·rw[hsb hdr] at hof
   refine Calls.mono (hc (vX g w mb ml) (pO g mb ml) w vs rfl (oV h hp hof CS)) ?_;rintro e w' ⟨g1,v,rfl,hx⟩;obtain⟨g2,hi⟩:=AZ h hof CS hback hx;exact hk _ _ _ hi ⟨v,rfl⟩
  ·rw[hsb hdr] at hof
   refine Calls.mono (hc (vX g w mb ml) (pO g mb ml) w vs rfl (oV h hp hof CS)) ?_;rintro e w' ⟨v,rfl,⟨hx,hv⟩,hb⟩;refine hk _ _ _ ((h.still hb).put o.dst (v:=x) (u:=v) ?_) ⟨v,rfl⟩
   cases x with
   |tup vs=>
    cases vs with
    |nil=>exact⟨[],hv,.nil⟩
    |cons _ _=>cases hx
   |bool b=>exact iR (g:=⟨fun _=>none,fun _=>none,fun _=>none,fun _=>none,fun _=>none⟩) rfl hv
   |int k n=>exact iR (g:=⟨fun _=>none,fun _=>none,fun _=>none,fun _=>none,fun _=>none⟩) rfl hv
   |str l=>exact iR (g:=⟨fun _=>none,fun _=>none,fun _=>none,fun _=>none,fun _=>none⟩) rfl hv
   |_=>cases hx
 |nX v=>exact hr.elim
 |pick b x y=>
  obtain⟨u,hu,ht⟩:=hd;rw[hu]
  cases b with
  |true=>
   have e1:s'=s.put o.dst x:=hr;subst e1;exact hk _ _ _ (h.put o.dst ht) ⟨u,rfl⟩
  |false=>
   have e1:s'=s.put o.dst y:=hr;subst e1;exact hk _ _ _ (h.put o.dst ht) ⟨u,rfl⟩
 |DL L e k ys=>
  obtain⟨v0,b,c,l,i,u,xs,h1,h2,h3,h4,h5,h6,h7,h8,h9,h10,hu⟩:=hd;obtain⟨r1,rfl⟩:=hr;rw[hu];obtain⟨g',hi⟩:=h.forget.DL h1 h2 h3 h4 h5 h6 h7 h8 h9 h10 (KF s) r1;exact hk g' _ _ (hi.put o.dst (v:=.tup []) (u:=undef) ⟨[],rfl,.nil⟩) ⟨_,rfl⟩
 |alts i vs=>
  obtain⟨j,v,h1,h2,rfl⟩:=hr;obtain⟨u,hu,ht⟩:=hd j v h1 h2;rw[hu];exact hk g _ _ (h.put o.dst ht) ⟨u,rfl⟩
 |ownz e sh xs c e2 bC=>
  obtain⟨u,w',l,hu,hb,hz,hE,hk0,hlk⟩:=hd;obtain⟨k,hk1,hk2,hk3,hk4,rfl⟩:=hr;rw[hu];have hkH:k<HL:=by unfold dz at hk4;omega
  have h1:=(h.still hb).put (some k) (v:=.any) (u:=u) ja;have hnew: ∀b,u.ownBlock=some b→w.heap.size≤b:=by
   intro b hub;rcases hz.2.2 with⟨rfl,_⟩|⟨b',cap,cur,rfl,hb',_⟩
   ·cases hub
   ·simp[Value.ownBlock] at hub;omega
  have hz':wZ g.G w' (B.ok k) e sh.length xs.length u l:=by
   refine⟨hz.1,hz.2.1,hz.2.2.imp id ?_⟩;rintro⟨b,cap,cur,hv,hb',rest⟩;exact⟨b,cap,cur,hv,⟨h.hB.2 b hb',fun _=>Nat.le_trans h.hB.1 hb'⟩,rest⟩
  obtain⟨g1,hg1,hi1,ho1,hc1,_⟩:=h1.XB (d:=k) (e:=e) (sh:=sh) (xs:=xs) (u:=u) (l:=l) hk2 hz' (by
   intro L v e' sz b hL _ hb' hub;have:=xg h.gok h.own hL hb';have:=hnew b hub;omega) (by
   intro j cs b hj hub hβ;have hj:au s.bx j=some cs:=hj;obtain⟨b',_,_,p1,_,p3,_⟩:=h.bxs.1 j cs hj;rw[hβ] at p1;simp only[Option.some.injEq] at p1;subst p1;have:=(Array.getElem?_eq_some_iff.1 p3).1;have:=hnew b hub;omega)
  obtain⟨g2,hg2,hi2,hs2,hx2⟩:=hi1.Pq (d:=dz k) (e:=e2) (sh:=bC) (xs:=[]) (u:=.slice none 0 0) hk3 ⟨hk0,.inl ⟨rfl,rfl⟩⟩ (by intro L v e' sz b _ _ _ hq;cases hq);have hkd:k≠dz k:=by unfold dz;omega
  have ht:aI g2 (.slz k e sh xs (some (dz k)) 0 c e2 bC []) u:=by
   refine mY.2 ⟨l,(hx2 k hkd).1.trans ho1,(hx2 k hkd).2.trans hc1,⟨?_,hz.2.1,by rw[hg2,hg1];exact hE⟩,_,hs2.1,hs2.2,fun y _ hy=>hlk y ?_⟩
   ·rcases hz.2.2 with⟨hv,hn⟩|⟨b,cap,cur,hv,_⟩
    ·exact .inl ⟨hv,List.eq_nil_of_length_eq_zero hn⟩
    ·exact .inr ⟨b,cap,hv⟩
   ·simpa using hy
  have:=hi2.put (some k) (v:=.slz k e sh xs (some (dz k)) 0 c e2 bC []) (u:=u) ht;rw[show(s.put (some k) .any).put (some k) (.slz k e sh xs (some (dz k)) 0 c e2 bC [])=s.put (some k) (.slz k e sh xs (some (dz k)) 0 c e2 bC []) by simp[St.put],show(a.put (some k) u).put (some k) u=a.put (some k) u by simp[Act.put]] at this;rw[Oper.upon_value];rw[hk1] at hk⊢;exact hk _ _ _ this ⟨u,rfl⟩
 |appz L e sh xs i c e2 bC=>
  obtain⟨v0,u,w',l,Oy,hu,hgr,hG0,hz,hE,hub,hk0,hlk⟩:=hd;obtain⟨k,hk1,hk2,hk3,hk4,rfl⟩:=hr;rw[hu];have hkH:k<HL:=by unfold dz at hk4;omega
  have hrow: ∀b,v0.ownBlock=some b→B.ok L b:=by
   intro b hb;rcases(h.own.1 L v0 e sh.length Oy).2 with hv|⟨b',n,cap,cur,l,hv,hB',_⟩
   ·rw[hv] at hb;cases hb
   ·rw[hv] at hb;simp[Value.ownBlock] at hb;subst hb;exact hB'
  have hother: ∀L' v e' sz b,(if L'=L then none else g.O L')=some (v,e',sz)→v.ownBlock=some b→b<w.heap.size∧some b≠v0.ownBlock:=by
   intro L' v e' sz b hL' hb;split at hL'
   ·cases hL'
   ·rename_i hne
    refine⟨xg h.gok h.own hL' hb,fun e1=>hne ?_⟩;exact h.own.2 L' L v v0 _ _ _ _ b hL' Oy hb e1.symm
  have hbox: ∀j cs b,au (s.kill L).bx j=some cs→g.β j=some b→b<w.heap.size∧some b≠v0.ownBlock:=by
   intro j cs b hj hβ;rw[nV] at hj
   cases hq9:au s.bx j with
   |none=>rw[hq9] at hj;cases hj
   |some ds=>
    obtain⟨b',_,_,p1,_,p3,_⟩:=h.bxs.1 j ds hq9;rw[hβ] at p1;simp only[Option.some.injEq] at p1;subst p1;exact⟨(Array.getElem?_eq_some_iff.1 p3).1,fun e1=>h.zb j ds L v0 e sh.length b hq9 Oy e1.symm hβ⟩
  have h1:=(h.kill L).grow hgr hG0 (fun L' v e' sz b hL' hb=>(hother L' v e' sz b hL' hb).2) (fun j cs b hj hb=>(hbox j cs b hj hb).2) (fun b hb=>(hrow b hb).1);have hz':wZ g.G w' (B.ok (fo true L k)) e sh.length xs.length u l:=by
   refine⟨hz.1,hz.2.1,hz.2.2.imp id ?_⟩;rintro⟨b,cap,cur,hv,hb,rest⟩;exact⟨b,cap,cur,hv,⟨hb.1,fun hlt=>hb.2 (Ei hkH hlt)⟩,rest⟩
  obtain⟨g1,hg1,hi1,ho1,hc1,_⟩:=h1.XB (d:=fo true L k) (e:=e) (sh:=sh) (xs:=xs) (u:=u) (l:=l) hk2 hz' (by
   intro L' v e' sz b hL' _ hb Lj;obtain⟨q1,q2⟩:=hother L' v e' sz b hL' hb;rcases hub with hub|hub
   ·rw[Lj] at hub;exact q2 hub
   ·have:=hub b Lj;omega) (by
   intro j cs b hj Lj hβ;obtain⟨q1,q2⟩:=hbox j cs b hj hβ;rcases hub with hub|hub
   ·rw[Lj] at hub;exact q2 hub
   ·have:=hub b Lj;omega)
  obtain⟨g2,hg2,hi2,hs2,hx2⟩:=hi1.Pq (d:=dz k) (e:=e2) (sh:=bC) (xs:=[]) (u:=.slice none 0 0) hk3 ⟨hk0,.inl ⟨rfl,rfl⟩⟩ (by intro L v e' sz b _ _ _ hq;cases hq);have hkd:fo true L k≠dz k:=by
   unfold fo dz;rw[Bool.true_and];unfold dz at hk4
   cases Nat.ble HL L
   ·show k≠k+500000000;omega
   ·show HL+k≠k+500000000;unfold HL;omega
  have ht:aI g2 (.slz (fo true L k) e sh xs (some (dz k)) i c e2 bC []) u:=by
   refine mY.2 ⟨l,(hx2 _ hkd).1.trans ho1,(hx2 _ hkd).2.trans hc1,⟨?_,hz.2.1,by rw[hg2,hg1];exact hE⟩,_,hs2.1,hs2.2,fun y h0 hy=>hlk y h0 hy⟩;rcases hz.2.2 with⟨hv,hn⟩|⟨b,cap,cur,hv,_⟩
   ·exact .inl ⟨hv,List.eq_nil_of_length_eq_zero hn⟩
   ·exact .inr ⟨b,cap,hv⟩
  have:=hi2.put (some k) (v:=.slz (fo true L k) e sh xs (some (dz k)) i c e2 bC []) (u:=u) ht;rw[Oper.upon_value];rw[hk1] at hk⊢;exact hk _ _ _ this ⟨u,rfl⟩
 |DN L e sh xs i c L3 e2 bC ys=>
  obtain⟨v0,b,cur,l,u,h1,h2,h3,h4,h5,h6,h7,h8,h9,hu⟩:=hd;have e1:s'=(s.Af L e sh xs i c L3 e2 bC ys).put o.dst (.tup []):=hr;subst e1;rw[hu];obtain⟨g',hi⟩:=h.DN h1 h2 h3 h4 h5 h7 h8 h9;exact hk g' _ _ (hi.put o.dst (v:=.tup []) (u:=undef) ⟨[],rfl,.nil⟩) ⟨_,rfl⟩
def jU (ops:List Oper) (s:St) (o:Oper):Option Bool:=
 match o.guard with
 |none=>some true
 |some (j,want)=>match ops[j]? with
  |none=>none
  |some oj=>match oj.dst with
   |none=>none
   |some d=>match slot s.fr d with
    | .bool b=>some (b==want)
    | .tup []=>some false
    |_=>none
theorem RV (h:PW (aI g) s.fr a.tmps.toList) {d:Nat} {x:V} (hx:slot s.fr d=x) (hne:x≠.any):d<s.fr.length∧ ∃u,a.tmps[d]? =some u∧aI g x u:=by
 unfold slot at hx;have hd:d<s.fr.length:=by
  refine Nat.lt_of_not_le fun hle=>hne ?_
  rw[←hx,List.getD_eq_getElem?_getD,List.getElem?_eq_none hle];rfl
 obtain⟨u,hu,ht⟩:=h.get (getD_some hd);rw[hx] at ht;exact⟨hd,u,by simpa using hu,ht⟩
theorem eT {ops:Array Oper} (h:PW (aI g) s.fr a.tmps.toList) {b:Bool} (hw:jU ops.toList s o=some b):Region.wanted o (yielded ops a.tmps)=b:=by
 unfold jU at hw;unfold Region.wanted;split at hw
 ·rename_i hg
  rw[hg];simp only[Option.some.injEq] at hw;exact hw
 ·rename_i j want hg
  rw[hg];simp only;split at hw
  ·cases hw
  ·rename_i oj hoj
   split at hw
   ·cases hw
   ·rename_i d hd
    have TE:ops[j]? =some oj:=by simpa using hoj
    split at hw
    ·rename_i c hc
     obtain⟨_,u,hu,ht⟩:=RV h hc (by intro e;cases e);rw[dh] at ht;subst ht;simp only[Option.some.injEq] at hw;subst hw;simp[yielded,TE,hd,hu]
    ·rename_i hc
     obtain⟨_,u,hu,ht⟩:=RV h hc (by intro e;cases e);obtain⟨us,rfl,hp⟩:=ht;simp only[Option.some.injEq] at hw;subst hw;simp[yielded,TE,hd,hu]
    ·cases hw
def uW (E:Env) (ops:List Oper) (bx:Option (List (Nat×List V))) (s:St) (o:Oper) (s':St):Prop:=
 (jU ops s o=some true∧ ∃eff,CR E s.fr (match bx with|some b=>b|none=>s.bx) o=some (true,eff)∧(bx.isSome&&Jn eff)=false∧Eh E bx.isSome s o.dst eff s')∨(jU ops s o=some false∧s'=s.put o.dst (.tup []))
inductive Trace (E:Env) (ops:List Oper) (bx:Option (List (Nat×List V))):List Oper→St→St→Prop
 |nil (s:St):Trace E ops bx [] s s
 |cons {o:Oper} {l:List Oper} {s s1 s':St} (h:uW E ops bx s o s1) (t:Trace E ops bx l s1 s'):Trace E ops bx (o::l) s s'
theorem ko {α:Type} {c:Bool} {x y:Option α} {r:α} (h:sel c x y=some r):(c=true∧x=some r)∨(c=false∧y=some r):=by
 cases c
 ·exact .inr ⟨rfl,h⟩
 ·exact .inl ⟨rfl,h⟩
theorem YP {fr:List V} {d:Nat} {x:V} (h:slot fr d=x):fr.set d x=fr:=by
 by_cases hd:d<fr.length
 ·unfold slot at h
  rw[List.getD_eq_getElem?_getD,List.getElem?_eq_getElem hd] at h;simp only[Option.getD_some] at h;rw[←h];exact List.set_getElem_self hd
 ·exact List.set_eq_of_length_le (by omega)
theorem Ih {β:Type}: ∀(l:List V) (k:List V→β),Jo l k=k l
 |[],_=>rfl
 |v::l,k=>by unfold Jo;exact Ih l _
theorem WX {α:Type} (K:St→Option α):pf K=K:=by
 funext s
 unfold pf;rw[Ih]
inductive xh (E:Env) (ops:List Oper):List Oper→St→V→St→Prop
 |here {o:Oper} {l:List Oper} {s s':St} {eff:Eff} {v:V} (hw:jU ops s o=some true) (ho:CR E s.fr s.bx o=some (true,eff)) (h:Jv E s eff v s'):xh E ops (o::l) s v s'
 |next {o:Oper} {l:List Oper} {s s1 s':St} {v:V} (h:uW E ops none s o s1) (t:xh E ops l s1 v s'):xh E ops (o::l) s v s'
theorem YQ {α:Type} {call:Caller α} (hc:lu E call) {bx:Option (List (Nat×List V))} {K:St→Option α} {KP:V→St→Option α} {r:α} (h:Wu E call bx o s K KP=some r):
  (∃eff s',(CR E s.fr (match bx with|some b=>b|none=>s.bx) o=some (true,eff)∧(bx.isSome&&Jn eff)=false∧Eh E bx.isSome s o.dst eff s')∧K s'=some r)∨
  (bx=none∧ ∃eff v s',CR E s.fr s.bx o=some (true,eff)∧Jv E s eff v s'∧KP v s'=some r):=by
 unfold Wu at h;split at h
 ·cases h
 ·rename_i c eff ho
  cases hb:bx.isSome&&Jn eff with
  |true=>rw[hb] at h;cases h
  |false=>
  rw[hb,cond_false] at h;rcases ko h with⟨rfl,h⟩|⟨_,h⟩
  ·rcases YJ hc h with⟨s',h1,h2⟩|⟨h0,v,s',h1,h2⟩
   ·exact .inl ⟨eff,s',⟨ho,hb,h1⟩,h2⟩
   ·cases bx with
    |some b=>cases h0
    |none=>exact .inr ⟨rfl,eff,v,s',ho,h1,h2⟩
  ·cases h
theorem gu {α:Type} {call:Caller α} (hc:lu E call) {ops:List Oper} {bx:Option (List (Nat×List V))} {KP:V→St→Option α}: ∀(l:List Oper) (s:St) (K:St→Option α) (r:α),mQ E call ops bx KP l s K=some r→
  (∃s',Trace E ops bx l s s'∧K s'=some r)∨(bx=none∧ ∃v s',xh E ops l s v s'∧KP v s'=some r)
 |[],s,K,r,h=> .inl ⟨s,.nil s,h⟩
 |o::l,s,K,r,h=>by
  have skip: ∀(hw:jU ops s o=some false),mQ E call ops bx KP l (s.put o.dst (.tup [])) K=some r→(∃s',Trace E ops bx (o::l) s s'∧K s'=some r)∨(bx=none∧ ∃v s',xh E ops (o::l) s v s'∧KP v s'=some r):=by
   intro hw h;rcases gu hc l _ K r h with⟨s',h4,h5⟩|⟨hb,v,s',h4,h5⟩
   ·exact .inl ⟨s',.cons (.inr ⟨hw,rfl⟩) h4,h5⟩
   ·subst hb
    exact .inr ⟨rfl,v,s',.next (.inr ⟨hw,rfl⟩) h4,h5⟩
  have take: ∀(hw:jU ops s o=some true),Wu E call bx o s (fun s=>mQ E call ops bx KP l s K) KP=some r→(∃s',Trace E ops bx (o::l) s s'∧K s'=some r)∨(bx=none∧ ∃v s',xh E ops (o::l) s v s'∧KP v s'=some r):=by
   intro hw h;rcases YQ hc h with⟨eff,s1,h1,h3⟩|⟨hb,eff,v,s',h1,h2,h3⟩
   ·rcases gu hc l s1 K r h3 with⟨s',h4,h5⟩|⟨hb,v,s',h4,h5⟩
    ·exact .inl ⟨s',.cons (.inl ⟨hw,eff,h1⟩) h4,h5⟩
    ·subst hb
     exact .inr ⟨rfl,v,s',.next (.inl ⟨hw,eff,h1⟩) h4,h5⟩
   ·subst hb
    exact .inr ⟨rfl,v,s',.here hw h1 h2,h3⟩
  unfold mQ at h;simp only[WX] at h;split at h
  ·rename_i hg
   exact take (by unfold jU;rw[hg]) h
  ·rename_i j want hg
   unfold Xr at h;split at h
   ·cases h
   ·rename_i oj hoj
    split at h
    ·cases h
    ·rename_i d hd
     split at h
     ·rename_i b hb
      have hs: ∀c,b=c→(⟨s.fr.set d (.bool c),s.bx⟩:St)=s:=by
       intro c e;subst e;rw[YP hb]
      rcases ko h with⟨hbt,h⟩|⟨hbt,h⟩
      ·rw[hs true hbt] at h
       cases want with
       |true=>exact take (by unfold jU;simp[hg,hoj,hd,hb,hbt]) h
       |false=>exact skip (by unfold jU;simp[hg,hoj,hd,hb,hbt]) h
      ·rw[hs false hbt] at h
       cases want with
       |true=>exact skip (by unfold jU;simp[hg,hoj,hd,hb,hbt]) h
       |false=>exact take (by unfold jU;simp[hg,hoj,hd,hb,hbt]) h
     ·rename_i hb
      exact skip (by unfold jU;simp[hg,hoj,hd,hb]) h
     ·cases h
theorem oJ (hE:sO E) {ops:Array Oper} {Q:Exit→Act→World→Prop}: ∀(l:List Oper) (i:Nat) (s s':St) (g:Gh) (a:Act) (w:World),ops.toList.drop i=l→Trace E ops.toList none l s s'→Inv E B G0 w0 s g a w→
  (∀g' a' w',Inv E B G0 w0 s' g' a' w'→Q .normal a' w')→wpOps E.P ops Q (List.range' i l.length) a w
 |[],i,s,s',g,a,w,hd,ht,h,hk=>by
  cases ht;exact hk g a w h
 |o::l,i,s,s',g,a,w,hd,ht,h,hk=>by
  cases ht with
  |cons hs ht=>
   rename_i s1;have hi:ops[i]? =some o:=by
    have:=congrArg (fun l=>l[0]?) hd;simpa using this
   have hd':ops.toList.drop (i+1)=l:=by
    rw[←List.drop_drop,hd];rfl
   rw[List.length_cons,List.range'_succ];unfold wpOps;rw[hi];simp only;rcases hs with⟨hw,eff,ho,_,hr⟩|⟨hw,rfl⟩
   ·rw[if_pos (eT h.fr hw)]
    refine .inl ?_;have hdo:=jQ (ac:=a) (B:=B) (w:=w) (g:=g) hE rfl h.gok h.own h.bxs h.hB h.m1 (fun y=>dW h.fr h.mU y) ho;exact uV h hdo (fun _ _ h=>h) (fun _=>rfl) hr fun g' a' w' h' _=>oJ hE l (i+1) s1 s' g' a' w' hd' ht h' hk
   ·rw[if_neg (by rw[eT h.fr hw];decide)]
    exact oJ hE l (i+1) _ s' g _ w hd' ht (h.put o.dst (v:=.tup []) (u:=undef) ⟨[],rfl,.nil⟩) hk
theorem qH (hE:sO E) {ops:Array Oper} {Q:Exit→Act→World→Prop} {v:V}: ∀(l:List Oper) (i:Nat) (s s':St) (g:Gh) (a:Act) (w:World),ops.toList.drop i=l→xh E ops.toList l s v s'→Inv E B G0 w0 s g a w→
  (∀g' a' w' u,Inv E B G0 w0 s' g' a' w'→bR v=some u→Q (.panic [{v:=u,recovered:=false}]) a' w')→wpOps E.P ops Q (List.range' i l.length) a w
 |[],i,s,s',g,a,w,hd,ht,h,hk=>by cases ht
 |o::l,i,s,s',g,a,w,hd,ht,h,hk=>by
  have hi:ops[i]? =some o:=by
   have:=congrArg (fun l=>l[0]?) hd;simpa using this
  have hd':ops.toList.drop (i+1)=l:=by
   rw[←List.drop_drop,hd];rfl
  rw[List.length_cons,List.range'_succ];unfold wpOps;rw[hi];simp only
  cases ht with
  |here hw ho hp=>
   rw[if_pos (eT h.fr hw)];refine .inl ?_;have hdo:=jQ (ac:=a) (B:=B) (w:=w) (g:=g) hE rfl h.gok h.own h.bxs h.hB h.m1 (fun y=>dW h.fr h.mU y) ho;exact eff_pan h hdo hp fun g' w' u h' hu=>hk g' a w' u h' hu
  |next hs ht=>
   rename_i s1;rcases hs with⟨hw,eff,ho,_,hr⟩|⟨hw,rfl⟩
   ·rw[if_pos (eT h.fr hw)]
    refine .inl ?_;have hdo:=jQ (ac:=a) (B:=B) (w:=w) (g:=g) hE rfl h.gok h.own h.bxs h.hB h.m1 (fun y=>dW h.fr h.mU y) ho;exact uV h hdo (fun _ _ h=>h) (fun _=>rfl) hr fun g' a' w' h' _=>qH hE l (i+1) s1 s' g' a' w' hd' ht h' hk
   ·rw[if_neg (by rw[eT h.fr hw];decide)]
    exact qH hE l (i+1) _ s' g _ w hd' ht (h.put o.dst (v:=.tup []) (u:=undef) ⟨[],rfl,.nil⟩) hk
end
structure pI where
 d:Nat
 v:V
 bx:Option (List V)
def pI.app (c:pI) (s:St):St:=⟨s.fr.set c.d c.v,match c.bx with|some cs=>(c.d,cs)::s.bx|none=>s.bx⟩
def aW (sel:Nat→Bool):List pI→Nat→St→St
 |[],_,s=>s
 |c::l,k,s=>aW sel l (k+1) (if sel k=true then c.app s else s)
structure Alike (s s':St):Prop where
 fr:s.fr=s'.fr
 bx: ∀k,au s.bx k=au s'.bx k
theorem Alike.refl (s:St):Alike s s:=⟨rfl,fun _=>rfl⟩
theorem Alike.trans {a b c:St} (h:Alike a b) (k:Alike b c):Alike a c:=⟨h.fr.trans k.fr,fun j=>(h.bx j).trans (k.bx j)⟩
theorem Alike.app {a b:St} (h:Alike a b) (c:pI):Alike (c.app a) (c.app b):=by
 refine⟨by simp[pI.app,h.fr],fun k=>?_⟩;unfold pI.app
 cases c.bx with
 |none=>exact h.bx k
 |some cs=>simp only[au];rw[h.bx k]
theorem Alike.comm (s:St) {c c':pI} (h:c.d≠c'.d):Alike (c.app (c'.app s)) (c'.app (c.app s)):=by
 refine⟨by simp[pI.app,List.set_comm _ _ (fun e=>h e.symm)],fun k=>?_⟩;unfold pI.app
 cases hb:c.bx<;>cases hb':c'.bx<;>simp only[au]
 by_cases h1:c.d=k
 ·have e1:(c.d==k)=true:=by simpa using h1
  have e2:(c'.d==k)=false:=by rw[beq_eq_false_iff_ne];intro e;exact h (h1.trans e.symm)
  rw[e1,e2];rfl
 ·have e1:(c.d==k)=false:=by simpa using h1
  rw[e1];rfl
theorem Cf (sel:Nat→Bool): ∀(l:List pI) (k:Nat) (s s':St),Alike s s'→Alike (aW sel l k s) (aW sel l k s')
 |[],_,_,_,h=>h
 |c::l,k,s,s',h=>by
  unfold aW;refine Cf sel l (k+1) _ _ ?_;split
  ·exact h.app c
  ·exact h
theorem Ii (sel:Nat→Bool) (c:pI): ∀(l:List pI) (k:Nat) (s:St),(∀c'∈l,c'.d≠c.d)→Alike (c.app (aW sel l k s)) (aW sel l k (c.app s))
 |[],_,_,_=> .refl _
 |c'::l,k,s,h=>by
  unfold aW;refine(Ii sel c l (k+1) _ fun x hx=>h x (List.mem_cons_of_mem _ hx)).trans (Cf sel l (k+1) _ _ ?_);split
  ·exact Alike.comm s fun e=>h c' List.mem_cons_self e.symm
  ·exact .refl _
theorem jE (sel O1:Nat→Bool): ∀(l:List pI) (k:Nat) (s:St),(∀i,k≤i→i<k+l.length→sel i=O1 i)→aW sel l k s=aW O1 l k s
 |[],_,_,_=>rfl
 |c::l,k,s,h=>by
  unfold aW;rw[h k (Nat.le_refl _) (by simp)];exact jE sel O1 l (k+1) _ fun i h1 h2=>h i (by omega) (by simp;omega)
theorem xN (sel:Nat→Bool) (i:Nat): ∀(l:List pI) (k:Nat) (s:St) (c:pI),k≤i→l[i-k]? =some c→sel i=false→(l.map (·.d)).Nodup→
  Alike (c.app (aW sel l k s)) (aW (fun j=>if j=i then true else sel j) l k s)
 |[],k,s,c,hk,hc,_,_=>by simp at hc
 |c'::l,k,s,c,hk,hc,hs,hn=>by
  simp only[List.map_cons,List.nodup_cons] at hn;by_cases e:i=k
  ·subst e
   simp only[Nat.sub_self,List.getElem?_cons_zero,Option.some.injEq] at hc;subst hc;unfold aW;rw[hs,if_neg (by decide),if_pos rfl,if_pos rfl];refine(Ii sel c' l (i+1) s fun x hx e=>hn.1 (e▸List.mem_map_of_mem hx)).trans ?_;rw[jE sel (fun j=>if j=i then true else sel j) l (i+1) _ fun j h1 _=>by
    have:j≠i:=by omega
    simp[this]]
   exact .refl _
  ·unfold aW
   have e2: ¬k=i:=fun h=>e h.symm
   rw[if_neg e2];refine xN sel i l (k+1) _ c (by omega) ?_ hs hn.2;rw[show i-k=(i-(k+1))+1 by omega] at hc;simpa using hc
theorem Ij (sel:Nat→Bool): ∀(l:List pI) (k:Nat) (s:St),(aW sel l k s).fr.length=s.fr.length
 |[],_,_=>rfl
 |c::l,k,s=>by
  unfold aW;rw[Ij sel l (k+1)];split
  ·simp[pI.app]
  ·rfl
theorem Cg {fr:List V} {d t:Nat} {v:V} (h:t≠d):slot (fr.set d v) t=slot fr t:=by
 unfold slot;rw[List.getD_eq_getElem?_getD,List.getD_eq_getElem?_getD,List.getElem?_set_ne (fun e=>h e.symm)]
theorem NC {fr:List V} {d:Nat} {v:V} (h:d<fr.length):slot (fr.set d v) d=v:=by
 unfold slot;rw[List.getD_eq_getElem?_getD,List.getElem?_set_self h];rfl
theorem iK (sel:Nat→Bool) (t:Nat): ∀(l:List pI) (k:Nat) (s:St),(∀c∈l,c.d≠t)→slot (aW sel l k s).fr t=slot s.fr t
 |[],_,_,_=>rfl
 |c::l,k,s,h=>by
  unfold aW;rw[iK sel t l (k+1) _ fun x hx=>h x (List.mem_cons_of_mem _ hx)];split
  ·exact Cg fun e=>h c List.mem_cons_self e.symm
  ·rfl
theorem kP (sel:Nat→Bool) (j:Nat): ∀(l:List pI) (k:Nat) (s:St) (c:pI),k≤j→l[j-k]? =some c→(l.map (·.d)).Nodup→c.d<s.fr.length→slot (aW sel l k s).fr c.d=if sel j=true then c.v else slot s.fr c.d
 |[],k,s,c,hk,hc,_,_=>by simp at hc
 |c'::l,k,s,c,hk,hc,hn,hd=>by
  simp only[List.map_cons,List.nodup_cons] at hn;unfold aW;by_cases e:j=k
  ·subst e
   simp only[Nat.sub_self,List.getElem?_cons_zero,Option.some.injEq] at hc;subst hc;rw[iK sel c'.d l (j+1) _ fun x hx e=>hn.1 (e▸List.mem_map_of_mem hx)];split
   ·exact NC hd
   ·rfl
  ·rw[show j-k=(j-(k+1))+1 by omega] at hc
   have hc':l[j-(k+1)]? =some c:=by simpa using hc
   rw[kP sel j l (k+1) _ c (by omega) hc' hn.2 (by split<;>simpa[pI.app] using hd)];split
   ·rfl
   ·split
    ·refine Cg fun e2=>hn.1 ?_
     rw[←e2];exact List.mem_map_of_mem (List.mem_of_getElem? hc')
    ·rfl
section
variable {E:Env} {B:Own} {G0:aM} {w0:World}
theorem Inv.alike {s s':St} {g:Gh} {a:Act} {w:World} (h:Inv E B G0 w0 s g a w) (k:Alike s s'):Inv E B G0 w0 s' g a w:=
 ⟨by rw[←k.fr];exact h.fr,h.df,h.gok,h.own,⟨fun j cs hj=>h.bxs.1 j cs ((k.bx j).trans hj),fun j j' cs cs' hj hj'=>h.bxs.2 j j' cs cs' ((k.bx j).trans hj) ((k.bx j').trans hj')⟩,h.kX,h.hB,h.ext,h.glob,h.g1,fun j cs L v e sz b hj=>h.zb j cs L v e sz b ((k.bx j).trans hj)⟩
end
theorem Up {P:Program} {r r':Operand→V} {bx:List (Nat×List V)} {o:Oper} (h: ∀x∈o.op.operands.toList,r x=r' x):Ox P r bx o=Ox P r' bx o:=by
 have hmap: ∀l:List Operand,(∀x∈l,r x=r' x)→l.map r=l.map r':=fun l hl=>List.map_congr_left hl
 unfold Ox;simp only
 cases ho:o.op with
 |move x=>simp only;rw[h x (by simp[ho,Op.operands])]
 |assign x=>simp only;rw[h x (by simp[ho,Op.operands])]
 |pick c x y=>simp only;rw[h c (by simp[ho,Op.operands]),h x (by simp[ho,Op.operands]),h y (by simp[ho,Op.operands])]
 |alloc t=>rfl
 |box t x=>simp only;rw[h x (by simp[ho,Op.operands])]
 |build t parts=>
  simp only;have:(parts.toList.map fun(i,x)=>(i,r x))=parts.toList.map fun(i,x)=>(i,r' x):=by
   refine List.map_congr_left fun p hp=>?_
   obtain⟨i,x⟩:=p;simp only;rw[h x (by rw[ho];simp only[Op.operands];simp;exact⟨i,by simpa using hp⟩)]
  rw[this]
 |buildSlice t n parts=>
  simp only;have:(parts.toList.map fun(i,x)=>(i,r x))=parts.toList.map fun(i,x)=>(i,r' x):=by
   refine List.map_congr_left fun p hp=>?_
   obtain⟨i,x⟩:=p;simp only;rw[h x (by rw[ho];simp only[Op.operands];simp;exact⟨i,by simpa using hp⟩)]
  rw[this]
 |load t x=>simp only;rw[h x (by simp[ho,Op.operands])]
 |store t x y=>simp only;rw[h x (by simp[ho,Op.operands]),h y (by simp[ho,Op.operands])]
 |nilCheck x=>simp only;rw[h x (by simp[ho,Op.operands])]
 |binOp op t x y yt=>simp only;rw[h x (by simp[ho,Op.operands]),h y (by simp[ho,Op.operands])]
 |makeInterface t x=>simp only;rw[h x (by simp[ho,Op.operands])]
 |typeAssert x xt t b=>
  cases b with
  |true=>simp only;rw[h x (by simp[ho,Op.operands])]
  |false=>rfl
 |panic x=>simp only;rw[h x (by simp[ho,Op.operands])]
 |unOp op t x=>simp only;rw[h x (by simp[ho,Op.operands])]
 |convert src dst x=>simp only;rw[h x (by simp[ho,Op.operands])]
 |makeFunc fn first bG=>
  cases fn with
  |func f=>
   simp only;rw[hmap bG.toList fun x hx=>h x (by rw[ho];simp only[Op.operands];simp;right;simpa using hx),hmap first.toList fun x hx=>h x (by rw[ho];simp only[Op.operands];simp;left;simpa using hx)]
  |_=>rfl
 |makeSlice t l c=>simp only;rw[h l (by simp[ho,Op.operands]),h c (by simp[ho,Op.operands])]
 |slice t x lo hi mx=>
  cases mx with
  |some m=>rfl
  |none=>
   simp only;rw[h x (by simp[ho,Op.operands])];have h1:lo.map r=lo.map r':=by
    cases lo with
    |none=>rfl
    |some y=>simp only[Option.map_some];rw[h y (by simp[ho,Op.operands])]
   have h2:hi.map r=hi.map r':=by
    cases hi with
    |none=>rfl
    |some y=>simp only[Option.map_some];rw[h y (by simp[ho,Op.operands])]
   rw[h1,h2]
 |fieldAddr t x f=>simp only;rw[h x (by simp[ho,Op.operands])]
 |field t x f=>simp only;rw[h x (by simp[ho,Op.operands])]
 |indexAddr t x i=>simp only;rw[h x (by simp[ho,Op.operands]),h i (by simp[ho,Op.operands])]
 |index t x i=>simp only;rw[h x (by simp[ho,Op.operands]),h i (by simp[ho,Op.operands])]
 |extract x i=>simp only;rw[h x (by simp[ho,Op.operands])]
 |call c=>
  obtain⟨callee,args,ts⟩:=c;have hargs: ∀x∈args.toList,r x=r' x:=fun x hx=>h x (by rw[ho];cases callee<;>simp only[Op.operands,Call.operands]<;>simp<;>(try right)<;>simpa using hx)
  cases callee with
  |value f=>
   simp only;rw[h f (by rw[ho];simp[Op.operands,Call.operands]),hmap args.toList hargs]
  |invoke q m=>rfl
  |builtin b=>
   simp only;have two: ∀(f:V→V→F3),(match args.toList with|[x,y]=>f (r x) (r y)|_=>none)=(match args.toList with|[x,y]=>f (r' x) (r' y)|_=>none):=by
    intro f
    cases hl:args.toList with
    |nil=>rfl
    |cons x l=>
     cases l with
     |nil=>rfl
     |cons y l=>
      cases l with
      |nil=>simp only;rw[hargs x (by rw[hl];simp),hargs y (by rw[hl];simp)]
      |cons z l=>rfl
   cases b<;>simp only
   ·
    cases hl:args.toList with
    |nil=>rfl
    |cons x l=>
     cases l with
     |nil=>rfl
     |cons y l=>
      cases l with
      |nil=>simp only;rw[hargs x (by rw[hl];simp),hargs y (by rw[hl];simp)]
      |cons z l=>rfl
   ·
    cases hl:args.toList with
    |nil=>cases ts.toList with
     |nil=>rfl
     |cons t ts=>cases ts<;>rfl
    |cons x l=>
     cases l with
     |nil=>
      cases ts.toList with
      |nil=>rfl
      |cons t ts=>
       cases ts with
       |nil=>simp only;rw[hargs x (by rw[hl];simp)]
       |cons u ts=>rfl
     |cons y l=>cases ts.toList with
      |nil=>rfl
      |cons t ts=>cases ts<;>rfl
   ·
    cases hl:args.toList with
    |nil=>cases ts.toList with
     |nil=>rfl
     |cons t ts=>cases ts<;>rfl
    |cons x l=>
     cases l with
     |nil=>
      cases ts.toList with
      |nil=>rfl
      |cons t ts=>
       cases ts with
       |nil=>simp only;rw[hargs x (by rw[hl];simp)]
       |cons u ts=>rfl
     |cons y l=>cases ts.toList with
      |nil=>rfl
      |cons t ts=>cases ts<;>rfl
   ·exact two (uR true)
   ·exact two (uR false)
 |_=>rfl
theorem A7 {E:Env} {fr fr':List V} {bx:List (Nat×List V)} {o:Oper} (h: ∀x∈o.op.operands.toList,mP E fr x=mP E fr' x):CR E fr bx o=CR E fr' bx o:=by
 unfold CR;simp only;have e: ∀f:V→V,∀bx:List (Nat×List V),Ox E.P (fun x=>f (mP E fr x)) bx o=Ox E.P (fun x=>f (mP E fr' x)) bx o:=fun f bx=>Up fun x hx=>by rw[h x hx]
 have a:(o.op.operands.toList.any fun x=>(mP E fr x).LB)=o.op.operands.toList.any fun x=>(mP E fr' x).LB:=by
  rw[Bool.eq_iff_iff,List.any_eq_true,List.any_eq_true];constructor
  ·rintro⟨x,hx,hq⟩;exact⟨x,hx,by rw[←h x hx];exact hq⟩
  ·rintro⟨x,hx,hq⟩;exact⟨x,hx,by rw[h x hx];exact hq⟩
 rw[a,e V.old0 [],e V.BB bx,e (fun x=>x) bx]
theorem xO {E:Env} {fr fr':List V} {l:List Operand} (h: ∀t∈tmpsOf l,slot fr t=slot fr' t): ∀x∈l,mP E fr x=mP E fr' x:=by
 intro x hx
 cases x with
 |tmp t=>exact h t (by unfold tmpsOf;rw[List.mem_filterMap];exact⟨_,hx,rfl⟩)
 |_=>rfl
section
variable {E:Env} {B:Own} {G0:aM} {w0:World}
theorem Inv.drew {s:St} {g:Gh} {a:Act} {w:World} (h:Inv E B G0 w0 s g a w):Inv E B G0 w0 s g a {w with drawn:=w.drawn+1}:=
 ⟨h.fr,h.df,h.gok,h.own,h.bxs,⟨⟨h.kX.kX.os,h.kX.kX.tape,h.kX.kX.output,h.kX.kX.size,h.kX.kX.block⟩,h.kX.row⟩,h.hB,h.ext,h.glob,h.g1,h.zb⟩
theorem YR {ops:List Oper} {bx:List (Nat×List V)} {s s':St} {o:Oper} {d:Nat} (hd:o.dst=some d) (h:uW E ops (some bx) s o s'):
  ∃c:pI,c.d=d∧s'=c.app s∧ ∀S:St,jU ops S o=jU ops s o→CR E S.fr bx o=CR E s.fr bx o→S.bu d=true→S.lN d=true→uW E ops (some bx) S o (c.app S):=by
 rcases h with⟨hw,eff,ho,hbad,hr⟩|⟨hw,rfl⟩
 ·simp only[Option.isSome_some,Bool.true_and] at hbad
  have fin: ∀c:pI,c.d=d→s'=c.app s→(∀S:St,S.bu d=true→S.lN d=true→Eh E true S o.dst eff (c.app S))→_:=fun c h1 h2 h3=>
   (⟨c,h1,h2,fun S hw' ho' hl hb=> .inl ⟨hw'.trans hw,eff,ho'.trans ho,by simpa using hbad,h3 S hl hb⟩⟩: ∃c:pI,c.d=d∧s'=c.app s∧ ∀S:St,jU ops S o=jU ops s o→CR E S.fr bx o=CR E s.fr bx o→S.bu d=true→S.lN d=true→uW E ops (some bx) S o (c.app S))
  rw[hd] at hr fin
  cases eff with
  |val v=>exact fin ⟨d,v,none⟩ rfl hr fun S _ _=>rfl
  |newSl e sh xs=>exact fin ⟨d,.sl e sh none xs,none⟩ rfl hr fun S _ _=>rfl
  |own e sh xs=>
   obtain⟨k,hk,_,hlt,rfl⟩:=hr;simp only[Option.some.injEq] at hk;subst hk;exact fin ⟨d,.sl e sh (some d) xs,none⟩ rfl rfl fun S hl _=>⟨d,rfl,Nz hl,hlt,rfl⟩
  |app L e sh xs=>cases hbad
  |nG e cs=>
   obtain⟨k,hk,_,hcs,hlt,rfl⟩:=hr;simp only[Option.some.injEq] at hk;subst hk;exact fin ⟨d,.box d 0,some cs⟩ rfl rfl fun S _ hb=>⟨d,rfl,hb,hcs,hlt,rfl⟩
  |put k off cs=>cases hbad
  |call f args mb ml=>
   rcases hr with⟨hbx,hr⟩|⟨h0,_⟩|⟨h0,_⟩
   ·rcases hr with⟨k,r,hk,_,hlt,hc,rfl⟩|⟨r,hk,_⟩
    ·simp only[Option.some.injEq] at hk
     subst hk;exact fin ⟨d,r.LC d,none⟩ rfl rfl fun S hl _=> .inl ⟨hbx,.inl ⟨d,r,rfl,hl,hlt,hc,rfl⟩⟩
    ·cases hk
   ·cases h0
   ·cases h0
  |nX v=>exact hr.elim
  |pick b x y=>
   cases b with
   |true=>exact fin ⟨d,x,none⟩ rfl hr fun S _ _=>rfl
   |false=>exact fin ⟨d,y,none⟩ rfl hr fun S _ _=>rfl
  |DL L e k ys=>cases hbad
  |ownz e sh xs c e2 bC=>cases hbad
  |appz L e sh xs i c e2 bC=>cases hbad
  |DN L e sh xs i c L3 e2 bC ys=>cases hbad
  |alts i vs=>
   obtain⟨j,v,h1,h2,rfl⟩:=hr;exact fin ⟨d,v,none⟩ rfl rfl fun S _ _=>⟨j,v,h1,h2,rfl⟩
 ·rw[hd]
  exact⟨⟨d,.tup [],none⟩,rfl,rfl,fun S hw' _ _ _=> .inr ⟨hw'.trans hw,by rw[hd];rfl⟩⟩
theorem xP {ops:List Oper} {bx:List (Nat×List V)}: ∀(l:List Oper) (s s':St),(∀o∈l,∃d,o.dst=some d)→Trace E ops (some bx) l s s'→
  ∃cs:List pI,cs.length=l.length∧(∀(i:Nat) o c,l[i]? =some o→cs[i]? =some c→o.dst=some c.d∧
   ∃si,Alike si (aW (fun j=>decide (j<i)) cs 0 s)∧si=aW (fun j=>decide (j<i)) cs 0 s∧ ∀S:St,jU ops S o=jU ops si o→CR E S.fr bx o=CR E si.fr bx o→S.bu c.d=true→S.lN c.d=true→uW E ops (some bx) S o (c.app S))∧
   s'=aW (fun _=>true) cs 0 s
 |[],s,s',_,h=>by
  cases h;exact⟨[],rfl,fun i o c h=>by simp at h,rfl⟩
 |o::l,s,s',hd,h=>by
  cases h with
  |cons hs ht=>
   rename_i s1;obtain⟨d,hod⟩:=hd o List.mem_cons_self;obtain⟨c,hcd,rfl,hstep⟩:=YR hod hs;obtain⟨cs,hlen,hcs,hfin⟩:=xP l _ s' (fun x hx=>hd x (List.mem_cons_of_mem _ hx)) ht;have shift: ∀(sel:Nat→Bool) (O1:Nat→Bool) (k:Nat),(∀j,sel (j+1)=O1 j)→ ∀(cs:List pI) (k:Nat) (s:St),aW sel cs (k+1) s=aW O1 cs k s:=by
    intro sel O1 _ hsel cs;induction cs with
    |nil=>intro k s;rfl
    |cons c cs ih=>
     intro k s;unfold aW;rw[hsel k,ih]
   refine⟨c::cs,by simp[hlen],?_,?_⟩
   ·intro i o' c' ho' hc'
    cases i with
    |zero=>
     simp only[List.getElem?_cons_zero,Option.some.injEq] at ho' hc';subst ho';subst hc';have e1:aW (fun j=>decide (j<0)) (c::cs) 0 s=s:=by
      have: ∀(cs:List pI) (k:Nat) (s:St),aW (fun j=>decide (j<0)) cs k s=s:=by
       intro cs;induction cs with
       |nil=>intro k s;rfl
       |cons c cs ih=>intro k s;unfold aW;rw[ih];simp
      exact this _ _ _
     exact⟨by rw[hod,hcd],s,by rw[e1];exact .refl _,e1.symm,by rw[hcd];exact hstep⟩
    |succ i=>
     simp only[List.getElem?_cons_succ] at ho' hc';obtain⟨h1,si,h2,h3,h4⟩:=hcs i o' c' ho' hc';have e1:aW (fun j=>decide (j<i+1)) (c::cs) 0 s=aW (fun j=>decide (j<i)) cs 0 (c.app s):=by
      rw[aW];rw[if_pos (by simp)];exact shift _ _ 0 (fun j=>by simp) cs 0 _
     exact⟨h1,si,by rw[e1];exact h2,by rw[e1];exact h3,h4⟩
   ·rw[hfin,aW,if_pos rfl]
    exact(shift (fun _=>true) (fun _=>true) 0 (fun j=>rfl) cs 0 _).symm
theorem Ik {l:List Nat} (h:l.Nodup) {i j:Nat} (hi:i<l.length) (hj:j<l.length) (e:l[i]=l[j]):i=j:=by
 have hp:=List.pairwise_iff_getElem.1 h;rcases Nat.lt_trichotomy i j with h1|h1|h1
 ·exact absurd e (hp i j hi hj h1)
 ·exact h1
 ·exact absurd e.symm (hp j i hj hi h1)
theorem yM {α:Type} {l:List α} {p:α×Nat→Bool} (h:l.zipIdx.all p=true): ∀(i:Nat) (x:α),l[i]? =some x→p (x,i)=true:=by
 intro i x hx;rw[List.all_eq_true] at h;exact h (x,i) (List.mem_zipIdx_iff_getElem?.2 hx)
def Closed (ops:List Oper) (sel:Nat→Bool):Prop:=∀(j:Nat) o,ops[j]? =some o→sel j=true→ ∀e∈o.after,Region.binds .any e=true→sel e.on=true
theorem jS {ops:List Oper} {sel:Nat→Bool} (hc:Closed ops sel): ∀(n j i:Nat),waits ops n j i=true→sel j=true→sel i=true
 |0,_,_,h,_=>by cases h
 |n+1,j,i,h,hj=>by
  unfold waits at h;split at h
  ·rename_i o ho
   rw[List.any_eq_true] at h;obtain⟨e,he,h⟩:=h;rw[Bool.and_eq_true,Bool.or_eq_true,beq_iff_eq] at h;have h1:=hc j o ho hj e (by simpa using he) h.1;rcases h.2 with h2|h2
   ·rw[←h2];exact h1
   ·exact jS hc n e.on i h2 h1
  ·cases h
theorem zH (sel:Nat→Bool): ∀(l:List pI) (k:Nat) (s:St) (p:Nat×List V),p∈(aW sel l k s).bx→p∈s.bx∨ ∃(j:Nat) (c:pI) (cs:List V),l[j]? =some c∧sel (k+j)=true∧c.bx=some cs∧p=(c.d,cs)
 |[],k,s,p,h=> .inl h
 |c::l,k,s,p,h=>by
  unfold aW at h;rcases zH sel l (k+1) _ p h with h|⟨j,c',cs,h1,h2,h3,h4⟩
  ·split at h
   ·rename_i hk
    unfold pI.app at h
    cases hb:c.bx with
    |none=>rw[hb] at h;exact .inl h
    |some cs=>
     rw[hb] at h;simp only[List.mem_cons] at h;rcases h with rfl|h
     ·exact .inr ⟨0,c,cs,rfl,by simpa using hk,hb,rfl⟩
     ·exact .inl h
   ·exact .inl h
  ·exact .inr ⟨j+1,c',cs,by simpa using h1,by rw[show k+(j+1)=k+1+j by omega];exact h2,h3,h4⟩
theorem KH (l:List pI): ∀(k:Nat) (s:St),(∀p∈s.bx,p∈(aW (fun _=>true) l k s).bx)∧ ∀(j:Nat) (c:pI) (cs:List V),l[j]? =some c→c.bx=some cs→(c.d,cs)∈(aW (fun _=>true) l k s).bx:=by
 induction l with
 |nil=>intro k s;exact⟨fun p h=>h,fun j c cs h=>by simp at h⟩
 |cons c l ih=>
  intro k s;unfold aW;rw[if_pos rfl];obtain⟨h1,h2⟩:=ih (k+1) (c.app s);refine⟨fun p hp=>h1 p ?_,fun j c' cs hj hc=>?_⟩
  ·unfold pI.app
   cases c.bx with
   |none=>exact hp
   |some cs=>exact List.mem_cons_of_mem _ hp
  ·cases j with
   |zero=>
    simp only[List.getElem?_cons_zero,Option.some.injEq] at hj;subst hj;refine h1 _ ?_;unfold pI.app;rw[hc];exact List.mem_cons_self
   |succ j=>exact h2 j c' cs (by simpa using hj) hc
theorem oW {b:Bool} (h:b=false):aG b=true:=by subst h;rfl
theorem Il {ops:List Oper} {s0:St} {cs:List pI} {sel:Nat→Bool} (hlen:cs.length=ops.length) (hcs: ∀(i:Nat) o c,ops[i]? =some o→cs[i]? =some c→o.dst=some c.d) (hn:(cs.map (·.d)).Nodup) (hfr: ∀c∈cs,c.d<s0.fr.length)
  (hst:dH ops s0=true) (hen:jJ ops (aW (fun _=>true) cs 0 s0)=true) (hcl:Closed ops sel) {i:Nat} {c:pI} (hi:cs[i]? =some c) (hsel:sel i=false):
  (aW sel cs 0 s0).bu c.d=true∧(aW sel cs 0 s0).lN c.d=true:=by
 have QZ:i<ops.length:=by rw[←hlen];exact(List.getElem?_eq_some_iff.1 hi).1
 have hoi:=List.getElem?_eq_getElem QZ;have hdi:=hcs i _ c hoi hi;unfold dH at hst;rw[List.all_eq_true] at hst;have hst:=hst _ (List.getElem_mem QZ);rw[hdi] at hst;simp only[Bool.and_eq_true] at hst;obtain⟨hsl,hsb⟩:=hst;unfold jJ at hen;simp only at hen;have hen:=yM hen i _ hoi;simp only[hdi,Bool.and_eq_true] at hen;obtain⟨hen1,hen2⟩:=hen;have hslot: ∀t,t<s0.fr.length→(slot (aW sel cs 0 s0).fr t).dA c.d=false∧(slot (aW sel cs 0 s0).fr t).fV c.d=false:=by
  intro t ht;have h0:(slot s0.fr t).dA c.d=false∧(slot s0.fr t).fV c.d=false:=by
   have hm:slot s0.fr t∈s0.fr:=by
    unfold slot;rw[List.getD_eq_getElem?_getD,List.getElem?_eq_getElem ht];exact List.getElem_mem ht
   exact⟨rD hsl _ hm,EH hsb _ hm⟩
  by_cases hex: ∃cj∈cs,cj.d=t
  ·obtain⟨cj,hm,rfl⟩:=hex
   obtain⟨j,hj⟩:=List.getElem?_of_mem hm;have sJ:j<ops.length:=by rw[←hlen];exact(List.getElem?_eq_some_iff.1 hj).1
   have hoj:=List.getElem?_eq_getElem sJ;rw[kP sel j cs 0 s0 cj (Nat.zero_le _) (by simpa using hj) hn ht];split
   ·rename_i hjs
    have h2:=yM hen1 j _ hoj;simp only[hcs j _ cj hoj hj] at h2;rw[kP (fun _=>true) j cs 0 s0 cj (Nat.zero_le _) (by simpa using hj) hn ht,if_pos rfl] at h2;simp only[Bool.or_eq_true,Bool.and_eq_true,beq_iff_eq] at h2;rcases h2 with(h2|h2)|h2
    ·subst h2;rw[hsel] at hjs;cases hjs
    ·exact⟨fe h2.1,fe h2.2⟩
    ·have:=jS hcl _ _ _ h2 hjs
     rw[hsel] at this;cases this
   ·exact h0
  ·rw[iK sel t cs 0 s0 fun cj hm e=>hex ⟨cj,hm,e⟩]
   exact h0
 have XE: ∀x∈(aW sel cs 0 s0).fr,x.dA c.d=false∧x.fV c.d=false:=by
  intro x hx;obtain⟨t,ht,rfl⟩:=List.getElem_of_mem hx;have h:=hslot t (by rw[Ij] at ht;exact ht);unfold slot at h;rw[List.getD_eq_getElem?_getD,List.getElem?_eq_getElem ht] at h;exact h
 have hbx: ∀p∈(aW sel cs 0 s0).bx,p.1≠c.d∧ ∀x∈p.2,x.dA c.d=false∧x.fV c.d=false:=by
  intro p hp;rcases zH sel cs 0 s0 p hp with hp|⟨j,cj,ds,hj,hjs,hjb,rfl⟩
  ·unfold St.bu at hsl
   unfold St.lN at hsb;simp only[Bool.and_eq_true,List.all_eq_true] at hsl hsb;have h1:=hsl.2 p hp;have h2:=hsb.2 p hp;refine⟨fun e=>?_,fun x hx=>⟨fe (h1 x hx),fe (h2.2 x hx)⟩⟩;have:=fe h2.1;rw[beq_eq_false_iff_ne] at this;exact this e
  ·rw[Nat.zero_add] at hjs
   have hne:cj.d≠c.d:=by
    intro e;have:i=j:=by
     have hil:i<(cs.map (·.d)).length:=by rw[List.length_map];exact(List.getElem?_eq_some_iff.1 hi).1
     have hjl:j<(cs.map (·.d)).length:=by rw[List.length_map];exact(List.getElem?_eq_some_iff.1 hj).1
     refine Ik hn hil hjl ?_;simp only[List.getElem_map];rw[(List.getElem?_eq_some_iff.1 hi).2,(List.getElem?_eq_some_iff.1 hj).2,e]
    subst this;rw[hsel] at hjs;cases hjs
   refine⟨hne,?_⟩;have hm:=(KH cs 0 s0).2 j cj ds hj hjb;rw[List.all_eq_true] at hen2;have h2:=hen2 _ hm;simp only[Bool.or_eq_true,List.all_eq_true,List.any_eq_true,Bool.and_eq_true,beq_iff_eq] at h2;rcases h2 with h2|⟨⟨oj',j'⟩,hm',hd',hw⟩
   ·exact fun x hx=>⟨fe (h2 x hx).1,fe (h2 x hx).2⟩
   ·exfalso
    have TE:=List.mem_zipIdx_iff_getElem?.1 hm';simp only at TE hd' hw;have hj'L:j'<ops.length:=(List.getElem?_eq_some_iff.1 TE).1;have hj'C:j'<cs.length:=by omega
    have hcj':=hcs j' oj' _ TE (List.getElem?_eq_getElem hj'C);rw[hd'] at hcj';simp only[Option.some.injEq] at hcj';have:j=j':=by
     have hjl:j<(cs.map (·.d)).length:=by rw[List.length_map];exact(List.getElem?_eq_some_iff.1 hj).1
     have hj'l:j'<(cs.map (·.d)).length:=by rw[List.length_map];exact hj'C
     refine Ik hn hjl hj'l ?_;simp only[List.getElem_map];rw[(List.getElem?_eq_some_iff.1 hj).2,hcj']
    subst this;have:=jS hcl _ _ _ hw hjs;rw[hsel] at this;cases this
 unfold St.bu St.lN;simp only[Bool.and_eq_true,List.all_eq_true];exact⟨⟨fun x hx=>oW (XE x hx).1,fun p hp x hx=>oW ((hbx p hp).2 x hx).1⟩,⟨fun x hx=>oW (XE x hx).2,fun p hp=>⟨oW (by rw[beq_eq_false_iff_ne];exact(hbx p hp).1),fun x hx=>oW ((hbx p hp).2 x hx).2⟩⟩⟩
end
end Nt.Ev
