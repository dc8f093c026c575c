/-
  A region that draws its order, of whose operations some may be taken first: copies, and slicings of slices.
-/
import Derived.Test.YtknhlobahpgkeaaGreatDoorMB
set_option linter.all false
namespace Nt.Ev
open Go Go.RowKit
section
variable {P:Program} {ops:Array Oper} {Q:Exit→Act→World→Prop}
theorem Ia (p:List Nat):(dn ops p).size=p.length:=by unfold dn;simp
theorem FH {p:List Nat} {k:Nat} (a:k<p.length):(dn ops p)[k]? =some (PI p (ops.getD p[k] default)):=by unfold dn;simp[a]
theorem sJ {i:Nat} {o:Oper} (h:ops[i]? =some o):ops.getD i default=o:=by rw[z8,h];rfl
theorem Lt {p:List Nat} {o:Oper} {e:Edge}:e∈(PI p o).after↔ ∃a∈o.after,a.on∈p∧e={a with on:=p.idxOf a.on}:=by
 unfold PI;constructor
 ·intro h
  simp only[List.mem_toArray,acS,abP,acj] at h;obtain⟨a,⟨c,b⟩,rfl⟩:=h;exact⟨a,c,by simpa using b,rfl⟩
 rintro⟨a,c,b,rfl⟩;simp only[List.mem_toArray,acS,abP,acj];exact⟨a,⟨c,by simpa using b⟩,rfl⟩
theorem Zu (a:Region.Mode) (e:Edge) (n:Nat):Region.binds a {e with on:=n}=Region.binds a e:=rfl
theorem sub_wp (p:List Nat) (o:Oper) (a:Act) (w:World) (K:Act→World→Prop):(PI p o).wp P a w K Q=o.wp P a w K Q:=rfl
theorem sub_asks (p:List Nat) (o:Oper) (a:Act) (w:World):(PI p o).asks P a w=o.asks P a w:=rfl
theorem wY {p:List Nat} {i:Nat} (h:i∈p): ∃a:p.idxOf i<p.length,p[p.idxOf i]=i:=⟨List.idxOf_lt_length_of_mem h,List.getElem_idxOf _⟩
theorem Jb {p:List Nat} (h:KG ops p=true) {i:Nat} {o:Oper} (c:ops[i]? =some o):(∀j b,o.guard=some (j,b)→j∈p)∧ ∀e∈o.after,e.on<ops.size:=by
 unfold KG at h;rw[l8] at h;have a:=h o (by rw[acj];exact abT c);rw[bC,l8] at a;refine⟨fun j b f=>?_,fun e d=>?_⟩
 ·have:=a.1
  rw[f] at this;simpa using this
 exact kz (a.2 e (by simpa using d))
theorem WS {p:List Nat} (W:p.Nodup) (A: ∀i∈p,i<ops.size) (S:KG ops p=true): ∀(fuel:Nat) (f c:Array Bool) (a:Act) (w:World),f.size=ops.size→c.size=p.length→
  (∀i,i<ops.size→i∉p→f.getD i false=true)→(∀(k:Nat) (y:k<p.length) (d:Bool),f.getD p[k] d=c.getD k d)→wpAny P .any (dn ops p) Q fuel c a w→wpAny P .any ops Q fuel f a w:=by
 have C: ∀(f c:Array Bool),f.size=ops.size→c.size=p.length→(∀i,i<ops.size→i∉p→f.getD i false=true)→(∀(k:Nat) (y:k<p.length) (d:Bool),f.getD p[k] d=c.getD k d)→
   (∀i,i∈Region.ready .any ops f→i∈p∧p.idxOf i∈Region.ready .any (dn ops p) c)∧(Region.ready .any ops f=[]→Region.ready .any (dn ops p) c=[]):=by
  intro f c V L F z;refine⟨fun i R=>?_,fun hr=>?_⟩
  ·obtain⟨O,o,x,G⟩:=mem_ready.1 R
   have l:i<ops.size:=(Array.getElem?_eq_some_iff.1 x).1;have m:i∈p:=by
    refine Classical.byContradiction fun hn=>?_
    have:=F i l hn;have J:i<f.size:=by omega
    simp only[z8,Ao J,yT] at O this;rw[O] at this;cases this
   obtain⟨y,r⟩:=wY m;refine⟨m,mem_ready.2 ⟨?_,_,FH y,fun e T Y=>?_⟩⟩
   ·rw[←z _ y,r];exact O
   rw[r,sJ x] at T;obtain⟨e0,X,u,rfl⟩:=Lt.1 T;obtain⟨v,n⟩:=wY u;show c.getD (p.idxOf e0.on) false=true;rw[←z _ v,n];exact G e0 X (by rwa [Zu] at Y)
  refine List.eq_nil_iff_forall_not_mem.2 fun k y=>?_
  obtain⟨O,o',B,G⟩:=mem_ready.1 y;have s:k<p.length:=by have:=(Array.getElem?_eq_some_iff.1 B).1;rwa [Ia] at this
  rw[FH s] at B;simp only[aR] at B;subst B;have l:p[k]<ops.size:=A _ (Ga s);have x:ops[p[k]]? =some (ops[p[k]]'l):=by simp[l]
  have:p[k]∈Region.ready .any ops f:=by
   refine mem_ready.2 ⟨by rw[z k s];exact O,_,x,fun e T Y=>?_⟩;by_cases u:e.on∈p
   ·obtain⟨v,n⟩:=wY u
    have:=G {e with on:=p.idxOf e.on} (by rw[sJ x];exact Lt.2 ⟨e,T,u,rfl⟩) Y;have J:=z _ v false;rw[n] at J;rw[J];exact this
   exact F _ ((Jb S x).2 e T) u
  rw[hr] at this
  cases this
 have N: ∀(i:Nat) (K K':Act→World→Prop) (a:Act) (w:World),i∈p→(∀a w,K' a w→K a w)→wpOp P (dn ops p) Q (p.idxOf i) K' a w→wpOp P ops Q i K a w:=by
  intro i K K' a w m hK h;obtain⟨y,r⟩:=wY m;have l:=A i m;have x:ops[i]? =some (ops[i]'l):=by simp[l]
  unfold wpOp at h⊢;rw[FH y,r,sJ x] at h;rw[x];simp only at h⊢;have hw:Region.wanted (PI p (ops[i]'l)) (yielded (dn ops p) a.tmps)=Region.wanted (ops[i]'l) (yielded ops a.tmps):=by
   unfold Region.wanted;have hg:(PI p (ops[i]'l)).guard=(ops[i]'l).guard.map fun g=>(p.idxOf g.1,g.2):=rfl
   rw[hg]
   cases Z:(ops[i]'l).guard with
   |none=>rfl
   |some g=>
    obtain⟨j,b⟩:=g;have t:=(Jb S x).1 j b Z;obtain⟨v,n⟩:=wY t;have M:=A j t;have U:ops[j]? =some (ops[j]'M):=by simp[M]
    have:yielded (dn ops p) a.tmps (p.idxOf j)=yielded ops a.tmps j:=by unfold yielded;rw[FH v,n,sJ U,U];rfl
    simp only[xR,this]
  rw[hw] at h;split at h
  ·rename_i I
   rw[if_pos I];rw[sub_wp,sub_asks] at h;exact h.imp (Oper.wp_mono hK) id
  rename_i I;rw[if_neg I];exact hK _ _ h
 intro fuel;induction fuel with
 |zero=>
  intro f c a w V L F z h;refine⟨?_,h.2⟩;refine List.eq_nil_iff_forall_not_mem.2 fun i R=>?_
  have:=((C f c V L F z).1 i R).2;rw[h.1] at this
  cases this
 |succ fuel ih=>
  intro f c a w V L F z h;obtain⟨r1,r2⟩:=C f c V L F z;refine⟨fun hr=>h.1 (r2 hr),fun i R=>?_⟩;obtain⟨m,y⟩:=r1 i R;obtain⟨s,r⟩:=wY m;refine N i _ _ a w m (fun a w hq=>?_) (h.2 _ y);refine ih _ _ a w (by simpa using V) (by simpa using L) (fun j hj t=>?_) (fun k E d=>?_) hq
  ·have D:i≠j:=fun e=>t (e▸m)
   rw[getD_set_ne false D];exact F j hj t
  by_cases e:p[k]=i
  ·have H:p.idxOf i=k:=by
    refine Classical.byContradiction fun D=>?_
    have h7:p[p.idxOf i]=p[k]:=by rw[r,e]
    rcases Nat.lt_or_gt_of_ne D with h8|h8
    ·exact List.pairwise_iff_getElem.1 W _ _ s E h8 h7
    exact List.pairwise_iff_getElem.1 W _ _ E s h8 h7.symm
   rw[e,H];have l:=A i m;have J:i<f.size:=by omega
   have h6:k<c.size:=by omega
   simp[J,h6]
  have H:p.idxOf i≠k:=fun e2=>e (by subst e2;exact r)
  rw[getD_set_ne d (fun q=>e q.symm),getD_set_ne d H];exact z k E d
def jC {α:Type} (P:Program) (m:Sem α):Prop:=∀w v w',m.run P w=.ok v w'→w'=w∧ ∀a,m.run P a=.ok v a
theorem dF {α:Type} (v:α):jC P (pure v:Sem α):=by intro w a w' h;simp only[Sem.run_pure,Result.ok.injEq] at h;obtain⟨rfl,rfl⟩:=h;exact⟨rfl,fun b=>by simp only[Sem.run_pure]⟩
theorem eY {α β:Type} {m:Sem α} {k:α→Sem β} (g:jC P m) (d: ∀v,jC P (k v)):jC P (m>>= k):=by
 intro w v w' h;rw[Sem.run_bind] at h
 cases b:m.run P w with
 |ok u a=>rw[b,Result.andThen_ok] at h;obtain⟨rfl,e⟩:=g w u a b;obtain⟨rfl,f⟩:=d u a v w' h;exact⟨rfl,fun c=>by rw[Sem.run_bind,e c,Result.andThen_ok];exact f c⟩
 |halt x a=>rw[b] at h;cases h
theorem qR {α:Type} {m:Sem α} (h: ∀w v w',m.run P w≠.ok v w'):jC P m:=fun w v w' e=>absurd e (h w v w')
theorem JB (t:TypeId):jC P (typeInfo t):=by
 intro w v w' h
 cases a:P.info? t with
 |some d=>
  have e: ∀w,(typeInfo t).run P w=.ok d w:=fun w=>by simp[typeInfo,a]
  rw[e] at h;simp only[Result.ok.injEq] at h;obtain⟨rfl,rfl⟩:=h;exact⟨rfl,e⟩
 |none=>exfalso;unfold typeInfo at h;simp[a] at h
theorem OP (t:TypeId):jC P (Go.sizeOf t):=by unfold Go.sizeOf;exact eY (JB t) fun v=>dF _
theorem Ka (x:Value):jC P (asIntOf x):=by
 unfold asIntOf;split
 ·exact dF _
 ·exact qR fun w v w' h=>by simp[unsupported] at h
 exact qR fun w v w' h=>by simp[stuck] at h
theorem zO {α β:Type} {m:Sem α} {k:α→Sem β} (h: ∀u w v w',(k u).run P w≠.ok v w'): ∀w v w',(m>>= k).run P w≠.ok v w':=by
 intro w v w' e;rw[Sem.run_bind] at e
 cases a:m.run P w with
 |ok u b=>rw[a,Result.andThen_ok] at e;exact h u b v w' e
 |halt x b=>rw[a] at e;cases e
theorem OQ {α:Type} (k:IntKind) (x y:Int) (c:BoundsCode) (w:World) (v:α) (w':World):(boundsPanic k x y c:Sem α).run P w≠.ok v w':=by
 have a: ∀(s:Bool) (w:World) (v:α) (w':World),(runtimePanic (.bounds (IntKind.i64.wrap x) y s c):Sem α).run P w≠.ok v w':=fun s w v w'=>by unfold runtimePanic;exact zO (fun p w v w' h=>by simp[goPanic] at h) w v w'
 unfold boundsPanic;simp only;split
 ·exact zO (fun u w v w'=>a u w v w') w v w'
 exact zO (fun u w v w'=>a u w v w') w v w'
theorem Ez (x:Value) (y:Nat) (c:BoundsCode):jC P (Instr.sliceBound x y c):=by
 unfold Instr.sliceBound;refine eY (Ka x) fun v=>?_
 obtain⟨k,i⟩:=v;simp only;split
 ·exact dF _
 exact qR (OQ k i y c)
theorem OT (b:Bool) (len cap:Nat) (a c:Option Value):jC P (Instr.sliceBounds b len cap a c none):=by
 unfold Instr.sliceBounds;refine eY (dF _) fun m=>?_
 have hL: ∀h:Nat,jC P (match a with
   |some v=>do let l←Instr.sliceBound v h (if(none:Option Value).isSome=true then BoundsCode.slice3C else BoundsCode.sliceB);pure (l,h,m)
   |none=>do let l←pure 0;pure (l,h,m):Sem (Nat×Nat×Nat)):=fun h=>by
  cases a with
  |none=>exact eY (dF _) fun l=>dF _
  |some v=>exact eY (Ez _ _ _) fun l=>dF _
 cases c with
 |none=>exact eY (dF _) fun h=>hL h
 |some v=>exact eY (Ez _ _ _) fun h=>hL h
theorem R4 {t e:TypeId} (f:P.underlying t=some (.slice e)) (x:Value) (d b:Option Value):jC P (Instr.sliceAt t x d b none):=by
 have g: ∀w,(Instr.sliceAt t x d b none).run P w=(Instr.slice t x d b none).run P w:=fun w=>by simp[Instr.sliceAt,run_underlying f]
 have o:jC P (Instr.slice t x d b none):=by
  unfold Instr.slice;intro w v w' h;simp only[Sem.run_bind,run_underlying f,Result.andThen_ok] at h⊢;split at h
  ·exact nomatch ‹TypeDesc.slice e=TypeDesc.string›
  ·rename_i c a len cap p
   have k:jC P (do let (l,h,m)←Instr.sliceBounds true len cap d b none;let size←Go.sizeOf c;pure (Value.slice (if m=l then a else a.map (·.add (l*size))) (h-l) (m-l))):=
    eY (OT _ _ _ _ _) fun v=>eY (OP _) fun s=>dF _
   exact k w v w' h
  ·exact nomatch ‹TypeDesc.slice e=TypeDesc.pointer _›
  simp[stuck] at h
 intro w v w' h;rw[g] at h;obtain⟨j,i⟩:=o w v w' h;exact⟨j,fun n=>by rw[g];exact i n⟩
theorem UZ (x:Value):jC P (Instr.sureAddr x):=by
 unfold Instr.sureAddr;split
 ·exact dF _
 exact qR fun w v w' h=>by simp[stuck] at h
theorem R5 {t:TypeId} {f:Nat} (c:fldNZ P t f=true) (x:Value):jC P (Instr.fieldAt t x f):=by
 unfold fldNZ at c;split at c
 ·rename_i r n
  split at c
  ·rename_i d k
   split at c
   ·rename_i i o
    have g:i.size≠0:=by simpa using c
    have e: ∀(a:Addr) w,(fieldPlace a d).run P w=.ok (a.add d.offset) w:=fun a w=>by simp[fieldPlace,Go.sizeOf,typeInfo,o,g]
    have q:jC P (do let a←Instr.sureAddr x;pure (Value.pointer (some (←fieldPlace a d)))):=by
     refine eY (UZ x) fun a=>eY ?_ fun b=>dF _
     intro w v w' h;rw[e a w] at h;simp only[Result.ok.injEq] at h;obtain⟨rfl,rfl⟩:=h;exact⟨rfl,fun j=>e a j⟩
    intro w v w' h;have l: ∀w,(Instr.fieldAt t x f).run P w=(do let a←Instr.sureAddr x;pure (Value.pointer (some (←fieldPlace a d))):Sem Value).run P w:=fun w=>by unfold Instr.fieldAt;simp only[Sem.run_bind,run_underlying n,Result.andThen_ok,k]
    rw[l] at h;obtain⟨p,m⟩:=q w v w' h;exact⟨p,fun j=>by rw[l];exact m j⟩
   cases c
  cases c
 cases c
def nilOkV:V→Bool
 | .eptr _ _ _ _ _ _=>true
 | .epz _ _ _ _ _=>true
 | .rptr _ _ _=>true
 | .box _ _=>true
 |_=>false
theorem NG {g:Gh} {X:V} {u:Value} (d:nilOkV X=true) (h:aT g X u): ∃a,u=.pointer (some a):=by
 cases X with
 |eptr L e sh xs i off=>obtain⟨_,b,_,_,_,_,_,c⟩:=mJ.1 h;exact⟨_,c⟩
 |epz L e f i off=>obtain⟨_,b,_,_,_,_,_,_,c⟩:=pI.1 h;exact⟨_,c⟩
 |rptr sh x off=>obtain⟨b,q,l,c,_⟩:=iW.1 h;exact⟨_,c⟩
 |box k off=>obtain⟨b,_,c⟩:=dV.1 h;exact⟨_,c⟩
 |_=>cases d
theorem NH {P:Program} {r:Operand→V} {bx:List (Nat×ah)} {o:Oper} {x:Operand} {a:Bool×Eff} (b:o.op=.nilCheck x) (h:Tq P r bx o=some a):nilOkV (r x)=true:=by
 unfold Tq at h;rw[b] at h;simp only at h
 cases c:r x<;>rw[c] at h<;>first|rfl|cases h
theorem opR_nil {E:Env} {fr:ah} {bx:List (Nat×ah)} {o:Oper} {x:Operand} {b:Bool×Eff} {g:Gh} {ac:Act} (d:o.op=.nilCheck x) (e: ∀y,aT g (lH E fr y) (ac.eval y)) (h:JJ E fr bx o=some b): ∃a,ac.eval x=.pointer (some a):=by
 have j:D6 E fr o=none:=by unfold D6;rw[d]
 unfold JJ at h;rw[j] at h;simp only at h
 cases i:o.op.operands.toList.any fun x=>(lH E fr x).PV with
 |false=>rw[i] at h;exact NG (NH d h) (e x)
 |true=>
  rw[i,lm] at h;have f:Tq E.P (fun x=>(lH E fr x).D3) bx o=some b→ ∃a,ac.eval x=.pointer (some a):=fun h=>NG (NH d h) (zD (e x))
  split at h
  ·rename_i c v k
   exact NG (NH d k) (KW (e x))
  exact f h
theorem R6 {o:Oper} (h:AZ P o=true) {ρ:Operand→Value} (d: ∀x,o.op=.nilCheck x→ ∃a,ρ x=.pointer (some a)) {w w':World} {u:Value} (j:(execOp ρ o).run P w=.ok (.value u) w'): ∀i,(execOp ρ o).run P i=.ok (.value u) i:=by
 unfold AZ at h;rw[bC,bC] at h;have c:=h.1.1;have l:jC P (execOp ρ o):=by
  split at c
  ·rename_i x b
   have:execOp ρ o=pure (.value (ρ x)):=by simp only[execOp,b]
   rw[this];exact dF _
  ·rename_i x b
   obtain⟨a,n⟩:=d x b;have:execOp ρ o=pure (.value (.pointer (some a))):=by simp only[execOp,b,n]
   rw[this];exact dF _
  ·rename_i t x p m b
   have:execOp ρ o=(do pure (.value (←Instr.sliceAt t (ρ x) (p.map ρ) (m.map ρ) none))):=by simp only[execOp,b,Option.map_none]
   rw[this];unfold isSlT at c;split at c
   ·rename_i e k
    exact eY (R4 k _ _ _) fun v=>dF _
   cases c
  ·rename_i fn first g b
   have:execOp ρ o=(do pure (.value (←Instr.makeFunc fn (first.map ρ) (g.map ρ)))):=by simp only[execOp,b]
   rw[this];exact eY (by unfold Instr.makeFunc;exact dF _) fun v=>dF _
  ·rename_i t x f b
   have:execOp ρ o=(do pure (.value (←Instr.fieldAt t (ρ x) f))):=by simp only[execOp,b]
   rw[this];exact eY (R5 c _) fun v=>dF _
  cases c
 exact(l w _ w' j).2
end
section
variable {E:Env} {B:Own} {G0:aU} {w0:World}
theorem R7 {n:Nat} {ops:List Oper} (h:zm n ops=true): ∀(i:Nat) o,ops[i]? =some o→(∃d,o.dst=some d∧d<n)∧(∀(j:Nat) a,ops[j]? =some a→i≠j→o.dst≠a.dst)∧(∀e∈o.after.toList,Region.binds .any e=true→e.on<i)∧
  (∀t∈CO o,∀(j:Nat) a,ops[j]? =some a→a.dst=some t→j<i∧ ∃e∈o.after.toList,Region.binds .any e=true∧e.on=j)∧(∀j b,o.guard=some (j,b)→j<i∧ ∃e∈o.after.toList,Region.binds .any e=true∧e.on=j):=by
 intro i o v;unfold zm at h;simp only at h;have h:=A9 h i o v;simp only[bC] at h;obtain⟨⟨⟨⟨p,w⟩,s⟩,u⟩,r⟩:=h;refine⟨?_,fun j a m k=>?_,fun e c y=>?_,fun t x j a m f=>?_,fun j b z=>?_⟩
 ·split at p
  ·rename_i d f;exact⟨d,f,by simpa[Gb] using p⟩
  cases p
 ·have:=A9 w j a m
  simp only[JR,iM,acM,ne_eq] at this;exact this.resolve_left k
 ·rw[l8] at s
  have:=s e c;rw[y] at this;simpa[Gb] using this
 ·rw[l8] at u
  have:=A9 (u t x) j a m;simp only[JR,acM,ne_eq,bC,Mt,iM,Gb] at this;rcases this with h|⟨l,e,c,q,g⟩
  ·exact absurd f h
  exact⟨l,e,c,q,g⟩
 rw[z] at r;simp only[bC,Mt,iM,Gb] at r;obtain⟨l,e,c,q,g⟩:=r;exact⟨l,e,c,q,g⟩
theorem R8 {ops:List Oper} {s e:St} {o:Oper} (h: ∀j a b d,o.guard=some (j,a)→ops[j]? =some b→b.dst=some d→slot s.fr d=slot e.fr d):kC ops s o=kC ops e o:=by
 unfold kC;split
 ·rfl
 rename_i j a g;split
 ·rfl
 rename_i b c;split
 ·rfl
 rename_i d f;rw[h j a b d g c f]
theorem take_get {l:List Oper} {m i:Nat} {o:Oper} (h:(l.take m)[i]? =some o):l[i]? =some o∧i<m:=by
 rw[SY] at h;split at h
 ·exact⟨h,by assumption⟩
 cases h
theorem Ib {l:List Oper} {m i:Nat} {o:Oper} (h:l[i]? =some o) (a:i<m):(l.take m)[i]? =some o:=by rw[SY,if_pos a];exact h
theorem Ic: ∀(m l:List Nat) (x:Nat),x∈addN l m→x∈l∨x∈m
 |[],l,x,h=> .inl h
 |a::m,l,x,h=>by
  unfold addN at h
  cases b:l.contains a with
  |true=>rw[b,lm] at h;exact(Ic m l x h).imp id (wN _)
  |false=>
   rw[b,jW] at h;rcases Ic m _ x h with h|h
   ·rcases List.mem_cons.1 h with rfl|h
    ·exact .inr uY
    exact .inl h
   exact .inr (wN _ h)
theorem jU {o:Oper} {x:Nat} (h:x∈jk o): ∃e∈o.after.toList,Region.binds .any e=true∧e.on=x:=by unfold jk at h;obtain⟨e,a,rfl⟩:=List.mem_map.1 h;rw[abP] at a;exact⟨e,a.1,a.2,rfl⟩
theorem U0 {c b:Bool} (h:(bif c then b else false)=true):c=true∧b=true:=by cases c<;>first|exact⟨rfl,h⟩|cases h
theorem Dq: ∀(l:List Nat) (k:List Nat→Bool),GU l k=k l
 |[],_=>rfl
 |a::l,k=>by unfold GU;exact Dq l _
theorem Jc {ops:List Oper}: ∀(n j i k:Nat) (o:Oper),waits ops n j i=true→ops[i]? =some o→k∈jk o→ ∃b,waits ops b j k=true
 |0,j,i,k,o,h,_,_=>by cases h
 |n+1,j,i,k,o,h,f,l=>by
  unfold waits at h;split at h
  ·rename_i r a
   simp only[Mt,bC,JR,iM] at h;obtain⟨e,m,g,h⟩:=h;rcases h with h|h
   ·obtain⟨q,c,d,rfl⟩:=jU l
    refine⟨2,?_⟩;unfold waits;rw[a];simp only[Mt,bC,JR,iM];refine⟨e,m,g,.inr ?_⟩;unfold waits;rw[h,f];simp only[Mt,bC,JR,iM];exact⟨q,c,d,.inl rfl⟩
   obtain⟨b,p⟩:=Jc n e.on i k o h f l;refine⟨b+1,?_⟩;unfold waits;rw[a];simp only[Mt,bC,JR,iM];exact⟨e,m,g,.inr p⟩
  cases h
theorem EA {ops:List Oper} {j:Nat}: ∀(n:Nat) (S:List Nat),M3 ops n S=true→(∀x∈S,∃k,waits ops k j x=true)→ ∀i,i<n→ ∃k,waits ops k j i=true
 |0,S,_,_,i,g=>by omega
 |n+1,S,h,d,i,g=>by
  unfold M3 at h;obtain⟨m,b⟩:=U0 h;have c: ∃k,waits ops k j n=true:=d n (by simpa using m);rw[Dq] at b;by_cases e:i=n
  ·subst e;exact c
  refine EA n _ b (fun x a=>?_) i (by omega);rcases Ic _ _ _ a with a|a
  ·exact d x a
  obtain⟨k,l⟩:=c;split at a
  ·rename_i o f;exact Jc k j n x o l f a
  cases a
theorem EB {ops:List Oper}: ∀(n m:Nat),M5 ops m n=true→ ∀j,m≤j→j<m+n→AY ops j=true
 |0,m,_,j,b,a=>by omega
 |n+1,m,h,j,b,a=>by
  unfold M5 at h;rw[bC] at h;by_cases e:j=m
  ·subst e;exact h.1
  exact EB n (m+1) h.2 j (by omega) (by omega)
theorem uo {ops:List Oper} {m:Nat} (h:sG ops m=true): ∀(j:Nat) o,ops[j]? =some o→m≤j→(∀e∈o.after.toList,Region.binds .any e=true→e.on<j)∧ ∀i,i<j→ ∃n,waits ops n j i=true:=by
 intro j o c p;unfold sG at h;have f:j<ops.length:=(List.getElem?_eq_some_iff.1 c).1;have a:=EB _ _ h j p (by omega);unfold AY at a;rw[c] at a;simp only[bC,l8,Dq] at a;refine⟨fun e l g=>kz (a.1 e.on ?_),EA j _ a.2 fun x k=>?_⟩
 ·unfold jk
  exact List.mem_map.2 ⟨e,List.mem_filter.2 ⟨l,g⟩,rfl⟩
 obtain⟨q,b,d,rfl⟩:=jU k;refine⟨1,?_⟩;unfold waits;rw[c];simp only[Mt,bC,JR,iM];exact⟨q,b,d,.inl rfl⟩
theorem tail_any {P:Program} {ops:Array Oper} {Q:Exit→Act→World→Prop} {m:Nat} (D: ∀(j:Nat) o,ops.toList[j]? =some o→m≤j→(∀e∈o.after.toList,Region.binds .any e=true→e.on<j)∧ ∀i,m≤i→i<j→ ∃n,waits ops.toList n j i=true) (O: ∀(j:Nat) o,ops.toList[j]? =some o→ ∀e∈o.after.toList,Region.binds .any e=true→e.on<j): ∀(n k:Nat) (fuel:Nat) (b:Array Bool) (a:Act) (w:World),k+n=ops.size→m≤k→b.size=ops.size→(∀i,i<ops.size→b.getD i false=decide (i<k))→n≤fuel→
  wpOps P ops Q (List.range' k n) a w→wpAny P .any ops Q fuel b a w:=by
 intro n;induction n with
 |zero=>
  intro k fuel b a w H t C g V h;have G:Region.ready .any ops b=[]:=by
   rw[acD];intro i c;obtain⟨y,o,F,_⟩:=mem_ready.1 c;have K:i<ops.size:=(Array.getElem?_eq_some_iff.1 F).1;have r:i<b.size:=by omega
   have d:=g i K;simp only[z8,Ao r,yT] at y d;rw[y] at d;have:=acT d.symm;omega
  cases fuel with
  |zero=>exact⟨G,h⟩
  |succ fuel=>exact⟨fun _=>h,fun i c=>by rw[G] at c;cases c⟩
 |succ n X=>
  intro k fuel b a w H t C g V h
  cases fuel with
  |zero=>omega
  |succ fuel=>
   have E:k<ops.size:=by omega
   have L:ops.toList[k]? =some ops[k]:=by simp[E]
   have l: ∀i,i∈Region.ready .any ops b→i=k:=by
    intro i c;obtain⟨y,o,F,p⟩:=mem_ready.1 c;have K:i<ops.size:=(Array.getElem?_eq_some_iff.1 F).1;have r:i<b.size:=by omega
    have d:=g i K;simp only[z8,Ao r,yT] at y d;rw[y] at d;have S:=acT d.symm;by_cases e:i=k
    ·exact e
    exfalso;have B:ops.toList[i]? =some o:=by simpa using F
    obtain⟨_,T⟩:=D i o B (by omega);obtain⟨Y,J⟩:=T k t (by omega);have N:Closed ops.toList (fun i=>b.getD i false):=by
     intro j U z f x s u;have f:b.getD j false=true:=f;have M:j<ops.size:=by have:=(List.getElem?_eq_some_iff.1 z).1;simpa using this
     rw[g j M] at f;have q:=O j U z x (by simpa using s) u;have I:=Fw f;show b.getD x.on false=true;rw[g x.on (by omega)];simp;omega
    have v: ∀(n:Nat),waits ops.toList n i k=true→b.getD k false=true:=by
     intro n A
     cases n with
     |zero=>cases A
     |succ n=>
      unfold waits at A;rw[B] at A;simp only[Mt,bC,JR,iM] at A;obtain⟨x,s,u,q⟩:=A;have I:=p x (by simpa using s) u;rcases q with q|q
      ·rw[←q];exact I
      exact l7 N n x.on k q I
    have:=v _ J;rw[g k E] at this;have:=Fw this;omega
   refine⟨fun G=>?_,fun i c=>?_⟩
   ·exfalso
    have:k∈Region.ready .any ops b:=by
     have r:k<b.size:=by omega
     have d:=g k E;refine mem_ready.2 ⟨?_,ops[k],by simp[E],fun e W R=>?_⟩
     ·simp only[z8,Ao r,yT] at d⊢
      rw[d];simp
     have q:=(D k _ L t).1 e (by simpa using W) R;rw[g e.on (by omega)];simpa using q
    rw[G] at this;cases this
   obtain rfl:=l i c;rw[ac7,wpOps_cons] at h;refine wpOp_mono (fun a w h=>?_) h;refine X (i+1) fuel _ a w (by omega) (by omega) (by simpa using C) (fun j M=>?_) (by omega) h;by_cases e:j=i
   ·subst e
    have r:j<b.size:=by omega
    simp[r]
   have:(b.setIfInBounds i true).getD j false=b.getD j false:=getD_set_ne false (fun h=>e h.symm);rw[this,g j M];have:(j<i)↔(j<i+1):=by omega
   simp only[this]
theorem U1 {P:Program} {Q:Exit→Act→World→Prop} {o:Oper} {a:Act} {w:World} {K:Act→World→Prop} {x:Operand} {i:Nat} (d:o.op=.extract x i) (h:o.wp P a w K Q):
  ∃v,(∀w,(execOp a.eval o).run P w=.ok (.value v) w)∧K (a.put o.dst v) w:=by
 have e:execOp a.eval o=(do pure (.value (←Instr.extract (a.eval x) i))):=by unfold execOp;simp only[d]
 unfold Oper.wp at h;rw[e] at h⊢;unfold Instr.extract at h⊢
 cases b:a.eval x with
 |tuple vs=>
  rw[b] at h;simp only at h⊢
  cases c:vs[i]? with
  |none=>rw[c] at h;exact False.elim h
  |some v=>rw[c] at h;exact⟨v,fun w=>rfl,h⟩
 |_=>rw[b] at h;exact False.elim h
theorem U2 {ops:Array Oper} {l:Nat} (h:Wk ops l=true): ∃o x i,ops[l]? =some o∧o.op=.extract x i∧o.guard=none∧ ∀(j:Nat) c,ops[j]? =some c→j≠l→(∀e∈o.after,Region.binds .any e=true→e.on≠j)→(∀e∈c.after,Region.binds .any e=true→e.on≠l)→o.apart ops c=true:=by
 unfold Wk at h
 cases r:ops[l]? with
 |none=>rw[r] at h;cases h
 |some o=>
  rw[r] at h;simp only[bC] at h;obtain⟨⟨v,s⟩,t⟩:=h;have k: ∃x i,o.op=.extract x i:=by
   cases n:o.op with
   |extract x i=>exact⟨x,i,rfl⟩
   |_=>rw[n] at v;cases v
  obtain⟨x,i,k⟩:=k;have f:o.guard=none:=by
   cases f:o.guard with
   |none=>rfl
   |some _=>rw[f] at s;cases s
  refine⟨o,x,i,rfl,k,f,fun j c u p d g=>?_⟩;rw[l8] at t;have a:=t j (List.mem_range.2 (Array.getElem?_eq_some_iff.1 u).1);rw[u] at a;simp only[JR,iM,p,false_or,abr] at a;rcases a with(a|a)|a
  ·obtain⟨e,q,m,b⟩:=jU a
   exact absurd b (d e (by simpa using q) m)
  ·obtain⟨e,q,m,b⟩:=jU a
   exact absurd b (g e (by simpa using q) m)
  exact a
theorem Lu (hE:uL E) {ops:Array Oper} {Q:Exit→Act→World→Prop} {q sN:St} {g:Gh} {a:Act} {w:World} {m:Nat} (hok:zm q.fr.length (ops.toList.take m)=true) {late:Nat→Bool}
  (hch: ∀(j:Nat) o,ops.toList[j]? =some o→m≤j→(∀e∈o.after.toList,Region.binds .any e=true→e.on<j)∧ ∀i,i<j→(∃n,waits ops.toList n j i=true)∨late i=true)
  (J: ∀l,late l=true→l<m∧Wk ops l=true∧Region.noSelect ops=true∧ ∀c a d v w,Q (.panic c) (a.put d v) w→Q (.panic c) a w) (T:lI (ops.toList.take m) q=true) (hen:wT (ops.toList.take m) sN=true)
  (ht:Trace E ops.toList (some q.bx) (ops.toList.take m) q sN) (hm:m≤ops.size) (h:Inv E B G0 w0 q g a w) (hk: ∀g' a' w',Inv E B G0 w0 sN g' a' w'→wpOps E.P ops Q (List.range' m (ops.size-m)) a' w'):wpAny E.P .any ops Q ops.size (Array.replicate ops.size false) a {w with drawn:=w.drawn+1}:=by
 have V:=R7 hok;have hlm:(ops.toList.take m).length=m:=by rw[JG];simp;omega
 have hdst: ∀o∈ops.toList.take m,∃d,o.dst=some d:=by intro o I;obtain⟨i,p⟩:=aa5 I;obtain⟨⟨d,hd,_⟩,_⟩:=V i o p;exact⟨d,hd⟩
 obtain⟨r,O,hcs,hfin⟩:=Ja (ops.toList.take m) q sN hdst ht;subst hfin;have D: ∀(i:Nat) o c,(ops.toList.take m)[i]? =some o→r[i]? =some c→o.dst=some c.d:=fun i o c F Y=>(hcs i o c F Y).1
 have hnd:(r.map (·.d)).Nodup:=by
  refine List.pairwise_iff_getElem.2 fun i j p A hij e=>?_
  rw[kJ] at p A;have hiL:i<(ops.toList.take m).length:=by omega
  have H:j<(ops.toList.take m).length:=by omega
  have F:=D i _ _ (iZ hiL) (iZ p);have Y:=D j _ _ (iZ H) (iZ A);simp only[acn] at e;refine(V i _ (iZ hiL)).2.1 j _ (iZ H) (by omega) ?_;rw[F,Y,e]
 have hfr: ∀c∈r,c.d<q.fr.length:=by
  intro c hc;obtain⟨i,p⟩:=aa5 hc;have hiL:i<(ops.toList.take m).length:=by rw[←O];exact(List.getElem?_eq_some_iff.1 p).1
  obtain⟨⟨d,hd,hlt⟩,_⟩:=V i _ (iZ hiL);have:=D i _ c (iZ hiL) p;rw[this] at hd;simp only[aR] at hd;rw[hd];exact hlt
 have hsz:ops.toList.length=ops.size:=by simp
 let sel (f:Array Bool):Nat→Bool:=fun i=>f.getD i false
 have hed: ∀(j:Nat) o,ops.toList[j]? =some o→ ∀e∈o.after.toList,Region.binds .any e=true→e.on<j:=by
  intro j o A;by_cases hjm:j<m
  ·exact(V j o (Ib A hjm)).2.2.1
  exact(hch j o A (by omega)).1
 have key: ∀(fuel:Nat) (f:Array Bool) (g:Gh) (a:Act) (w:World),f.size=ops.size→(f.toList.countP fun b=>!b)≤fuel→(∀i,m≤i→f.getD i false=false)→Closed ops.toList (sel f)→Inv E B G0 w0 (bT (sel f) r 0 q) g a w→wpAny E.P .any ops Q fuel f a w:=by
  have full: ∀(fuel:Nat) (f:Array Bool) (g:Gh) (a:Act) (w:World),f.size=ops.size→(f.toList.countP fun b=>!b)≤fuel→(∀i,m≤i→f.getD i false=false)→(∀i,i<m→f.getD i false=true)→Inv E B G0 w0 (bT (sel f) r 0 q) g a w→wpAny E.P .any ops Q fuel f a w:=by
   intro fuel f g a w L hc M R p;have e1:bT (sel f) r 0 q=bT (fun _=>true) r 0 q:=qQ _ _ r 0 q fun i _ p=>R i (by omega)
   rw[e1] at p;refine tail_any (fun j o I A=>⟨(hch j o I A).1,fun i hmi hij=>((hch j o I A).2 i hij).resolve_right fun hl=>by have:=(J i hl).1;omega⟩) hed (ops.size-m) m fuel f a w (by omega) (lg _) L (fun i p=>?_) ?_ (hk g a w p)
   ·by_cases C:i<m
    ·rw[R i C];simp[C]
    rw[M i (by omega)];simp[C]
   refine Cr ?_ hc;have F:(f.toList.drop m).countP (fun b=>!b)=(f.toList.drop m).length:=by
    rw[List.countP_eq_length];intro b N;obtain⟨i,p⟩:=aa5 N;rw[Tk] at p;have Y:=M (m+i) (by omega);have h3:f[m+i]? =some b:=by simpa using p
    rw[z8,h3,yT] at Y;rw[Y];rfl
   have Y:(f.toList.drop m).countP (fun b=>!b)≤f.toList.countP fun b=>!b:=List.Sublist.countP_le (List.drop_sublist _ _)
   rw[F,Tn,Kq,L] at Y;exact Y
  intro fuel;induction fuel with
  |zero=>
   intro f g a w L hc M hcl p;refine full 0 f g a w L hc M (fun i C=>?_) p;have U:i<f.size:=by omega
   cases hq:f.getD i false with
   |true=>rfl
   |false=>
    exfalso;have h0:f[i]=false:=by simpa only[z8,Ao U,yT] using hq
    have:0<f.toList.countP fun b=>!b:=List.countP_pos_iff.2 ⟨f[i],by simp,by rw[h0];rfl⟩
    omega
  |succ fuel ih=>
   intro f g a w L hc M hcl p;by_cases K: ∀i,i<m→f.getD i false=true
   ·exact full (fuel+1) f g a w L hc M K p
   have stepO: ∀i,i∈Region.ready .any ops f→i<m→ ∃o,ops[i]? =some o∧((Region.wanted o (yielded ops a.tmps)=true∧o.wp E.P a w (wpAny E.P .any ops Q fuel (f.setIfInBounds i true)) Q)∨(Region.wanted o (yielded ops a.tmps)=false∧wpAny E.P .any ops Q fuel (f.setIfInBounds i true) (a.put o.dst undef) w)):=by
    intro i C Z;obtain⟨h0,o,I,z⟩:=mem_ready.1 C;have hi':i<ops.size:=(Array.getElem?_eq_some_iff.1 I).1;have U:i<f.size:=by omega
    have h0':f[i]=false:=by simpa only[z8,Ao U,yT] using h0
    have hsel:sel f i=false:=by show f.getD i false=false;simp only[z8,Ao U,yT,h0']
    have hoL:ops.toList[i]? =some o:=by simpa using I
    have hoI:=Ib hoL Z;have hiC:i<r.length:=by omega
    have hci:r[i]? =some r[i]:=iZ hiC;generalize r[i]=c at hci;obtain⟨hod,si,_,hsi,hstep⟩:=hcs i o c hoI hci;have hspi:=V i o hoI;have hlook: ∀t,(∀(j:Nat) o',(ops.toList.take m)[j]? =some o'→o'.dst=some t→j<i∧ ∃e∈o.after.toList,Region.binds .any e=true∧e.on=j)→slot (bT (sel f) r 0 q).fr t=slot si.fr t:=by
     intro t htr;rw[hsi];by_cases hex: ∃X∈r,X.d=t
     ·obtain⟨X,hm,rfl⟩:=hex
      obtain⟨j,A⟩:=aa5 hm;have H:j<(ops.toList.take m).length:=by rw[←O];exact(List.getElem?_eq_some_iff.1 A).1
      have hdj:=D j _ X (iZ H) A;obtain⟨hlt,e,he,N,heq⟩:=htr j _ (iZ H) hdj;have W:sel f j=true:=by rw[←heq];exact z e (by simpa using he) N
      rw[pZ (sel f) j r 0 q X (JS _) (by simpa using A) hnd (hfr X hm),pZ (fun k=>decide (k<i)) j r 0 q X (JS _) (by simpa using A) hnd (hfr X hm),if_pos W,if_pos (by simpa using hlt)]
     rw[nP _ t r 0 q fun X hm e=>hex ⟨X,hm,e⟩,nP _ t r 0 q fun X hm e=>hex ⟨X,hm,e⟩]
    have hclI:Closed (ops.toList.take m) (sel f):=fun j oj G=>hcl j oj (take_get G).1
    obtain⟨hnl,hnb⟩:=Zt O D hnd hfr T hen hclI hci hsel;have hst':=hstep (bT (sel f) r 0 q) (R8 fun j want oj d hg G hd=>hlook d fun j' o' hj' hd'=>by
      have:j'=j:=by
       by_cases e:j'=j
       ·exact e
       exact absurd (hd'.trans hd.symm) ((V j' o' hj').2.1 j oj (Ib G (by have:=(hspi.2.2.2.2 j want hg).1;omega)) e)
      subst this;exact hspi.2.2.2.2 j' want hg) (Zs (UY fun t htm=>hlook t (hspi.2.2.2.1 t htm))) hnl hnb
    have halike:Alike (c.app (bT (sel f) r 0 q)) (bT (sel (f.setIfInBounds i true)) r 0 q):=by
     have F:=I9 (sel f) i r 0 q c (JS _) (by simpa using hci) hsel hnd;have e1:bT (fun j=>if j=i then true else sel f j) r 0 q=bT (sel (f.setIfInBounds i true)) r 0 q:=qQ _ _ r 0 q fun j _ _=>by
      show _=(f.setIfInBounds i true).getD j false;by_cases ej:j=i
      ·subst ej;simp[U]
      rw[if_neg ej,getD_set_ne false (fun h=>ej h.symm)]
     rw[e1] at F;exact F
    have hcl':Closed ops.toList (sel (f.setIfInBounds i true)):=by
     intro j oj G W e he N;have W:(f.setIfInBounds i true).getD j false=true:=W;show(f.setIfInBounds i true).getD e.on false=true;by_cases ej:j=i
     ·subst ej
      rw[hoL] at G;simp only[aR] at G;subst G;exact getD_set_true (z e he N)
     rw[getD_set_ne false (fun h=>ej h.symm)] at W;exact getD_set_true (hcl j oj G W e he N)
    have hcount:(((f.setIfInBounds i true).toList).countP fun b=>!b)≤fuel:=by
     have h5:((f.setIfInBounds i true).toList).countP (fun b=>!b)+1=f.toList.countP fun b=>!b:=by
      rw[abR];have hil:i<f.toList.length:=by simpa using U
      have e1:f.toList=f.toList.take i++f.toList[i]::f.toList.drop (i+1):=by rw[List.getElem_cons_drop,List.take_append_drop]
      have e2:f.toList.set i true=f.toList.take i++true::f.toList.drop (i+1):=by rw[abU,if_pos hil]
      rw[e2];conv=>rhs;rw[e1]
      have e3:f.toList[i]=false:=by simpa using h0'
      rw[e3];simp only[List.countP_append,abD];simp;omega
     omega
    have next: ∀g' a' w',Inv E B G0 w0 (c.app (bT (sel f) r 0 q)) g' a' w'→wpAny E.P .any ops Q fuel (f.setIfInBounds i true) a' w':=fun g' a' w' hi'=>
     ih (f.setIfInBounds i true) g' a' w' (by simpa using L) hcount (fun j A=>by rw[getD_set_ne false (by omega)];exact M j A) hcl' (hi'.alike halike)
    refine⟨o,I,?_⟩;rcases hst' with⟨S,eff,hor,_,hr⟩|⟨S,heq⟩
    ·refine .inl ⟨iE p.fr S,?_⟩
     have hsub: ∀k ds,aJ q.bx k=some ds→aJ (bT (sel f) r 0 q).bx k=some ds:=by
      intro k ds hkd;have: ∀(l:List tC) (m:Nat) (s:St),(∀c∈l,∀x,c.bx=some x→c.d≠k)→aJ s.bx k=some ds→aJ (bT (sel f) l m s).bx k=some ds:=by
       intro l;induction l with
       |nil=>intro m s _ h;exact h
       |cons c l ih=>
        intro m s hne h;unfold bT;refine ih (m+1) _ (fun c' hc'=>hne c' (wN _ hc')) ?_;split
        ·unfold tC.app
         cases N:c.bx with
         |none=>exact h
         |some x=>
          unfold aJ;have:(c.d==k)=false:=by rw[uE];exact hne c uY x N
          rw[this,jW];exact h
        exact h
      refine this r 0 q (fun X hcj x hx e=>?_) hkd;obtain⟨j,A⟩:=aa5 hcj;have H:j<(ops.toList.take m).length:=by rw[←O];exact(List.getElem?_eq_some_iff.1 A).1
      have hdj:=D j _ X (iZ H) A;unfold lI at T;rw[l8] at T;have h6:=T _ (Ga H);rw[hdj] at h6;simp only[bC] at h6;exact(H8 h6.2 k ds hkd).1 e.symm
     have hdo:=mK (ac:=a) (B:=B) (w:=w) (g:=g) (bx:=q.bx) hE rfl p.gok p.own (p.bxs.sub hsub) p.hB p.m1 p.ku (fun y=>gD p.fr p.ku y) hor;exact FF p hdo hsub (fun h=>by cases h) hr fun g' a' w' h' _=>next g' a' w' h'
    refine .inr ⟨iE p.fr S,?_⟩;refine next g _ w ?_;rw[heq];exact p.put o.dst (v:=.tup []) (u:=undef) ⟨[],rfl,.nil⟩
   by_cases hL: ∃l,l∈Region.ready .any ops f∧late l=true
   ·obtain⟨l,hlr,hll⟩:=hL
    obtain⟨hlm',hlb,hns,hQ⟩:=J l hll;obtain⟨ol,x,ix,hol,hox,hog,hap⟩:=U2 hlb;obtain⟨o,I,T⟩:=stepO l hlr hlm';rw[hol] at I;simp only[aR] at I;subst I;rcases T with⟨_,hwp⟩|⟨S,_⟩
    rotate_left
    ·unfold Region.wanted at S;rw[hog] at S;cases S
    obtain⟨v,hv,hK⟩:=U1 hox hwp;refine wpAny_first hol (Region.noSelect_spec hns) (fun c a w=>hQ c a ol.dst v w) fuel f a w (fun j oj A hjl hun hno=>?_) hlr (.inl ⟨by unfold Region.wanted;rw[hog],hv⟩) hK;refine hap j oj A hjl (fun e he N heq=>?_) hno;obtain⟨_,o2,ho2,hal⟩:=mem_ready.1 hlr;rw[hol] at ho2;simp only[aR] at ho2;subst ho2;have F:=hal e he N;rw[heq] at F;have hj4:j<f.size:=by have:=(Array.getElem?_eq_some_iff.1 A).1;omega
    simp only[z8,Ao hj4,yT] at F hun;rw[F] at hun;cases hun
   refine⟨fun hr=>?_,fun i C=>?_⟩
   ·exfalso
    apply K
    have R: ∀i,i<ops.size→f.getD i true=true:=by
     intro i;induction i using Nat.strongRecOn with
     |_ i ih=>
      intro p
      cases hl:f.getD i true with
      |true=>rfl
      |false=>
       have hm:i∈Region.ready .any ops f:=by
        rw[mem_ready];refine⟨hl,ops[i],by simp[p],fun e he N=>?_⟩;have F:=hed i ops[i] (by simp[p]) e (by simpa using he) N;have Y:=ih e.on F (by omega);have U:e.on<f.size:=by omega
        simp only[z8,Ao U,yT] at Y⊢;exact Y
       rw[hr] at hm
       cases hm
    intro i C;have F:=R i (by omega);have U:i<f.size:=by omega
    simp only[z8,Ao U,yT] at F⊢;exact F
   obtain⟨h0,o,I,z⟩:=mem_ready.1 C;have hi':i<ops.size:=(Array.getElem?_eq_some_iff.1 I).1;have U:i<f.size:=by omega
   have h0':f[i]=false:=by simpa only[z8,Ao U,yT] using h0
   have hsel:sel f i=false:=by show f.getD i false=false;simp only[z8,Ao U,yT,h0']
   have hoL:ops.toList[i]? =some o:=by simpa using I
   have Z:i<m:=by
    refine abt fun hmi=>K fun i' hi'm=>?_
    have key2: ∀(n:Nat) {i':Nat},waits ops.toList n i i'=true→f.getD i' false=true:=by
     intro n i' hn
     cases n with
     |zero=>cases hn
     |succ n=>
      unfold waits at hn;rw[hoL] at hn;simp only[Mt,bC,JR,iM] at hn;obtain⟨e2,he2,hb2,h6⟩:=hn;have h7:=z e2 (by simpa using he2) hb2;rcases h6 with h6|h6
      ·rw[←h6];exact h7
      exact l7 hcl n e2.on i' h6 h7
    obtain⟨_,S⟩:=hch i o hoL hmi;have hlt: ∀l,late l=true→f.getD l false=true:=by
     intro l;induction l using Nat.strongRecOn with
     |_ l ihl=>
      intro hll
      cases hlq:f.getD l false with
      |true=>rfl
      |false=>
       exfalso;obtain⟨hlm',hlb,_,_⟩:=J l hll;have hl4:l<f.size:=by omega
       refine hL ⟨l,mem_ready.2 ⟨?_,ops[l]'(by omega),by simp,fun e he N=>?_⟩,hll⟩
       ·simp only[z8,Ao hl4,yT] at hlq⊢
        exact hlq
       have F:=hed l (ops[l]'(by omega)) (by simp) e (by simpa using he) N;rcases S e.on (by omega) with⟨n,hn⟩|hl2
       ·exact key2 _ hn
       exact ihl e.on F hl2
    rcases S i' (by omega) with⟨n0,hwk⟩|hl2;rotate_left
    ·exact hlt i' hl2
    exact key2 _ hwk
   obtain⟨o2,ho2,hst2⟩:=stepO i C Z;unfold wpOp;rw[ho2];simp only;rcases hst2 with⟨S,h⟩|⟨S,h⟩
   ·rw[if_pos S];exact .inl h
   rw[if_neg (by rw[S];decide)];exact h
 have hinit:Inv E B G0 w0 (bT (sel (Array.replicate ops.size false)) r 0 q) g a {w with drawn:=w.drawn+1}:=by
  have e1: ∀(l:List tC) (k:Nat),bT (sel (Array.replicate ops.size false)) l k q=q:=by
   intro l;induction l with
   |nil=>intro k;rfl
   |cons c l ih=>
    intro k;unfold bT;have:sel (Array.replicate ops.size false) k=false:=by show(Array.replicate ops.size false).getD k false=false;simp[aba];split<;>rfl
    rw[this,if_neg (by decide)];exact ih (k+1)
  rw[e1];exact h.drew
 refine key ops.size (Array.replicate ops.size false) g a _ (by simp) ?_ (fun i _=>by simp[aba];split<;>rfl) ?_ hinit
 ·exact Cr acE (by simp)
 intro j o A hs;have hs:(Array.replicate ops.size false).getD j false=true:=hs;simp only[z8,aba] at hs;exfalso;split at hs<;>cases hs
theorem Qq (hE:uL E) {ops:Array Oper} {id:Nat} {Q:Exit→Act→World→Prop} {f q:St} {g:Gh} {a:Act} {w:World} {m:Nat} (r:zm f.fr.length (ops.toList.take m)=true) {late:Nat→Bool}
  (s: ∀(j:Nat) o,ops.toList[j]? =some o→m≤j→(∀e∈o.after.toList,Region.binds .any e=true→e.on<j)∧ ∀i,i<j→(∃n,waits ops.toList n j i=true)∨late i=true)
  (b: ∀l,late l=true→l<m∧Wk ops l=true∧Region.noSelect ops=true∧ ∀c a d v w,Q (.panic c) (a.put d v) w→Q (.panic c) a w) (k:lI (ops.toList.take m) f=true) (p:wT (ops.toList.take m) q=true)
  (u:Trace E ops.toList (some f.bx) (ops.toList.take m) f q) (y:m≤ops.size) (h:Inv E B G0 w0 f g a w) (x: ∀g' t w',Inv E B G0 w0 q g' t w'→wpOps E.P ops Q (List.range' m (ops.size-m)) t w'):(Code.region id ops true).wp E.P Q a w:=
 wp_region_any hE.mixed (Lu hE r s b k p u y h x)
theorem Lv (ops:Array Oper):jf ops.toList≤ops.size:=by
 have c: ∀l:List Oper,PZ l≤l.length:=by
  intro l;induction l with
  |nil=>exact lg 0
  |cons o l a=>
   unfold PZ
   cases o.dst with
   |none=>exact JS _
   |some d=>exact Nat.succ_le_succ a
 have b: ∀(l:List Oper) (k:Nat),M4 l k≤k:=by
  intro l k;induction k with
  |zero=>exact lg 0
  |succ k a=>
   unfold M4
   cases AY l k with
   |true=>exact Nat.le_succ_of_le a
   |false=>exact lg _
 have:=Cr (b ops.toList (PZ ops.toList)) (c ops.toList);exact Cr this (by simp)
def HT (E:Env):List Oper→St→St→Prop
 |[],s,a=>a=s
 |o::l,s,a=>∃v,JJ E s.fr s.bx o=some (true,.val v)∧HT E l (s.put o.dst v) a
theorem WT {α:Type} {E:Env}: ∀(l:List Oper) (s:St) (K:St→Option α) (r:α),evH E l s K=some r→ ∃a,HT E l s a∧K a=some r
 |[],s,K,r,h=>⟨s,rfl,h⟩
 |o::l,s,K,r,h=>by
  unfold evH at h;split at h
  ·rename_i c v b
   rcases l6 h with⟨rfl,h⟩|⟨_,h⟩
   ·obtain⟨a,e,d⟩:=WT l _ K r h
    exact⟨a,⟨v,b,e⟩,d⟩
   cases h
  cases h
theorem OU {P:Program} {ops:Array Oper} {L:List Nat} {l:Nat} (h:wU P ops L l=true): ∃o,ops[l]? =some o∧AZ P o=true∧(∀e∈o.after,Region.binds .any e=true→e.on∈L)∧
  ∀(j:Nat) f,ops[j]? =some f→j≠l→(∀e∈o.after,Region.binds .any e=true→e.on≠j)→(∀e∈f.after,Region.binds .any e=true→e.on≠l)→o.apart ops f=true:=by
 unfold wU at h
 cases m:ops[l]? with
 |none=>rw[m] at h;cases h
 |some o=>
  rw[m] at h;simp only[bC] at h;obtain⟨⟨r,n⟩,p⟩:=h;rw[l8] at n p;refine⟨o,rfl,r,fun e d c=>?_,fun j f q k g i=>?_⟩
  ·have:=n e.on (by unfold jk;exact List.mem_map.2 ⟨e,List.mem_filter.2 ⟨by simpa using d,c⟩,rfl⟩)
   simpa using this
  have a:=p j (List.mem_range.2 (Array.getElem?_eq_some_iff.1 q).1);rw[q] at a;simp only[JR,iM,k,false_or,abr] at a;rcases a with(a|a)|a
  ·obtain⟨e,d,c,b⟩:=jU a
   exact absurd b (g e (by simpa using d) c)
  ·obtain⟨e,d,c,b⟩:=jU a
   exact absurd b (i e (by simpa using d) c)
  exact a
def tX (P:Program) (ops:Array Oper):List Nat→List Nat→Prop
 |_,[]=>True
 |L,l::r=>l∉L∧wU P ops L l=true∧tX P ops (L++[l]) r
theorem EC {P:Program} {ops:Array Oper}: ∀(r L:List Nat) (l:Nat),tX P ops L r→l∉L++r→wU P ops (L++r) l=true→tX P ops L (r++[l])
 |[],L,l,_,b,a=>by rw[JQ] at b a;exact⟨b,a,trivial⟩
 |x::r,L,l,h,b,a=>by
  refine⟨h.1,h.2.1,EC r (L++[x]) l h.2.2 ?_ ?_⟩
  ·rw[DX];exact b
  rw[DX];exact a
theorem qT {P:Program} {ops:Array Oper}: ∀(r L:List Nat),tX P ops [] L→(L++r).Nodup→tX P ops [] (pu P ops r L)∧(pu P ops r L).Nodup∧ ∀x∈pu P ops r L,x∈L++r
 |[],L,h,c=>⟨h,by simpa[pu] using c,fun x b=>by simpa[pu] using b⟩
 |l::r,L,h,c=>by
  have a:(L++[l]++r).Nodup:=by simpa using c
  unfold pu
  cases k:wU P ops L l with
  |true=>
   rw[lm];have i:l∉L:=by rw[List.nodup_append] at c;intro j;exact c.2.2 l j l uY rfl
   obtain⟨e,g,f⟩:=qT r (L++[l]) (EC L [] l h (by simpa using i) (by simpa using k)) a;exact⟨e,g,fun x b=>by simpa using f x b⟩
  |false=>
   rw[jW];have d:(L++r).Nodup:=by rw[DX] at a;exact List.Sublist.nodup (List.Sublist.append_left (List.sublist_append_right [l] r) L) a
   obtain⟨e,g,f⟩:=qT r L h d;refine⟨e,g,fun x b=>?_⟩;have:=f x b;simp only[aby,Yy] at this⊢;rcases this with h|h
   ·exact .inl h
   exact .inr (.inr h)
theorem Dr (hE:uL E) {ops:Array Oper} {Q:Exit→Act→World→Prop} (I:Region.noSelect ops=true) (hQ: ∀c a d v w,Q (.panic c) (a.put d v) w→Q (.panic c) a w) {g:Gh} {w w2:World} {W:St} {n:Nat}: ∀(r L:List Nat) (s:St) (a:Act) (b:Array Bool),tX E.P ops L r→b.size=ops.size→
  (∀i,b.getD i false=true↔i∈L)→(∀l∈L,l<ops.size)→HT E (r.map fun i=>ops.getD i default) s W→Inv E B G0 w0 s g a w→
  (∀(f:Array Bool) K,f.size=ops.size→(∀i,f.getD i false=true↔i∈L++r)→Inv E B G0 w0 W g K w→wpAny E.P .any ops Q n f K w2)→wpAny E.P .any ops Q (n+r.length) b a w2
 |[],L,s,a,b,hh,p,z,H,t,h,hk=>by have e:W=s:=t;subst e;exact hk b a p (fun i=>by rw[z,JQ]) h
 |l::r,L,s,a,b,hh,p,z,H,t,h,hk=>by
  obtain⟨h1,h2,h3⟩:=hh;obtain⟨o,M,m,G,T⟩:=OU h2;rw[qA,sJ M] at t;obtain⟨v,hv,t⟩:=t;have N:=mK (ac:=a) (B:=B) (w:=w) (g:=g) (bx:=s.bx) hE rfl h.gok h.own h.bxs h.hB h.m1 h.ku (fun y=>gD h.fr h.ku y) hv;obtain⟨u,F,J⟩:=N;have hst:=R6 m (fun x A=>opR_nil A (fun y=>gD h.fr h.ku y) hv) F;have Z:o.guard=none:=by
   unfold AZ at m;rw[bC,bC] at m;have:=m.1.2
   cases Z:o.guard with
   |none=>rfl
   |some _=>rw[Z] at this;cases this
  have X:l<ops.size:=(Array.getElem?_eq_some_iff.1 M).1;have D:l<b.size:=by omega
  have hun:b.getD l true=false:=by
   have: ¬b.getD l false=true:=fun q=>h1 ((z l).1 q)
   simp only[z8,Ao D,yT] at this⊢;simpa using this
  have hr:l∈Region.ready .any ops b:=mem_ready.2 ⟨hun,o,M,fun e U O=>(z _).2 (G e U O)⟩;have C:n+(l::r).length=(n+r.length)+1:=rfl;rw[C];refine wpAny_first M (Region.noSelect_spec I) (fun c a w=>hQ c a o.dst u w) (n+r.length) b a w2 (fun j oj hj S k V=>?_) hr (.inl ⟨by unfold Region.wanted;rw[Z],hst⟩) ?_
  ·refine T j oj hj S (fun e U O R=>?_) V
   have h5:=(z e.on).2 (G e U O);rw[R] at h5;have Y:j<b.size:=by have:=(Array.getElem?_eq_some_iff.1 hj).1;omega
   simp only[z8,Ao Y,yT] at h5 k;rw[h5] at k;cases k
  refine Dr hE I hQ r (L++[l]) (s.put o.dst v) _ _ h3 (by simpa using p) (fun i=>?_) (fun x A=>?_) t (h.put o.dst J) (fun f K q1 q2 q3=>hk f K q1 (fun i=>by rw[q2];simp) q3)
  ·by_cases e:l=i
   ·subst e
    simp[D]
   rw[getD_set_ne false e,z];simp[e];exact fun q=>absurd q.symm e
  simp only[aby,S7] at A;rcases A with A|rfl
  ·exact H x A
  exact X
def PK:Ex→Exit
 | .norm=> .normal
 | .exit id=> .exit id
 | .ret=> .ret
 | .qi v=> .panic [{v:=(dh v).getD undef,recovered:=false}]
def Leads (E:Env) (c:Code) (s:St) (e:Ex) (f:St):Prop:=∀(B:Own) (G0:aU) (d:World) (g:Gh) (a:Act) (w:World),Inv E B G0 d s g a w→ ∀Q:Exit→Act→World→Prop,(∀g' b w',Inv E B G0 d f g' b w'→Q (PK e) b w')→c.wp E.P Q a w
theorem Lx (hE:uL E) {α:Type} {call:Caller α} (hc:lW E call) {id:Nat} {ops:Array Oper} {s:St} {K:Ex→St→Option α} {FB:St→Option α} {r:α} (h:evReg E call ops s K FB=some r):
  (∃e T,K e T=some r∧Leads E (.region id ops true) s e T)∨(Region.noSelect ops=true∧KG ops (fV ops (dH E.P ops))=true∧ ∃O,HT E ((dH E.P ops).map fun i=>ops.getD i default) s O∧FB O=some r):=by
 unfold evReg at h;have hm:jf ops.toList≤ops.size:=Lv ops;generalize jf ops.toList=m at h hm
 cases H:(T7 s (ops.toList.take m)&&(zm s.fr.length (ops.toList.take m)&&sG ops.toList m&&lI (ops.toList.take m) s)) with
 |false=>
  rw[H,jW] at h;obtain⟨J,h⟩:=aP h;rw[bC] at J;obtain⟨hns,z⟩:=J;obtain⟨O,R,h⟩:=WT _ s _ r h
  cases b:T8 O.fr.length (dn ops (fV ops (dH E.P ops))).toList O with
  |false=>rw[b,jW] at h;exact .inr ⟨hns,z,O,R,h⟩
  |true=>
  rw[b,lm] at h;have hg:=qT (P:=E.P) (ops:=ops) (List.range ops.size) [] trivial (by simpa using ab6);have hHL:pu E.P ops (List.range ops.size) []=dH E.P ops:=rfl;rw[hHL] at hg;generalize dH E.P ops=L at h R b z hg;obtain⟨hg1,hg2,hg3⟩:=hg;have X: ∀l∈L,l<ops.size:=fun l y=>by simpa using hg3 l y
  have W:(fV ops L).Nodup:=List.Sublist.nodup ab3 ab6;have G: ∀i,i∈fV ops L↔i<ops.size∧i∉L:=fun i=>by unfold fV;rw[abP,ab8];simp
  have S:(fV ops L).length+L.length=ops.size:=by
   have hfl:(List.range ops.size).length=(fV ops L).length+((List.range ops.size).filter fun i=>L.contains i).length:=by
    unfold fV;have: ∀l:List Nat,l.length=(l.filter fun i=>!L.contains i).length+(l.filter fun i=>L.contains i).length:=by
     intro l;induction l with
     |nil=>rfl
     |cons x l ih=>
      rw[ab5,ab5,fI]
      cases L.contains x with
      |true=>simp only[acJ,JP,Cu,if_true,fI];omega
      |false=>simp only[acX,JP,Cu,if_true,fI];omega
    exact this _
   have hperm:((List.range ops.size).filter fun i=>L.contains i).length=L.length:=by
    refine List.Perm.length_eq ?_;refine(List.perm_ext_iff_of_nodup (List.Sublist.nodup ab3 ab6) hg2).2 fun x=>?_
    rw[abP,ab8];simp only[abr];exact⟨fun q=>q.2,fun q=>⟨X x q,q⟩⟩
   rw[ac1] at hfl;omega
  generalize fV ops L=p at h b z W G S;have hss:(dn ops p).size=p.length:=Ia p;unfold T8 at b;have Z:jf (dn ops p).toList≤(dn ops p).size:=Lv _;generalize jf (dn ops p).toList=m2 at h b Z;rw[bC,bC,bC] at b;replace b:=And.intro (And.intro b.1.1.2 b.1.2) b.2;have A: ∀(j:Nat) o,(dn ops p).toList[j]? =some o→m2≤j→(∀e∈o.after.toList,Region.binds .any e=true→e.on<j)∧ ∀i,i<j→(∃n,waits (dn ops p).toList n j i=true)∨(fun _:Nat=>false) i=true:=fun j o U V=>⟨(uo b.1.2 j o U V).1,fun i D=> .inl ((uo b.1.2 j o U V).2 i D)⟩
  rcases lJ hc ((dn ops p).toList.take m2) O _ r h with⟨s2,ht,hs⟩|⟨hb,_⟩
  rotate_left
  ·cases hb
  obtain⟨h3,h4⟩:=aP hs;have y:((dn ops p).toList.drop m2).length=(dn ops p).size-m2:=by simp
  rcases lJ hc ((dn ops p).toList.drop m2) s2 _ r h4 with⟨s3,C,t⟩|⟨_,v,s3,C,t⟩
  ·refine .inl ⟨.norm,s3,t,fun B G0 w0 g a w D Q Y=>?_⟩
   refine Code.wp_mono (Q:=fun e a w=>match e with| .normal=>Q .normal a w|_=>False) (fun e a w q=>by cases e<;>first|exact q|exact q.elim) ?_;refine wp_region_any hE.mixed ?_;have hfu:ops.size=p.length+L.length:=by omega
   have hz:wpAny E.P .any ops (fun e a w=>match e with| .normal=>Q .normal a w|_=>False) (p.length+L.length) (Array.replicate ops.size false) a {w with drawn:=w.drawn+1}:=by
    refine Dr hE hns (fun c a d v w q=>q.elim) (n:=p.length) (w:=w) L [] s a _ hg1 (by simp) (fun i=>?_) (fun l y=>nomatch y) R D fun f N q1 q2 q3=>?_
    ·simp only[z8,aba,ab7,iff_false]
     split<;>simp
    refine WS W (fun i D=>((G i).1 D).1) z p.length f (Array.replicate p.length false) N _ q1 (by simp) (fun i D hip=>?_) (fun k M d=>?_) ?_
    ·refine(q2 i).2 ?_
     rw[Fx];exact Classical.byContradiction fun hn=>hip ((G i).2 ⟨D,hn⟩)
    ·have h5:p[k]<f.size:=by rw[q1];exact((G _).1 (Ga M)).1
     have h6: ¬f.getD p[k] false=true:=by rw[q2,Fx];exact((G _).1 (Ga M)).2
     simp only[z8,Ao h5,yT,aba,M,if_true] at h6⊢;simpa using h6
    have hq:=Lu hE (Q:=fun e a w=>match e with| .normal=>Q .normal a w|_=>False) b.1.1 (late:=fun _=>false) A (fun l y=>by cases y) b.2 h3 ht Z q3 fun g' N w' F=>by have:=vU hE (Q:=fun e a w=>match e with| .normal=>Q .normal a w|_=>False) ((dn ops p).toList.drop m2) m2 s2 s3 g' N w' rfl C F Y;rw[y] at this;exact this
    rw[hss] at hq;exact hq
   rw[←hfu] at hz;exact hz
  cases t
 |true=>
 rw[H,lm] at h;have J:=(Bool.and_eq_true_iff.1 H).2;have h2:=h;rw[bC,bC] at J;have A: ∀(j:Nat) o,ops.toList[j]? =some o→m≤j→(∀e∈o.after.toList,Region.binds .any e=true→e.on<j)∧ ∀i,i<j→(∃n,waits ops.toList n j i=true)∨(fun _:Nat=>false) i=true:=fun j o U V=>⟨(uo J.1.2 j o U V).1,fun i D=> .inl ((uo J.1.2 j o U V).2 i D)⟩
 rcases lJ hc (ops.toList.take m) s _ r h2 with⟨T,ht,hs⟩|⟨hb,_⟩
 rotate_left
 ·cases hb
 obtain⟨h3,h4⟩:=aP hs;have y:(ops.toList.drop m).length=ops.size-m:=by simp
 rcases lJ hc (ops.toList.drop m) T _ r h4 with⟨I,C,t⟩|⟨_,v,I,C,t⟩
 ·refine .inl ⟨.norm,I,t,fun B G0 w0 g a w D Q Y=>Qq hE J.1.1 (late:=fun _=>false) A (fun l y=>by cases y) J.2 h3 ht hm D fun g' N w' F=>?_⟩
  have:=vU hE (Q:=Q) (ops.toList.drop m) m T I g' N w' rfl C F Y;rw[y] at this;exact this
 refine .inl ⟨.qi v,I,t,fun B G0 w0 g a w D Q Y=>Qq hE J.1.1 (late:=fun _=>false) A (fun l y=>by cases y) J.2 h3 ht hm D fun g' N w' F=>?_⟩;have:=xC hE (Q:=Q) (ops.toList.drop m) m T I g' N w' rfl C F (fun g2 a2 w2 u hi2 hu=>by have:=Y g2 a2 w2 hi2;simp only[PK,hu,yT] at this;exact this);rw[y] at this;exact this
theorem jv (hE:uL E) {α:Type} {call:Caller α} (D:lW E call) (tot:Rd) (G:tot.ord=false) (fuel:Nat): ∀(c:Code) (s:St) (K:Ex→St→Option α) (r:α),ev E call tot fuel c s K=some r→ ∃e z,K e z=some r∧Leads E c s e z
 | .skip,s,K,r,h=>⟨.norm,s,h,fun B G0 j g a w f Q k=>wp_skip (k g a w f)⟩
 | .region id ops false,s,K,r,h=>by
  unfold ev at h;rcases lJ D ops.toList (preZ E.P ops.toList s) _ r h with⟨z,J,O⟩|⟨_,v,z,J,O⟩
  ·refine⟨.norm,z,O,fun B G0 j g0 a w A Q k=>?_⟩
   obtain⟨g,f⟩:=Bq A E.P ops.toList;have:=vU hE (Q:=Q) ops.toList 0 _ z g a w (by simp) J f k;refine wp_region ?_;rw[List.range_eq_range'];simpa using this
  refine⟨.qi v,z,O,fun B G0 j g0 a w A Q k=>?_⟩;obtain⟨g,f⟩:=Bq A E.P ops.toList;have:=xC hE (Q:=Q) ops.toList 0 _ z g a w (by simp) J f (fun g' m w' u d T=>by have:=k g' m w' d;simp only[PK,T,yT] at this;exact this);refine wp_region ?_;rw[List.range_eq_range'];simpa using this
 | .region id ops true,s,K,r,h=>by
  unfold ev at h;rcases Lx (id:=id) hE D h with⟨e,z,V,S⟩|⟨_,_,_,_,h⟩
  ·refine⟨e,z,V,fun B G0 j g0 a w A Q k=>?_⟩
   obtain⟨g,f⟩:=Bq A E.P ops.toList;exact S B G0 j g a w f Q k
  rw[G] at h;cases h
 | .seq x y,s,K,r,h=>by
  unfold ev at h;obtain⟨e,q,o,p⟩:=jv hE D tot G fuel x s _ r h
  cases e with
  |norm=>obtain⟨L,M,I,F⟩:=jv hE D tot G fuel y q K r o;exact⟨L,M,I,fun B G0 j g a w f Q k=>wp_seq (p B G0 j g a w f _ fun g' m w' d=>F B G0 j g' m w' d Q k)⟩
  |exit id=>exact⟨.exit id,q,o,fun B G0 j g a w f Q k=>wp_seq (p B G0 j g a w f _ fun g' m w' d=>k g' m w' d)⟩
  |ret=>exact⟨.ret,q,o,fun B G0 j g a w f Q k=>wp_seq (p B G0 j g a w f _ fun g' m w' d=>k g' m w' d)⟩
  |qi v=>exact⟨.qi v,q,o,fun B G0 j g a w f Q k=>wp_seq (p B G0 j g a w f _ fun g' m w' d=>k g' m w' d)⟩
 | .cond c x y,s,K,r,h=>by
  unfold ev at h;split at h
  ·rename_i t J
   have R: ∀{B G0 j g a w},Inv E B G0 j s g a w→a.eval c=.bool t:=fun {B G0 j g a w} f=>by have:=gD f.fr f.ku c;rw[J,dB] at this;exact this
   rcases l6 h with⟨rfl,h⟩|⟨rfl,h⟩
   ·obtain⟨e,q,o,p⟩:=jv hE D tot G fuel x s K r h
    exact⟨e,q,o,fun B G0 j g a w f Q k=>wp_cond (R f) (p B G0 j g a w f Q k)⟩
   obtain⟨e,q,o,p⟩:=jv hE D tot G fuel y s K r h;exact⟨e,q,o,fun B G0 j g a w f Q k=>wp_cond (R f) (p B G0 j g a w f Q k)⟩
  cases h
 | .block id b,s,K,r,h=>by
  unfold ev at h;obtain⟨e,q,o,p⟩:=jv hE D tot G fuel b s _ r h
  cases e with
  |norm=>exact⟨.norm,q,o,fun B G0 j g a w f Q k=>wp_block (p B G0 j g a w f _ fun g' m w' d=>k g' m w' d)⟩
  |ret=>exact⟨.ret,q,o,fun B G0 j g a w f Q k=>wp_block (p B G0 j g a w f _ fun g' m w' d=>k g' m w' d)⟩
  |qi v=>exact⟨.qi v,q,o,fun B G0 j g a w f Q k=>wp_block (p B G0 j g a w f _ fun g' m w' d=>k g' m w' d)⟩
  |exit i=>
   have o:(bif i==id then K .norm q else K (.exit i) q)=some r:=o;by_cases C:i=id
   ·have:(i==id)=true:=by simpa using C
    rw[this] at o;refine⟨.norm,q,o,fun B G0 j g a w f Q k=>wp_block (p B G0 j g a w f _ fun g' m w' d=>?_)⟩;show(if i=id then Q .normal m w' else Q (.exit i) m w');rw[if_pos C];exact k g' m w' d
   have:(i==id)=false:=by simpa using C
   rw[this] at o;refine⟨.exit i,q,o,fun B G0 j g a w f Q k=>wp_block (p B G0 j g a w f _ fun g' m w' d=>?_)⟩;show(if i=id then Q .normal m w' else Q (.exit i) m w');rw[if_neg C];exact k g' m w' d
 | .loop b,s,K,r,h=>by
  unfold ev at h;generalize CP tot.tot tot.unc s.fr.length b=mask at h;have N: ∀(n:Nat) (s:St),D7 b (fun s K=>ev E call tot fuel b s K) mask K n s=some r→ ∃e z,K e z=some r∧ ∀(B:Own) (G0:aU) (j:World) (g:Gh) (a:Act) (w:World),Inv E B G0 j s g a w→ ∀Q:Exit→Act→World→Prop,(∀g' m w',Inv E B G0 j z g' m w'→Q (PK e) m w')→Code.rounds E.P b Q n a w:=by
   intro n;induction n with
   |zero=>intro s h;cases h
   |succ n U=>
    intro s h;unfold D7 at h;simp only[pf_eq] at h;obtain⟨e,q,o,p⟩:=jv hE D tot G fuel b _ _ r h
    cases e with
    |norm=>
     obtain⟨L,M,I,F⟩:=U _ o;refine⟨L,M,I,fun B G0 j g a w f Q k=>?_⟩;rw[rounds_succ];refine p B G0 j g a w f _ fun g' m w' d=>?_
     obtain⟨g1,H⟩:=d.head mask;exact F B G0 j g1 m w' H Q k
    |exit id=>refine⟨.exit id,q,o,fun B G0 j g a w f Q k=>?_⟩;rw[rounds_succ];exact p B G0 j g a w f _ fun g' m w' d=>k g' m w' d
    |ret=>refine⟨.ret,q,o,fun B G0 j g a w f Q k=>?_⟩;rw[rounds_succ];exact p B G0 j g a w f _ fun g' m w' d=>k g' m w' d
    |qi v=>refine⟨.qi v,q,o,fun B G0 j g a w f Q k=>?_⟩;rw[rounds_succ];exact p B G0 j g a w f _ fun g' m w' d=>k g' m w' d
  obtain⟨e,z,o,p⟩:=N fuel _ h;refine⟨e,z,o,fun B G0 j g a w f Q k=>wp_loop_rounds fuel ?_⟩;obtain⟨g1,H⟩:=f.head mask;exact p B G0 j g1 a w H Q k
 | .exit id,s,K,r,h=>⟨.exit id,s,h,fun B G0 j g a w f Q k=>wp_exit (k g a w f)⟩
 | .label l,s,K,r,h=>⟨.norm,s,h,fun B G0 j g a w f Q k=>wp_label (k g a w f)⟩
 | .ret,s,K,r,h=>⟨.ret,s,h,fun B G0 j g a w f Q k=>wp_ret (k g a w f)⟩
 | .rangeFunc ..,s,K,r,h=>by unfold ev at h;cases h
 | .scope _,s,K,r,h=>by unfold ev at h;cases h
 | .goto _,s,K,r,h=>by unfold ev at h;cases h
 | .refuse _,s,K,r,h=>by unfold ev at h;cases h
theorem R9 (P:Program) (ops:Array Oper):tX P ops [] (dH P ops)∧(∀l∈dH P ops,l<ops.size)∧(fV ops (dH P ops)).Nodup∧(∀i,i∈fV ops (dH P ops)↔i<ops.size∧i∉dH P ops)∧(fV ops (dH P ops)).length+(dH P ops).length=ops.size:=by
 have c:=qT (P:=P) (ops:=ops) (List.range ops.size) [] trivial (by simpa using ab6);have d:pu P ops (List.range ops.size) []=dH P ops:=rfl;rw[d] at c;generalize dH P ops=L at c⊢;obtain⟨g,h,f⟩:=c;have a: ∀l∈L,l<ops.size:=fun l j=>by simpa using f l j
 refine⟨g,a,List.Sublist.nodup ab3 ab6,fun i=>by unfold fV;rw[abP,ab8];simp,?_⟩;have b:(List.range ops.size).length=(fV ops L).length+((List.range ops.size).filter fun i=>L.contains i).length:=by
  unfold fV;have: ∀l:List Nat,l.length=(l.filter fun i=>!L.contains i).length+(l.filter fun i=>L.contains i).length:=by
   intro l;induction l with
   |nil=>rfl
   |cons x l k=>
    rw[ab5,ab5,fI]
    cases L.contains x with
    |true=>simp only[acJ,JP,Cu,if_true,fI];omega
    |false=>simp only[acX,JP,Cu,if_true,fI];omega
  exact this _
 have e:((List.range ops.size).filter fun i=>L.contains i).length=L.length:=by
  refine List.Perm.length_eq ?_;refine(List.perm_ext_iff_of_nodup (List.Sublist.nodup ab3 ab6) h).2 fun x=>?_
  rw[abP,ab8];simp only[abr];exact⟨fun q=>q.2,fun q=>⟨a x q,q⟩⟩
 rw[ac1] at b;omega
theorem Zv (hE:uL E) {ops:Array Oper} {Q:Exit→Act→World→Prop} (u:Region.noSelect ops=true) (j:KG ops (fV ops (dH E.P ops))=true) (J: ∀c a d v w,Q (.panic c) (a.put d v) w→Q (.panic c) a w) {g:Gh} {a:Act} {w x:World} {s G:St}
  (q:HT E ((dH E.P ops).map fun i=>ops.getD i default) s G) (m:Inv E B G0 w0 s g a w)
  (A: ∀h,Inv E B G0 w0 G g h w→wpAny E.P .any (dn ops (fV ops (dH E.P ops))) Q (dn ops (fV ops (dH E.P ops))).size (Array.replicate (dn ops (fV ops (dH E.P ops))).size false) h x):
  wpAny E.P .any ops Q ops.size (Array.replicate ops.size false) a x:=by
 obtain⟨t,z,o,e,D⟩:=R9 E.P ops;rw[Ia] at A;generalize dH E.P ops=L at*;generalize fV ops L=p at*;have y:ops.size=p.length+L.length:=by omega
 have F:wpAny E.P .any ops Q (p.length+L.length) (Array.replicate ops.size false) a x:=by
  refine Dr hE u J (n:=p.length) (w:=w) L [] s a _ t (by simp) (fun i=>?_) (fun l N=>nomatch N) q m fun b h C I M=>?_
  ·simp only[z8,aba,ab7,iff_false]
   split<;>simp
  refine WS o (fun i m=>((e i).1 m).1) j p.length b (Array.replicate p.length false) h _ C (by simp) (fun i m r=>?_) (fun k f d=>?_) (A h M)
  ·refine(I i).2 ?_
   rw[Fx];exact Classical.byContradiction fun O=>r ((e i).2 ⟨m,O⟩)
  have K:p[k]<b.size:=by rw[C];exact((e _).1 (Ga f)).1
  have H: ¬b.getD p[k] false=true:=by rw[I,Fx];exact((e _).1 (Ga f)).2
  simp only[z8,Ao K,yT,aba,f,if_true] at H⊢;simpa using H
 rw[←y] at F;exact F
theorem Zw {α:Type} {a b:Option α} {r:α} (h:both a b=some r):a=some r∧b=some r:=by
 unfold both at h;by_cases e:a=b
 ·rw[if_pos e] at h
  exact⟨h,e▸h⟩
 rw[if_neg e] at h;cases h
theorem j6 {α:Type} (a:Option α):both a a=a:=by unfold both;rw[if_pos rfl]
theorem LA {α:Type} {f:Nat→Option α} {r:α}: ∀{l:List Nat},allK f l=some r→ ∀i∈l,f i=some r
 |[],h,i,a=>nomatch a
 |[x],h,i,a=>by rcases List.mem_singleton.1 a with rfl;exact h
 |x::y::l,h,i,a=>by
  have h:both (f x) (allK f (y::l))=some r:=h;obtain⟨c,b⟩:=Zw h;rcases List.mem_cons.1 a with rfl|a
  ·exact c
  exact LA b i a
theorem WU {ops:Array Oper} {a:Array Bool} {L:List Nat} (r:a.size=ops.size) (f: ∀i,a.getD i false=true↔i∈L) (i:Nat):i∈Region.ready .any ops a↔i∈M6 ops.toList L:=by
 unfold M6;rw[mem_ready,abP,ab8,Kq];constructor
 ·rintro⟨n,o,d,m⟩
  have b:i<ops.size:=(Array.getElem?_eq_some_iff.1 d).1;have l:i<a.size:=by omega
  refine⟨b,?_⟩;have j:i∉L:=fun q=>by have:=(f i).2 q;simp only[z8,Ao l,yT] at n this;rw[n] at this;cases this
  have c:ops.toList[i]? =some o:=by simpa using d
  rw[c,bC];refine⟨by simpa using j,?_⟩;simp only[l8,abr];intro x p;obtain⟨e,k,g,rfl⟩:=jU p;exact(f _).1 (m e (by simpa using k) g)
 rintro⟨b,h⟩;have l:i<a.size:=by omega
 have d:ops[i]? =some (ops[i]'b):=by simp[b]
 have c:ops.toList[i]? =some (ops[i]'b):=by simp[b]
 rw[c,bC] at h;simp only[l8,abr] at h;have j:i∉L:=by simpa using h.1
 refine⟨?_,_,d,fun e k g=>(f _).2 (h.2 e.on (by unfold jk;exact List.mem_map.2 ⟨e,List.mem_filter.2 ⟨by simpa using k,g⟩,rfl⟩))⟩;have: ¬a.getD i false=true:=fun q=>j ((f i).1 q)
 simp only[z8,Ao l,yT] at this⊢;simpa using this
theorem Zx (hE:uL E) {α:Type} {call:Caller α} (hc:lW E call) {ops:Array Oper} {Q:Exit→Act→World→Prop} {K:St→Option α} {r:α}: ∀(n:Nat) (L:List Nat) (s:St) (c:Array Bool) (g:Gh) (a:Act) (w:World),c.size=ops.size→
  (∀i,c.getD i false=true↔i∈L)→(c.toList.countP fun b=>!b)≤n→KH E call ops.toList K (n+1) L s=some r→Inv E B G0 w0 s g a w→
  (∀F g' k w',K F=some r→Inv E B G0 w0 F g' k w'→Q .normal k w')→wpAny E.P .any ops Q n c a w:=by
 have p: ∀(n:Nat) (L:List Nat) (s:St) (c:Array Bool),c.size=ops.size→(∀i,c.getD i false=true↔i∈L)→KH E call ops.toList K (n+1) L s=some r→Region.ready .any ops c=[]→K s=some r:=by
  intro n L s c f A h t;unfold KH at h;have:M6 ops.toList L=[]:=List.eq_nil_iff_forall_not_mem.2 fun i d=>by have:=(WU f A i).2 d;rw[t] at this;cases this
  rw[this] at h;exact h
 intro n;induction n with
 |zero=>
  intro L s c g a w f A N h d M;have t:Region.ready .any ops c=[]:=List.eq_nil_iff_forall_not_mem.2 fun i d=>by
   obtain⟨J,o,I,_⟩:=mem_ready.1 d;have Y:i<ops.size:=(Array.getElem?_eq_some_iff.1 I).1;have D:i<c.size:=by omega
   have h5:=List.countP_eq_zero.1 (Nat.le_zero.1 N) c[i] (by rw[acj];exact Array.getElem_mem D);simp only[z8,Ao D,yT] at J;rw[J] at h5;exact h5 rfl
  exact⟨t,M s g a w (p 0 L s c f A h t) d⟩
 |succ n ih=>
  intro L s c g a w f A hcn h d M;refine⟨fun t=>M s g a w (p (n+1) L s c f A h t) d,fun i H=>?_⟩;have m:=(WU f A i).1 H;unfold KH at h;split at h
  ·rename_i z;rw[z] at m;cases m
  rename_i j l z;rw[z] at m;have h1:=LA h i m;obtain⟨J,o,I,_⟩:=mem_ready.1 H;have Y:i<ops.size:=(Array.getElem?_eq_some_iff.1 I).1;have D:i<c.size:=by omega
  have W:ops.toList[i]? =some o:=by simpa using I
  simp only[W] at h1;rcases lJ hc [o] s _ r h1 with⟨F,R,Z⟩|⟨_,v,F,_,Z⟩
  rotate_left
  ·cases Z
  have C: ∀x,(c.setIfInBounds i true).getD x false=true↔x∈i::L:=fun x=>by
   by_cases e:i=x
   ·subst e
    simp[D]
   rw[getD_set_ne false e,A,Yy];exact⟨.inr,fun q=>q.resolve_left fun q=>e q.symm⟩
  have G:((c.setIfInBounds i true).toList.countP fun b=>!b)≤n:=by
   have V:c[i]=false:=by simpa only[z8,Ao D,yT] using J
   rw[abR,List.countP_set (by simpa using D)];simp only[Array.getElem_toList,V,acX,if_true,acJ,JP,Cu,VU];omega
  have next: ∀g' k w',Inv E B G0 w0 F g' k w'→wpAny E.P .any ops Q n (c.setIfInBounds i true) k w':=fun g' k w' S=>
   ih (i::L) F _ g' k w' (by simpa using f) C G Z S M
  cases R with
  |cons U R=>
   cases R;unfold wpOp;rw[I];simp only;rcases U with⟨T,eff,X,_,t⟩|⟨T,rfl⟩
   ·rw[if_pos (iE d.fr T)]
    refine .inl ?_;have O:=mK (ac:=a) (B:=B) (w:=w) (g:=g) hE rfl d.gok d.own d.bxs d.hB d.m1 d.ku (fun y=>gD d.fr d.ku y) X;exact FF d O (fun _ _ h=>h) (fun _=>rfl) t fun g' k w' h' _=>next g' k w' h'
   rw[if_neg (by rw[iE d.fr T];decide)];exact next g _ w (d.put o.dst (v:=.tup []) (u:=undef) ⟨[],rfl,.nil⟩)
theorem pz (hE:uL E) {α:Type} {call:Caller α} (z:lW E call) (tot:Rd) (fuel:Nat): ∀(c:Code) (s:St) (K:Ex→St→Option α) (r:α),ev E call tot fuel c s K=some r→ ∀(g:Gh) (a:Act) (w:World),Inv E B G0 w0 s g a w→
  ∀Q:Exit→Act→World→Prop,(∀e A g' k w',K e A=some r→Inv E B G0 w0 A g' k w'→Q (PK e) k w')→c.wp E.P Q a w
 | .skip,s,K,r,h,g,a,w,m,Q,j=>wp_skip (j .norm s g a w h m)
 | .region id ops false,s,K,r,h,g,a,w,m,Q,j=>by obtain⟨e,A,o,J⟩:=jv hE z ⟨[],[],false⟩ rfl fuel (.region id ops false) s K r h;exact J B G0 w0 g a w m Q fun g' k w' f=>j e A g' k w' o f
 | .region id ops true,s,K,r,h,g0,a,w,G,Q,j=>by
  unfold ev at h;obtain⟨g,m⟩:=Bq G E.P ops.toList;rcases Lx (id:=id) hE z h with⟨e,A,o,J⟩|⟨I,D,p,F,h⟩
  ·exact J B G0 w0 g a w m Q fun g' k w' f=>j e A g' k w' o f
  obtain⟨_,h⟩:=aP h;refine Code.wp_mono (Q:=fun e a w=>match e with| .normal=>Q .normal a w|_=>False) (fun e a w q=>by cases e<;>first|exact q|exact q.elim) ?_;refine wp_region_any hE.mixed ?_;refine Zv hE I D (fun c a d v w q=>q.elim) F m fun k f=>?_
  refine Zx hE z (dn ops (fV ops (dH E.P ops))).size [] p _ g k _ (by simp) (fun i=>?_) (Cr acE (by simp)) h f.drew fun A g' k w' o f=>j .norm A g' k w' o f
  simp only[z8,aba,ab7,iff_false];split<;>simp
 | .seq x y,s,K,r,h,g,a,w,m,Q,j=>by
  unfold ev at h;refine wp_seq (pz hE z tot fuel x s _ r h g a w m _ fun e p g' k w' o f=>?_)
  cases e with
  |norm=>exact pz hE z tot fuel y p K r o g' k w' f Q j
  |exit id=>exact j (.exit id) p g' k w' o f
  |ret=>exact j .ret p g' k w' o f
  |qi v=>exact j (.qi v) p g' k w' o f
 | .cond c x y,s,K,r,h,g,a,w,m,Q,j=>by
  unfold ev at h;split at h
  ·rename_i t M
   have L:a.eval c=.bool t:=by have:=gD m.fr m.ku c;rw[M,dB] at this;exact this
   rcases l6 h with⟨rfl,h⟩|⟨rfl,h⟩
   ·exact wp_cond L (pz hE z tot fuel x s K r h g a w m Q j)
   exact wp_cond L (pz hE z tot fuel y s K r h g a w m Q j)
  cases h
 | .block id b,s,K,r,h,g,a,w,m,Q,j=>by
  unfold ev at h;refine wp_block (pz hE z tot fuel b s _ r h g a w m _ fun e p g' k w' o f=>?_)
  cases e with
  |norm=>exact j .norm p g' k w' o f
  |ret=>exact j .ret p g' k w' o f
  |qi v=>exact j (.qi v) p g' k w' o f
  |exit i=>
   have o:(bif i==id then K .norm p else K (.exit i) p)=some r:=o;by_cases u:i=id
   ·have:(i==id)=true:=by simpa using u
    rw[this] at o;show(if i=id then Q .normal k w' else Q (.exit i) k w');rw[if_pos u];exact j .norm p g' k w' o f
   have:(i==id)=false:=by simpa using u
   rw[this] at o;show(if i=id then Q .normal k w' else Q (.exit i) k w');rw[if_neg u];exact j (.exit i) p g' k w' o f
 | .loop b,s,K,r,h,g,a,w,m,Q,j=>by
  unfold ev at h;generalize CP tot.tot tot.unc s.fr.length b=mask at h;have H: ∀(n:Nat) (s:St),D7 b (fun s K=>ev E call tot fuel b s K) mask K n s=some r→ ∀(g:Gh) (a:Act) (w:World),Inv E B G0 w0 s g a w→Code.rounds E.P b Q n a w:=by
   intro n;induction n with
   |zero=>intro s h;cases h
   |succ n N=>
    intro s h g a w m;unfold D7 at h;simp only[pf_eq] at h;rw[rounds_succ];refine pz hE z tot fuel b _ _ r h g a w m _ fun e p g' k w' o f=>?_
    cases e with
    |norm=>obtain⟨g1,C⟩:=f.head mask;exact N _ o g1 k w' C
    |exit id=>exact j (.exit id) p g' k w' o f
    |ret=>exact j .ret p g' k w' o f
    |qi v=>exact j (.qi v) p g' k w' o f
  refine wp_loop_rounds fuel ?_;obtain⟨g1,C⟩:=m.head mask;exact H fuel _ h g1 a w C
 | .exit id,s,K,r,h,g,a,w,m,Q,j=>wp_exit (j (.exit id) s g a w h m)
 | .label l,s,K,r,h,g,a,w,m,Q,j=>wp_label (j .norm s g a w h m)
 | .ret,s,K,r,h,g,a,w,m,Q,j=>wp_ret (j .ret s g a w h m)
 | .rangeFunc ..,s,K,r,h,_,_,_,_,_,_=>by unfold ev at h;cases h
 | .scope _,s,K,r,h,_,_,_,_,_,_=>by unfold ev at h;cases h
 | .goto _,s,K,r,h,_,_,_,_,_,_=>by unfold ev at h;cases h
 | .refuse _,s,K,r,h,_,_,_,_,_,_=>by unfold ev at h;cases h
def nZ:V→Bool
 | .tup _=>false
 | .fn _ _=>false
 | .box _ _=>false
 | .eptr _ _ _ _ _ _=>false
 | .slz _ _ _ _ _ _ _ _ _ _=>false
 | .epz _ _ _ _ _=>false
 | .old _=>false
 |_=>true
theorem Ca {g:Gh} {w:World} {x:V} {v:Value} (A:Ph B g w) (p:x.single=true) (d:nZ x=true) (h:bP g x v):nS g.G w B.m x v:=by
 cases x with
 |sl e sh H xs=>
  cases H with
  |none=>exact h
  |some L=>
   obtain⟨hL,C⟩:=h;obtain⟨y,o⟩:=A.1 L v e _ hL;refine⟨y,?_⟩;rcases C with⟨j,p⟩|⟨b,cap,l,j,i,J,D,hE⟩
   ·exact .inl ⟨j,p⟩
   rcases o with o|⟨K,n,u,r,N,a,s,E,M,q,t,z,F⟩
   ·rw[j] at o;cases o
   rw[j] at a;simp only[Value.slice.injEq,aR,Addr.mk.injEq] at a;obtain⟨⟨rfl,_,_⟩,I,rfl⟩:=a;exact .inr ⟨b,cap,r,l,j,s.1,E,i,q,t,J,D,hE⟩
 |box k off=>cases d
 |eptr _ _ _ _ _ _=>cases d
 |old _=>cases d
 |slz _ _ _ _ _ _ _ _ _ _=>cases d
 |epz _ _ _ _ _=>cases d
 |tup vs=>cases p
 |fn f c=>cases p
 |_=>exact h
theorem qb {x y:V} (h:x.P4=some y):x.deep=some y∧nZ y=true:=by
 cases x with
 |fn f c=>cases h
 |_=>refine⟨h,?_⟩;simp[V.P4,V.deep] at h<;>subst h<;>rfl
def zq (a:Act):ResultVar→Sem Value
 | .tmp t=>pure (a.tmps.getD t undef)
 | .cell c t=>do loadVar t (←asAddr (a.tmps.getD c undef))
theorem Cb {g:Gh} {x y:V} {v:Value} (h:aT g x v) (a:x.P4=some y):bP g y v∧nZ y=true:=by obtain⟨a,c⟩:=qb a;have b:=jP a;exact⟨aZ (by cases y<;>first|rfl|cases c) (bZ b (oL h a)),c⟩
theorem Sb {s:St} {g:Gh} {a:Act} {w U:World} (z:Inv E B G0 U s g a w) {x:ResultVar} {y:V} (h:yh E.P s x=some y): ∃u,(zq a x).run E.P w=.ok u w∧bP g y u∧nZ y=true:=by
 cases x with
 |tmp t=>
  have d:aT g (slot s.fr t).D3 (a.tmps.getD t undef):=zD (gD z.fr z.ku (.tmp t));refine⟨a.tmps.getD t undef,rfl,?_⟩;simp only[yh] at h;split at h
  ·rename_i e sh Z xs m
   simp only[aR] at h;subst h;rw[m] at d;exact⟨aZ rfl d,rfl⟩
  exact Cb d h
 |cell c t=>
  have d:aT g (slot s.fr c) (a.tmps.getD c undef):=gD z.fr z.ku (.tmp c);simp only[yh] at h;split at h
  ·rename_i k off m
   rw[m] at d;obtain⟨b,Q,i⟩:=dV.1 d;have l:(zq a (.cell c t)).run E.P w=(loadVar t ⟨b,off,none⟩).run E.P w:=by simp only[zq,Sem.run_bind,i,Go.asAddr,Sem.run_pure,Result.andThen_ok]
   split at h
   ·rename_i cells S
    obtain⟨Y,F,e,p,_,T,q,_,_⟩:=z.bxs.1 k cells S;rw[Q] at p;simp only[aR] at p;subst p;have f: ∀(j:Nat) v,F.toList[j]? =some v→w.cell? ⟨b,j,none⟩=some v:=by intro j v i;simp only[World.cell?,T];simpa using i
    split at h
    ·rename_i o
     split at h
     ·rename_i n W
      split at h
      ·rename_i R H
       simp only[aR] at h;subst h;obtain⟨N,D⟩:=KY H q;have r:((F.toList.drop off).take n).length=n:=by rw[JG,Tn];omega
       obtain⟨X,O,C⟩:=Eg o;obtain⟨ii,L,J⟩:=lC W;have:=run_loadVar_mid (P:=E.P) w b off t ((F.toList.drop off).take n) X (fun j v i=>by
        rw[SY] at i;split at i
        ·rw[Tk] at i;exact f _ _ i
        cases i) O C (by rw[L,r];simp[J])
       refine⟨_,l.trans this,?_,rfl⟩;show aV g.G (.agg R) _;unfold aV;exact⟨_,rfl,(fH _ _).2 D⟩
      cases h
     cases h
    ·rename_i o
     obtain⟨N,D⟩:=aP h;have A:off<cells.length:=by simpa[Gb] using N
     obtain⟨v,I,K⟩:=q.get (getD_some A);have M:(loadVar t ⟨b,off,none⟩).run E.P w=.ok v w:=by simp only[loadVar,Sem.run_bind,mR o,Result.andThen_ok,JP,Cu,run_load,f _ _ I]
     exact⟨v,l.trans M,Cb K D⟩
    cases h
   cases h
  cases h
theorem ED {s:St} {x:ResultVar} {y:V} (h:yh E.P s x=some y):y.plain=true∨(∃e sh o xs,y=.sl e sh o xs)∨ ∃b,y=.agg b:=by
 cases x with
 |tmp t=>
  simp only[yh] at h;split at h
  ·simp only[aR] at h;exact .inr (.inl ⟨_,_,_,_,h.symm⟩)
  exact .inl (jP (qb h).1)
 |cell c t=>
  simp only[yh] at h;split at h
  ·split at h
   ·split at h
    ·split at h
     ·split at h
      ·simp only[aR] at h;exact .inr (.inr ⟨_,h.symm⟩)
      cases h
     cases h
    ·obtain⟨_,a⟩:=aP h
     exact .inl (jP (qb a).1)
    cases h
   cases h
  cases h
theorem Zy {s:St} {x:ResultVar} {y:V} (h:yh E.P s x=some y):nZ y=true:=by
 cases x with
 |tmp t=>
  simp only[yh] at h;split at h
  ·simp only[aR] at h;subst h;rfl
  exact(qb h).2
 |cell c t=>
  simp only[yh] at h;split at h
  ·split at h
   ·split at h
    ·split at h
     ·split at h
      ·simp only[aR] at h;subst h;rfl
      cases h
     cases h
    ·obtain⟨_,a⟩:=aP h
     exact(qb a).2
    cases h
   cases h
  cases h
theorem ru {s:St} {g:Gh} {a:Act} {w j:World} (c:Inv E B G0 j s g a w): ∀(rs:List ResultVar) (vs:ah),rT E.P s rs=some vs→
  ∃us:List Value,(rs.mapM (zq a)).run E.P w=.ok us w∧PW (fun x v=>bP g x v∧nZ x=true) vs us
 |[],vs,h=>by simp only[rT,aR] at h;subst h;exact⟨[],rfl,.nil⟩
 |x::rs,vs,h=>by
  simp only[rT] at h;split at h
  ·cases h
  rename_i y f;split at h
  ·cases h
  rename_i b i;simp only[aR] at h;subst h;obtain⟨us,k,d⟩:=ru c rs b i;obtain⟨u,l,e⟩:=Sb c f;refine⟨u::us,?_,.cons e d⟩;rw[acW];simp only[Sem.run_bind,l,Sem.run_pure,Result.andThen_ok,k]
theorem sK {g:Gh} {w:World} (d:Ph B g w): ∀(vs:ah) (us:List Value) (b:Bool),PW (fun x v=>bP g x v∧nZ x=true) vs us→PW (nS g.G w B.m) (gQ 0 b vs) us∧(gQ 0 b vs).countP tJ≤(if b then 1 else 0)
 |[],us,b,h=>by rw[h.di];cases b<;>exact⟨.nil,by simp[gQ]⟩
 |x::vs,us,b,h=>by
  obtain⟨u,t,rfl,⟨k,j⟩,f⟩:=h.cons_inv;have a:x.single=true:=by cases x<;>first|rfl|cases j
  have i:=Ca d a j k
  cases x with
  |sl e sh n xs=>
   cases n with
   |some L=>
    cases b with
    |true=>
     obtain⟨p,c⟩:=sK d vs t false f;refine⟨.cons i p,?_⟩;show(V.sl e sh (some 0) xs::gQ 0 false vs).countP tJ≤1;rw[abD];simp only[tJ,if_true];simp at c;have:List.countP tJ (gQ 0 false vs)=0:=by rw[List.countP_eq_zero];intro y l;have:=c y l;simpa using this
     omega
    |false=>obtain⟨p,c⟩:=sK d vs t false f;refine⟨.cons (show aV g.G (V.sl e sh none xs) u from nK k.2) p,?_⟩;show(V.sl e sh none xs::gQ 0 false vs).countP tJ≤_;rw[abD];simpa[tJ] using c
   |none=>
    obtain⟨p,c⟩:=sK d vs t b f;have o:gQ 0 b (V.sl e sh none xs::vs)=V.sl e sh none xs::gQ 0 b vs:=by cases b<;>rfl
    rw[o];refine⟨.cons i p,?_⟩;rw[abD];simpa[tJ] using c
  |_=>
   obtain⟨p,c⟩:=sK d vs t b f
   cases b<;>exact⟨.cons i p,by simp only[gQ];rw[abD];simpa[tJ] using c⟩
def AP:List Value→Value
 |[u]=>u
 |us=> .tuple us.toArray
theorem nQ {fn:Func} {a:Act} {w:World} {us:List Value} (h:(fn.results.toList.mapM (zq a)).run E.P w=.ok us w):
  (results fn a.tmps).run E.P w=.ok (AP us) w:=by
 have b:results fn a.tmps=(do let vs←fn.results.mapM (zq a);pure (if h:vs.size=1 then vs[0] else .tuple vs)):=by unfold results;congr 1
 rw[b,Array.mapM_eq_mapM_toList];simp only[Sem.run_bind,Sem.run_map,h,Result.andThen_ok,Sem.run_pure];congr 1;match us with
 |[]=>simp[AP]
 |[u]=>simp[AP]
 |u::v::l=>simp[AP]
theorem ret_res {g:Gh} {w:World} (e:Ph B g w) {vs:ah} {us:List Value} (h:PW (fun x v=>bP g x v∧nZ x=true) vs us):fP g.G w B.m (P5 vs) (AP us):=by
 have a: ∀(vs:ah) (us:List Value),PW (fun x v=>bP g x v∧nZ x=true) vs us→fP g.G w B.m (.tup (gQ 0 true vs)) (.tuple us.toArray):=fun vs us h=>by obtain⟨p,c⟩:=sK e vs us true h;exact⟨us,rfl,p,by simpa using c⟩
 match vs,us,h with
 |[],us,h=>rw[h.di];exact a [] [] .nil
 |[x],us,h=>
  obtain⟨u,t,rfl,⟨k,d⟩,i⟩:=h.cons_inv;rw[i.di];have b:x.single=true:=by cases x<;>first|rfl|cases d
  have j:=Ca e b d k;show fP g.G w B.m x u
  cases x with
  |tup _=>cases d
  |_=>exact j
 |x::y::vs,us,h=>
  have f:=h.1;match us,f with
  |u::v::us,_=>exact a _ _ h
end
end Nt.Ev
