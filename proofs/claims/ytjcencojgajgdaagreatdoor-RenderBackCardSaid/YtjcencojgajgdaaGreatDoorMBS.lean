/-
  A region that draws its order, of whose operations some may be taken first: copies, and slicings of slices.
-/
import Derived.Test.YtjcencojgajgdaaGreatDoorMB
set_option linter.all false
namespace Nt.Ev
open Go Go.RowKit
section
variable {P:Program} {ops:Array Oper} {Q:Exit→Act→World→Prop}
theorem IU (p:List Nat):(dA ops p).size=p.length:=by unfold dA;simp
theorem Gb {p:List Nat} {k:Nat} (a:k<p.length):(dA ops p)[k]? =some (QD p (ops.getD p[k] default)):=by unfold dA;simp[a]
theorem sI {i:Nat} {o:Oper} (h:ops[i]? =some o):ops.getD i default=o:=by rw[Ah,h];rfl
theorem Mg {p:List Nat} {o:Oper} {e:Edge}:e∈(QD p o).after↔ ∃a∈o.after,a.on∈p∧e={a with on:=p.idxOf a.on}:=by
 unfold QD;constructor
 ·intro h
  simp only[List.mem_toArray,ada,abP,ack] at h;obtain⟨a,⟨c,b⟩,rfl⟩:=h;exact⟨a,c,by simpa using b,rfl⟩
 rintro⟨a,c,b,rfl⟩;simp only[List.mem_toArray,ada,abP,ack];exact⟨a,⟨c,by simpa using b⟩,rfl⟩
theorem adF (a:Region.Mode) (e:Edge) (n:Nat):Region.binds a {e with on:=n}=Region.binds a e:=rfl
theorem sub_wp (p:List Nat) (o:Oper) (a:Act) (w:World) (K:Act→World→Prop):(QD p o).wp P a w K Q=o.wp P a w K Q:=rfl
theorem sub_asks (p:List Nat) (o:Oper) (a:Act) (w:World):(QD p o).asks P a w=o.asks P a w:=rfl
theorem w9 {p:List Nat} {i:Nat} (h:i∈p): ∃a:p.idxOf i<p.length,p[p.idxOf i]=i:=⟨List.idxOf_lt_length_of_mem h,List.getElem_idxOf _⟩
theorem JG {p:List Nat} (h:Ll ops p=true) {i:Nat} {o:Oper} (c:ops[i]? =some o):(∀j b,o.guard=some (j,b)→j∈p)∧ ∀e∈o.after,e.on<ops.size:=by
 unfold Ll at h;rw[lM] at h;have a:=h o (by rw[ack];exact abU c);rw[bF,lM] at a;refine⟨fun j b f=>?_,fun e d=>?_⟩
 ·have:=a.1
  rw[f] at this;simpa using this
 exact ko (a.2 e (by simpa using d))
theorem X0 {p:List Nat} (W:p.Nodup) (A: ∀i∈p,i<ops.size) (S:Ll ops p=true): ∀(fuel:Nat) (f c:Array Bool) (a:Act) (w:World),f.size=ops.size→c.size=p.length→
  (∀i,i<ops.size→i∉p→f.getD i false=true)→(∀(k:Nat) (y:k<p.length) (d:Bool),f.getD p[k] d=c.getD k d)→wpAny P .any (dA ops p) Q fuel c a w→wpAny P .any ops Q fuel f a w:=by
 have C: ∀(f c:Array Bool),f.size=ops.size→c.size=p.length→(∀i,i<ops.size→i∉p→f.getD i false=true)→(∀(k:Nat) (y:k<p.length) (d:Bool),f.getD p[k] d=c.getD k d)→
   (∀i,i∈Region.ready .any ops f→i∈p∧p.idxOf i∈Region.ready .any (dA ops p) c)∧(Region.ready .any ops f=[]→Region.ready .any (dA ops p) c=[]):=by
  intro f c V L F z;refine⟨fun i R=>?_,fun hr=>?_⟩
  ·obtain⟨O,o,x,G⟩:=mem_ready.1 R
   have l:i<ops.size:=(Array.getElem?_eq_some_iff.1 x).1;have m:i∈p:=by
    refine Classical.byContradiction fun hn=>?_
    have:=F i l hn;have J:i<f.size:=by omega
    simp only[Ah,Ap J,yU] at O this;rw[O] at this;cases this
   obtain⟨y,r⟩:=w9 m;refine⟨m,mem_ready.2 ⟨?_,_,Gb y,fun e T Y=>?_⟩⟩
   ·rw[←z _ y,r];exact O
   rw[r,sI x] at T;obtain⟨e0,X,u,rfl⟩:=Mg.1 T;obtain⟨v,n⟩:=w9 u;show c.getD (p.idxOf e0.on) false=true;rw[←z _ v,n];exact G e0 X (by rwa [adF] at Y)
  refine List.eq_nil_iff_forall_not_mem.2 fun k y=>?_
  obtain⟨O,o',B,G⟩:=mem_ready.1 y;have s:k<p.length:=by have:=(Array.getElem?_eq_some_iff.1 B).1;rwa [IU] at this
  rw[Gb s] at B;simp only[aT] at B;subst B;have l:p[k]<ops.size:=A _ (GV s);have x:ops[p[k]]? =some (ops[p[k]]'l):=by simp[l]
  have:p[k]∈Region.ready .any ops f:=by
   refine mem_ready.2 ⟨by rw[z k s];exact O,_,x,fun e T Y=>?_⟩;by_cases u:e.on∈p
   ·obtain⟨v,n⟩:=w9 u
    have:=G {e with on:=p.idxOf e.on} (by rw[sI x];exact Mg.2 ⟨e,T,u,rfl⟩) Y;have J:=z _ v false;rw[n] at J;rw[J];exact this
   exact F _ ((JG S x).2 e T) u
  rw[hr] at this
  cases this
 have N: ∀(i:Nat) (K K':Act→World→Prop) (a:Act) (w:World),i∈p→(∀a w,K' a w→K a w)→wpOp P (dA ops p) Q (p.idxOf i) K' a w→wpOp P ops Q i K a w:=by
  intro i K K' a w m hK h;obtain⟨y,r⟩:=w9 m;have l:=A i m;have x:ops[i]? =some (ops[i]'l):=by simp[l]
  unfold wpOp at h⊢;rw[Gb y,r,sI x] at h;rw[x];simp only at h⊢;have hw:Region.wanted (QD p (ops[i]'l)) (yielded (dA ops p) a.tmps)=Region.wanted (ops[i]'l) (yielded ops a.tmps):=by
   unfold Region.wanted;have hg:(QD p (ops[i]'l)).guard=(ops[i]'l).guard.map fun g=>(p.idxOf g.1,g.2):=rfl
   rw[hg]
   cases Z:(ops[i]'l).guard with
   |none=>rfl
   |some g=>
    obtain⟨j,b⟩:=g;have t:=(JG S x).1 j b Z;obtain⟨v,n⟩:=w9 t;have M:=A j t;have U:ops[j]? =some (ops[j]'M):=by simp[M]
    have:yielded (dA ops p) a.tmps (p.idxOf j)=yielded ops a.tmps j:=by unfold yielded;rw[Gb v,n,sI U,U];rfl
    simp only[xV,this]
  rw[hw] at h;split at h
  ·rename_i I
   rw[if_pos I];rw[sub_wp,sub_asks] at h;exact h.imp (Oper.wp_mono hK) id
  rename_i I;rw[if_neg I];exact hK _ _ h
 intro fuel;induction fuel with
 |zero=>
  intro f c a w V L F z h;refine⟨?_,h.2⟩;refine List.eq_nil_iff_forall_not_mem.2 fun i R=>?_
  have:=((C f c V L F z).1 i R).2;rw[h.1] at this
  cases this
 |succ fuel ih=>
  intro f c a w V L F z h;obtain⟨r1,r2⟩:=C f c V L F z;refine⟨fun hr=>h.1 (r2 hr),fun i R=>?_⟩;obtain⟨m,y⟩:=r1 i R;obtain⟨s,r⟩:=w9 m;refine N i _ _ a w m (fun a w hq=>?_) (h.2 _ y);refine ih _ _ a w (by simpa using V) (by simpa using L) (fun j hj t=>?_) (fun k E d=>?_) hq
  ·have D:i≠j:=fun e=>t (e▸m)
   rw[getD_set_ne false D];exact F j hj t
  by_cases e:p[k]=i
  ·have H:p.idxOf i=k:=by
    refine Classical.byContradiction fun D=>?_
    have h7:p[p.idxOf i]=p[k]:=by rw[r,e]
    rcases Nat.lt_or_gt_of_ne D with h8|h8
    ·exact List.pairwise_iff_getElem.1 W _ _ s E h8 h7
    exact List.pairwise_iff_getElem.1 W _ _ E s h8 h7.symm
   rw[e,H];have l:=A i m;have J:i<f.size:=by omega
   have h6:k<c.size:=by omega
   simp[J,h6]
  have H:p.idxOf i≠k:=fun e2=>e (by subst e2;exact r)
  rw[getD_set_ne d (fun q=>e q.symm),getD_set_ne d H];exact z k E d
def jD {α:Type} (P:Program) (m:Sem α):Prop:=∀w v w',m.run P w=.ok v w'→w'=w∧ ∀a,m.run P a=.ok v a
theorem dI {α:Type} (v:α):jD P (pure v:Sem α):=by intro w a w' h;simp only[Sem.run_pure,Result.ok.injEq] at h;obtain⟨rfl,rfl⟩:=h;exact⟨rfl,fun b=>by simp only[Sem.run_pure]⟩
theorem fu {α β:Type} {m:Sem α} {k:α→Sem β} (g:jD P m) (d: ∀v,jD P (k v)):jD P (m>>= k):=by
 intro w v w' h;rw[Sem.run_bind] at h
 cases b:m.run P w with
 |ok u a=>rw[b,Result.andThen_ok] at h;obtain⟨rfl,e⟩:=g w u a b;obtain⟨rfl,f⟩:=d u a v w' h;exact⟨rfl,fun c=>by rw[Sem.run_bind,e c,Result.andThen_ok];exact f c⟩
 |halt x a=>rw[b] at h;cases h
theorem qP {α:Type} {m:Sem α} (h: ∀w v w',m.run P w≠.ok v w'):jD P m:=fun w v w' e=>absurd e (h w v w')
theorem J7 (t:TypeId):jD P (typeInfo t):=by
 intro w v w' h
 cases a:P.info? t with
 |some d=>
  have e: ∀w,(typeInfo t).run P w=.ok d w:=fun w=>by simp[typeInfo,a]
  rw[e] at h;simp only[Result.ok.injEq] at h;obtain⟨rfl,rfl⟩:=h;exact⟨rfl,e⟩
 |none=>exfalso;unfold typeInfo at h;simp[a] at h
theorem PT (t:TypeId):jD P (Go.sizeOf t):=by unfold Go.sizeOf;exact fu (J7 t) fun v=>dI _
theorem KQ (x:Value):jD P (asIntOf x):=by
 unfold asIntOf;split
 ·exact dI _
 ·exact qP fun w v w' h=>by simp[unsupported] at h
 exact qP fun w v w' h=>by simp[stuck] at h
theorem zT {α β:Type} {m:Sem α} {k:α→Sem β} (h: ∀u w v w',(k u).run P w≠.ok v w'): ∀w v w',(m>>= k).run P w≠.ok v w':=by
 intro w v w' e;rw[Sem.run_bind] at e
 cases a:m.run P w with
 |ok u b=>rw[a,Result.andThen_ok] at e;exact h u b v w' e
 |halt x b=>rw[a] at e;cases e
theorem PU {α:Type} (k:IntKind) (x y:Int) (c:BoundsCode) (w:World) (v:α) (w':World):(boundsPanic k x y c:Sem α).run P w≠.ok v w':=by
 have a: ∀(s:Bool) (w:World) (v:α) (w':World),(runtimePanic (.bounds (IntKind.i64.wrap x) y s c):Sem α).run P w≠.ok v w':=fun s w v w'=>by unfold runtimePanic;exact zT (fun p w v w' h=>by simp[goPanic] at h) w v w'
 unfold boundsPanic;simp only;split
 ·exact zT (fun u w v w'=>a u w v w') w v w'
 exact zT (fun u w v w'=>a u w v w') w v w'
theorem EJ (x:Value) (y:Nat) (c:BoundsCode):jD P (Instr.sliceBound x y c):=by
 unfold Instr.sliceBound;refine fu (KQ x) fun v=>?_
 obtain⟨k,i⟩:=v;simp only;split
 ·exact dI _
 exact qP (PU k i y c)
theorem PV (b:Bool) (len cap:Nat) (a c:Option Value):jD P (Instr.sliceBounds b len cap a c none):=by
 unfold Instr.sliceBounds;refine fu (dI _) fun m=>?_
 have hL: ∀h:Nat,jD P (match a with
   |some v=>do let l←Instr.sliceBound v h (if(none:Option Value).isSome=true then BoundsCode.slice3C else BoundsCode.sliceB);pure (l,h,m)
   |none=>do let l←pure 0;pure (l,h,m):Sem (Nat×Nat×Nat)):=fun h=>by
  cases a with
  |none=>exact fu (dI _) fun l=>dI _
  |some v=>exact fu (EJ _ _ _) fun l=>dI _
 cases c with
 |none=>exact fu (dI _) fun h=>hL h
 |some v=>exact fu (EJ _ _ _) fun h=>hL h
theorem Td {t e:TypeId} (f:P.underlying t=some (.slice e)) (x:Value) (d b:Option Value):jD P (Instr.sliceAt t x d b none):=by
 have g: ∀w,(Instr.sliceAt t x d b none).run P w=(Instr.slice t x d b none).run P w:=fun w=>by simp[Instr.sliceAt,run_underlying f]
 have o:jD P (Instr.slice t x d b none):=by
  unfold Instr.slice;intro w v w' h;simp only[Sem.run_bind,run_underlying f,Result.andThen_ok] at h⊢;split at h
  ·exact nomatch ‹TypeDesc.slice e=TypeDesc.string›
  ·rename_i c a len cap p
   have k:jD P (do let (l,h,m)←Instr.sliceBounds true len cap d b none;let size←Go.sizeOf c;pure (Value.slice (if m=l then a else a.map (·.add (l*size))) (h-l) (m-l))):=
    fu (PV _ _ _ _ _) fun v=>fu (PT _) fun s=>dI _
   exact k w v w' h
  ·exact nomatch ‹TypeDesc.slice e=TypeDesc.pointer _›
  simp[stuck] at h
 intro w v w' h;rw[g] at h;obtain⟨j,i⟩:=o w v w' h;exact⟨j,fun n=>by rw[g];exact i n⟩
theorem VQ (x:Value):jD P (Instr.sureAddr x):=by
 unfold Instr.sureAddr;split
 ·exact dI _
 exact qP fun w v w' h=>by simp[stuck] at h
theorem Te {t:TypeId} {f:Nat} (c:fldNZ P t f=true) (x:Value):jD P (Instr.fieldAt t x f):=by
 unfold fldNZ at c;split at c
 ·rename_i r n
  split at c
  ·rename_i d k
   split at c
   ·rename_i i o
    have g:i.size≠0:=by simpa using c
    have e: ∀(a:Addr) w,(fieldPlace a d).run P w=.ok (a.add d.offset) w:=fun a w=>by simp[fieldPlace,Go.sizeOf,typeInfo,o,g]
    have q:jD P (do let a←Instr.sureAddr x;pure (Value.pointer (some (←fieldPlace a d)))):=by
     refine fu (VQ x) fun a=>fu ?_ fun b=>dI _
     intro w v w' h;rw[e a w] at h;simp only[Result.ok.injEq] at h;obtain⟨rfl,rfl⟩:=h;exact⟨rfl,fun j=>e a j⟩
    intro w v w' h;have l: ∀w,(Instr.fieldAt t x f).run P w=(do let a←Instr.sureAddr x;pure (Value.pointer (some (←fieldPlace a d))):Sem Value).run P w:=fun w=>by unfold Instr.fieldAt;simp only[Sem.run_bind,run_underlying n,Result.andThen_ok,k]
    rw[l] at h;obtain⟨p,m⟩:=q w v w' h;exact⟨p,fun j=>by rw[l];exact m j⟩
   cases c
  cases c
 cases c
def nilOkV:V→Bool
 | .eptr _ _ _ _ _ _=>true
 | .epz _ _ _ _ _=>true
 | .rptr _ _ _=>true
 | .box _ _=>true
 |_=>false
theorem OA {g:Gh} {X:V} {u:Value} (d:nilOkV X=true) (h:aU g X u): ∃a,u=.pointer (some a):=by
 cases X with
 |eptr L e sh xs i off=>obtain⟨_,b,_,_,_,_,_,c⟩:=mH.1 h;exact⟨_,c⟩
 |epz L e f i off=>obtain⟨_,b,_,_,_,_,_,_,c⟩:=pK.1 h;exact⟨_,c⟩
 |rptr sh x off=>obtain⟨b,q,l,c,_⟩:=iU.1 h;exact⟨_,c⟩
 |box k off=>obtain⟨b,_,c⟩:=d9.1 h;exact⟨_,c⟩
 |_=>cases d
theorem OB {P:Program} {r:Operand→V} {bx:List (Nat×ah)} {o:Oper} {x:Operand} {a:Bool×Eff} (b:o.op=.nilCheck x) (h:Uk P r bx o=some a):nilOkV (r x)=true:=by
 unfold Uk at h;rw[b] at h;simp only at h
 cases c:r x<;>rw[c] at h<;>first|rfl|cases h
theorem opR_nil {E:Env} {fr:ah} {bx:List (Nat×ah)} {o:Oper} {x:Operand} {b:Bool×Eff} {g:Gh} {ac:Act} (d:o.op=.nilCheck x) (e: ∀y,aU g (nk E fr y) (ac.eval y)) (h:Kh E fr bx o=some b): ∃a,ac.eval x=.pointer (some a):=by
 unfold Kh at h;simp only at h
 cases i:o.op.operands.toList.any fun x=>(nk E fr x).QR with
 |false=>rw[i] at h;exact OA (OB d h) (e x)
 |true=>
  rw[i,lC] at h;have f:Uk E.P (fun x=>(nk E fr x).Ef) bx o=some b→ ∃a,ac.eval x=.pointer (some a):=fun h=>OA (OB d h) (zI (e x))
  split at h
  ·rename_i c v j
   exact OA (OB d j) (LG (e x))
  exact f h
theorem Tf {o:Oper} (h:A9 P o=true) {ρ:Operand→Value} (d: ∀x,o.op=.nilCheck x→ ∃a,ρ x=.pointer (some a)) {w w':World} {u:Value} (j:(execOp ρ o).run P w=.ok (.value u) w'): ∀i,(execOp ρ o).run P i=.ok (.value u) i:=by
 unfold A9 at h;rw[bF,bF] at h;have c:=h.1.1;have l:jD P (execOp ρ o):=by
  split at c
  ·rename_i x b
   have:execOp ρ o=pure (.value (ρ x)):=by simp only[execOp,b]
   rw[this];exact dI _
  ·rename_i x b
   obtain⟨a,n⟩:=d x b;have:execOp ρ o=pure (.value (.pointer (some a))):=by simp only[execOp,b,n]
   rw[this];exact dI _
  ·rename_i t x p m b
   have:execOp ρ o=(do pure (.value (←Instr.sliceAt t (ρ x) (p.map ρ) (m.map ρ) none))):=by simp only[execOp,b,Option.map_none]
   rw[this];unfold isSlT at c;split at c
   ·rename_i e k
    exact fu (Td k _ _ _) fun v=>dI _
   cases c
  ·rename_i fn first g b
   have:execOp ρ o=(do pure (.value (←Instr.makeFunc fn (first.map ρ) (g.map ρ)))):=by simp only[execOp,b]
   rw[this];exact fu (by unfold Instr.makeFunc;exact dI _) fun v=>dI _
  ·rename_i t x f b
   have:execOp ρ o=(do pure (.value (←Instr.fieldAt t (ρ x) f))):=by simp only[execOp,b]
   rw[this];exact fu (Te c _) fun v=>dI _
  cases c
 exact(l w _ w' j).2
end
section
variable {E:Env} {B:Own} {G0:aW} {w0:World}
theorem Tg {n:Nat} {ops:List Oper} (h:zo n ops=true): ∀(i:Nat) o,ops[i]? =some o→(∃d,o.dst=some d∧d<n)∧(∀(j:Nat) a,ops[j]? =some a→i≠j→o.dst≠a.dst)∧(∀e∈o.after.toList,Region.binds .any e=true→e.on<i)∧
  (∀t∈C5 o,∀(j:Nat) a,ops[j]? =some a→a.dst=some t→j<i∧ ∃e∈o.after.toList,Region.binds .any e=true∧e.on=j)∧(∀j b,o.guard=some (j,b)→j<i∧ ∃e∈o.after.toList,Region.binds .any e=true∧e.on=j):=by
 intro i o v;unfold zo at h;simp only at h;have h:=Bc h i o v;simp only[bF] at h;obtain⟨⟨⟨⟨p,w⟩,s⟩,u⟩,r⟩:=h;refine⟨?_,fun j a m k=>?_,fun e c y=>?_,fun t x j a m f=>?_,fun j b z=>?_⟩
 ·split at p
  ·rename_i d f;exact⟨d,f,by simpa[GZ] using p⟩
  cases p
 ·have:=Bc w j a m
  simp only[Kn,iJ,acO,ne_eq] at this;exact this.resolve_left k
 ·rw[lM] at s
  have:=s e c;rw[y] at this;simpa[GZ] using this
 ·rw[lM] at u
  have:=Bc (u t x) j a m;simp only[Kn,acO,ne_eq,bF,Nk,iJ,GZ] at this;rcases this with h|⟨l,e,c,q,g⟩
  ·exact absurd f h
  exact⟨l,e,c,q,g⟩
 rw[z] at r;simp only[bF,Nk,iJ,GZ] at r;obtain⟨l,e,c,q,g⟩:=r;exact⟨l,e,c,q,g⟩
theorem Ti {ops:List Oper} {s e:St} {o:Oper} (h: ∀j a b d,o.guard=some (j,a)→ops[j]? =some b→b.dst=some d→slot s.fr d=slot e.fr d):ku ops s o=ku ops e o:=by
 unfold ku;split
 ·rfl
 rename_i j a g;split
 ·rfl
 rename_i b c;split
 ·rfl
 rename_i d f;rw[h j a b d g c f]
theorem take_get {l:List Oper} {m i:Nat} {o:Oper} (h:(l.take m)[i]? =some o):l[i]? =some o∧i<m:=by
 rw[Qt] at h;split at h
 ·exact⟨h,by assumption⟩
 cases h
theorem IV {l:List Oper} {m i:Nat} {o:Oper} (h:l[i]? =some o) (a:i<m):(l.take m)[i]? =some o:=by rw[Qt,if_pos a];exact h
theorem IW: ∀(m l:List Nat) (x:Nat),x∈addN l m→x∈l∨x∈m
 |[],l,x,h=> .inl h
 |a::m,l,x,h=>by
  unfold addN at h
  cases b:l.contains a with
  |true=>rw[b,lC] at h;exact(IW m l x h).imp id (uO _)
  |false=>
   rw[b,jW] at h;rcases IW m _ x h with h|h
   ·rcases List.mem_cons.1 h with rfl|h
    ·exact .inr rf
    exact .inl h
   exact .inr (uO _ h)
theorem jU {o:Oper} {x:Nat} (h:x∈jh o): ∃e∈o.after.toList,Region.binds .any e=true∧e.on=x:=by unfold jh at h;obtain⟨e,a,rfl⟩:=List.mem_map.1 h;rw[abP] at a;exact⟨e,a.1,a.2,rfl⟩
theorem VR {c b:Bool} (h:(bif c then b else false)=true):c=true∧b=true:=by cases c<;>first|exact⟨rfl,h⟩|cases h
theorem DJ: ∀(l:List Nat) (k:List Nat→Bool),Ii l k=k l
 |[],_=>rfl
 |a::l,k=>by unfold Ii;exact DJ l _
theorem JH {ops:List Oper}: ∀(n j i k:Nat) (o:Oper),waits ops n j i=true→ops[i]? =some o→k∈jh o→ ∃b,waits ops b j k=true
 |0,j,i,k,o,h,_,_=>by cases h
 |n+1,j,i,k,o,h,f,l=>by
  unfold waits at h;split at h
  ·rename_i r a
   simp only[Nk,bF,Kn,iJ] at h;obtain⟨e,m,g,h⟩:=h;rcases h with h|h
   ·obtain⟨q,c,d,rfl⟩:=jU l
    refine⟨2,?_⟩;unfold waits;rw[a];simp only[Nk,bF,Kn,iJ];refine⟨e,m,g,.inr ?_⟩;unfold waits;rw[h,f];simp only[Nk,bF,Kn,iJ];exact⟨q,c,d,.inl rfl⟩
   obtain⟨b,p⟩:=JH n e.on i k o h f l;refine⟨b+1,?_⟩;unfold waits;rw[a];simp only[Nk,bF,Kn,iJ];exact⟨e,m,g,.inr p⟩
  cases h
theorem EK {ops:List Oper} {j:Nat}: ∀(n:Nat) (S:List Nat),NJ ops n S=true→(∀x∈S,∃k,waits ops k j x=true)→ ∀i,i<n→ ∃k,waits ops k j i=true
 |0,S,_,_,i,g=>by omega
 |n+1,S,h,d,i,g=>by
  unfold NJ at h;obtain⟨m,b⟩:=VR h;have c: ∃k,waits ops k j n=true:=d n (by simpa using m);rw[DJ] at b;by_cases e:i=n
  ·subst e;exact c
  refine EK n _ b (fun x a=>?_) i (by omega);rcases IW _ _ _ a with a|a
  ·exact d x a
  obtain⟨k,l⟩:=c;split at a
  ·rename_i o f;exact JH k j n x o l f a
  cases a
theorem EL {ops:List Oper}: ∀(n m:Nat),NL ops m n=true→ ∀j,m≤j→j<m+n→A8 ops j=true
 |0,m,_,j,b,a=>by omega
 |n+1,m,h,j,b,a=>by
  unfold NL at h;rw[bF] at h;by_cases e:j=m
  ·subst e;exact h.1
  exact EL n (m+1) h.2 j (by omega) (by omega)
theorem ul {ops:List Oper} {m:Nat} (h:sD ops m=true): ∀(j:Nat) o,ops[j]? =some o→m≤j→(∀e∈o.after.toList,Region.binds .any e=true→e.on<j)∧ ∀i,i<j→ ∃n,waits ops n j i=true:=by
 intro j o c p;unfold sD at h;have f:j<ops.length:=(List.getElem?_eq_some_iff.1 c).1;have a:=EL _ _ h j p (by omega);unfold A8 at a;rw[c] at a;simp only[bF,lM,DJ] at a;refine⟨fun e l g=>ko (a.1 e.on ?_),EK j _ a.2 fun x k=>?_⟩
 ·unfold jh
  exact List.mem_map.2 ⟨e,List.mem_filter.2 ⟨l,g⟩,rfl⟩
 obtain⟨q,b,d,rfl⟩:=jU k;refine⟨1,?_⟩;unfold waits;rw[c];simp only[Nk,bF,Kn,iJ];exact⟨q,b,d,.inl rfl⟩
theorem tail_any {P:Program} {ops:Array Oper} {Q:Exit→Act→World→Prop} {m:Nat} (D: ∀(j:Nat) o,ops.toList[j]? =some o→m≤j→(∀e∈o.after.toList,Region.binds .any e=true→e.on<j)∧ ∀i,m≤i→i<j→ ∃n,waits ops.toList n j i=true) (O: ∀(j:Nat) o,ops.toList[j]? =some o→ ∀e∈o.after.toList,Region.binds .any e=true→e.on<j): ∀(n k:Nat) (fuel:Nat) (b:Array Bool) (a:Act) (w:World),k+n=ops.size→m≤k→b.size=ops.size→(∀i,i<ops.size→b.getD i false=decide (i<k))→n≤fuel→
  wpOps P ops Q (List.range' k n) a w→wpAny P .any ops Q fuel b a w:=by
 intro n;induction n with
 |zero=>
  intro k fuel b a w H t C g V h;have G:Region.ready .any ops b=[]:=by
   rw[acF];intro i c;obtain⟨y,o,F,_⟩:=mem_ready.1 c;have K:i<ops.size:=(Array.getElem?_eq_some_iff.1 F).1;have r:i<b.size:=by omega
   have d:=g i K;simp only[Ah,Ap r,yU] at y d;rw[y] at d;have:=acU d.symm;omega
  cases fuel with
  |zero=>exact⟨G,h⟩
  |succ fuel=>exact⟨fun _=>h,fun i c=>by rw[G] at c;cases c⟩
 |succ n X=>
  intro k fuel b a w H t C g V h
  cases fuel with
  |zero=>omega
  |succ fuel=>
   have E:k<ops.size:=by omega
   have L:ops.toList[k]? =some ops[k]:=by simp[E]
   have l: ∀i,i∈Region.ready .any ops b→i=k:=by
    intro i c;obtain⟨y,o,F,p⟩:=mem_ready.1 c;have K:i<ops.size:=(Array.getElem?_eq_some_iff.1 F).1;have r:i<b.size:=by omega
    have d:=g i K;simp only[Ah,Ap r,yU] at y d;rw[y] at d;have S:=acU d.symm;by_cases e:i=k
    ·exact e
    exfalso;have B:ops.toList[i]? =some o:=by simpa using F
    obtain⟨_,T⟩:=D i o B (by omega);obtain⟨Y,J⟩:=T k t (by omega);have N:Closed ops.toList (fun i=>b.getD i false):=by
     intro j U z f x s u;have f:b.getD j false=true:=f;have M:j<ops.size:=by have:=(List.getElem?_eq_some_iff.1 z).1;simpa using this
     rw[g j M] at f;have q:=O j U z x (by simpa using s) u;have I:=FY f;show b.getD x.on false=true;rw[g x.on (by omega)];simp;omega
    have v: ∀(n:Nat),waits ops.toList n i k=true→b.getD k false=true:=by
     intro n A
     cases n with
     |zero=>cases A
     |succ n=>
      unfold waits at A;rw[B] at A;simp only[Nk,bF,Kn,iJ] at A;obtain⟨x,s,u,q⟩:=A;have I:=p x (by simpa using s) u;rcases q with q|q
      ·rw[←q];exact I
      exact l5 N n x.on k q I
    have:=v _ J;rw[g k E] at this;have:=FY this;omega
   refine⟨fun G=>?_,fun i c=>?_⟩
   ·exfalso
    have:k∈Region.ready .any ops b:=by
     have r:k<b.size:=by omega
     have d:=g k E;refine mem_ready.2 ⟨?_,ops[k],by simp[E],fun e W R=>?_⟩
     ·simp only[Ah,Ap r,yU] at d⊢
      rw[d];simp
     have q:=(D k _ L t).1 e (by simpa using W) R;rw[g e.on (by omega)];simpa using q
    rw[G] at this;cases this
   obtain rfl:=l i c;rw[ac8,wpOps_cons] at h;refine wpOp_mono (fun a w h=>?_) h;refine X (i+1) fuel _ a w (by omega) (by omega) (by simpa using C) (fun j M=>?_) (by omega) h;by_cases e:j=i
   ·subst e
    have r:j<b.size:=by omega
    simp[r]
   have:(b.setIfInBounds i true).getD j false=b.getD j false:=getD_set_ne false (fun h=>e h.symm);rw[this,g j M];have:(j<i)↔(j<i+1):=by omega
   simp only[this]
theorem VS {P:Program} {Q:Exit→Act→World→Prop} {o:Oper} {a:Act} {w:World} {K:Act→World→Prop} {x:Operand} {i:Nat} (d:o.op=.extract x i) (h:o.wp P a w K Q):
  ∃v,(∀w,(execOp a.eval o).run P w=.ok (.value v) w)∧K (a.put o.dst v) w:=by
 have e:execOp a.eval o=(do pure (.value (←Instr.extract (a.eval x) i))):=by unfold execOp;simp only[d]
 unfold Oper.wp at h;rw[e] at h⊢;unfold Instr.extract at h⊢
 cases b:a.eval x with
 |tuple vs=>
  rw[b] at h;simp only at h⊢
  cases c:vs[i]? with
  |none=>rw[c] at h;exact False.elim h
  |some v=>rw[c] at h;exact⟨v,fun w=>rfl,h⟩
 |_=>rw[b] at h;exact False.elim h
theorem VT {ops:Array Oper} {l:Nat} (h:Xt ops l=true): ∃o x i,ops[l]? =some o∧o.op=.extract x i∧o.guard=none∧ ∀(j:Nat) c,ops[j]? =some c→j≠l→(∀e∈o.after,Region.binds .any e=true→e.on≠j)→(∀e∈c.after,Region.binds .any e=true→e.on≠l)→o.apart ops c=true:=by
 unfold Xt at h
 cases r:ops[l]? with
 |none=>rw[r] at h;cases h
 |some o=>
  rw[r] at h;simp only[bF] at h;obtain⟨⟨v,s⟩,t⟩:=h;have k: ∃x i,o.op=.extract x i:=by
   cases n:o.op with
   |extract x i=>exact⟨x,i,rfl⟩
   |_=>rw[n] at v;cases v
  obtain⟨x,i,k⟩:=k;have f:o.guard=none:=by
   cases f:o.guard with
   |none=>rfl
   |some _=>rw[f] at s;cases s
  refine⟨o,x,i,rfl,k,f,fun j c u p d g=>?_⟩;rw[lM] at t;have a:=t j (List.mem_range.2 (Array.getElem?_eq_some_iff.1 u).1);rw[u] at a;simp only[Kn,iJ,p,false_or,abt] at a;rcases a with(a|a)|a
  ·obtain⟨e,q,m,b⟩:=jU a
   exact absurd b (d e (by simpa using q) m)
  ·obtain⟨e,q,m,b⟩:=jU a
   exact absurd b (g e (by simpa using q) m)
  exact a
theorem Mh (hE:uQ E) {ops:Array Oper} {Q:Exit→Act→World→Prop} {q sN:St} {g:Gh} {a:Act} {w:World} {m:Nat} (hok:zo q.fr.length (ops.toList.take m)=true) {late:Nat→Bool}
  (hch: ∀(j:Nat) o,ops.toList[j]? =some o→m≤j→(∀e∈o.after.toList,Region.binds .any e=true→e.on<j)∧ ∀i,i<j→(∃n,waits ops.toList n j i=true)∨late i=true)
  (J: ∀l,late l=true→l<m∧Xt ops l=true∧Region.noSelect ops=true∧ ∀c a d v w,Q (.panic c) (a.put d v) w→Q (.panic c) a w) (T:lD (ops.toList.take m) q=true) (hen:wW (ops.toList.take m) sN=true)
  (ht:Trace E ops.toList (some q.bx) (ops.toList.take m) q sN) (hm:m≤ops.size) (h:Inv E B G0 w0 q g a w) (hk: ∀g' a' w',Inv E B G0 w0 sN g' a' w'→wpOps E.P ops Q (List.range' m (ops.size-m)) a' w'):wpAny E.P .any ops Q ops.size (Array.replicate ops.size false) a {w with drawn:=w.drawn+1}:=by
 have V:=Tg hok;have hlm:(ops.toList.take m).length=m:=by rw[Kc];simp;omega
 have hdst: ∀o∈ops.toList.take m,∃d,o.dst=some d:=by intro o I;obtain⟨i,p⟩:=Zx I;obtain⟨⟨d,hd,_⟩,_⟩:=V i o p;exact⟨d,hd⟩
 obtain⟨r,O,hcs,hfin⟩:=JF (ops.toList.take m) q sN hdst ht;subst hfin;have D: ∀(i:Nat) o c,(ops.toList.take m)[i]? =some o→r[i]? =some c→o.dst=some c.d:=fun i o c F Y=>(hcs i o c F Y).1
 have hnd:(r.map (·.d)).Nodup:=by
  refine List.pairwise_iff_getElem.2 fun i j p A hij e=>?_
  rw[kS] at p A;have hiL:i<(ops.toList.take m).length:=by omega
  have H:j<(ops.toList.take m).length:=by omega
  have F:=D i _ _ (iK hiL) (iK p);have Y:=D j _ _ (iK H) (iK A);simp only[aco] at e;refine(V i _ (iK hiL)).2.1 j _ (iK H) (by omega) ?_;rw[F,Y,e]
 have hfr: ∀c∈r,c.d<q.fr.length:=by
  intro c hc;obtain⟨i,p⟩:=Zx hc;have hiL:i<(ops.toList.take m).length:=by rw[←O];exact(List.getElem?_eq_some_iff.1 p).1
  obtain⟨⟨d,hd,hlt⟩,_⟩:=V i _ (iK hiL);have:=D i _ c (iK hiL) p;rw[this] at hd;simp only[aT] at hd;rw[hd];exact hlt
 have hsz:ops.toList.length=ops.size:=by simp
 let sel (f:Array Bool):Nat→Bool:=fun i=>f.getD i false
 have hed: ∀(j:Nat) o,ops.toList[j]? =some o→ ∀e∈o.after.toList,Region.binds .any e=true→e.on<j:=by
  intro j o A;by_cases hjm:j<m
  ·exact(V j o (IV A hjm)).2.2.1
  exact(hch j o A (by omega)).1
 have key: ∀(fuel:Nat) (f:Array Bool) (g:Gh) (a:Act) (w:World),f.size=ops.size→(f.toList.countP fun b=>!b)≤fuel→(∀i,m≤i→f.getD i false=false)→Closed ops.toList (sel f)→Inv E B G0 w0 (bT (sel f) r 0 q) g a w→wpAny E.P .any ops Q fuel f a w:=by
  have full: ∀(fuel:Nat) (f:Array Bool) (g:Gh) (a:Act) (w:World),f.size=ops.size→(f.toList.countP fun b=>!b)≤fuel→(∀i,m≤i→f.getD i false=false)→(∀i,i<m→f.getD i false=true)→Inv E B G0 w0 (bT (sel f) r 0 q) g a w→wpAny E.P .any ops Q fuel f a w:=by
   intro fuel f g a w L hc M R p;have e1:bT (sel f) r 0 q=bT (fun _=>true) r 0 q:=qO _ _ r 0 q fun i _ p=>R i (by omega)
   rw[e1] at p;refine tail_any (fun j o I A=>⟨(hch j o I A).1,fun i hmi hij=>((hch j o I A).2 i hij).resolve_right fun hl=>by have:=(J i hl).1;omega⟩) hed (ops.size-m) m fuel f a w (by omega) (kG _) L (fun i p=>?_) ?_ (hk g a w p)
   ·by_cases C:i<m
    ·rw[R i C];simp[C]
    rw[M i (by omega)];simp[C]
   refine FZ ?_ hc;have F:(f.toList.drop m).countP (fun b=>!b)=(f.toList.drop m).length:=by
    rw[List.countP_eq_length];intro b N;obtain⟨i,p⟩:=Zx N;rw[T3] at p;have Y:=M (m+i) (by omega);have h3:f[m+i]? =some b:=by simpa using p
    rw[Ah,h3,yU] at Y;rw[Y];rfl
   have Y:(f.toList.drop m).countP (fun b=>!b)≤f.toList.countP fun b=>!b:=List.Sublist.countP_le (List.drop_sublist _ _)
   rw[F,Ui,Km,L] at Y;exact Y
  intro fuel;induction fuel with
  |zero=>
   intro f g a w L hc M hcl p;refine full 0 f g a w L hc M (fun i C=>?_) p;have U:i<f.size:=by omega
   cases hq:f.getD i false with
   |true=>rfl
   |false=>
    exfalso;have h0:f[i]=false:=by simpa only[Ah,Ap U,yU] using hq
    have:0<f.toList.countP fun b=>!b:=List.countP_pos_iff.2 ⟨f[i],by simp,by rw[h0];rfl⟩
    omega
  |succ fuel ih=>
   intro f g a w L hc M hcl p;by_cases K: ∀i,i<m→f.getD i false=true
   ·exact full (fuel+1) f g a w L hc M K p
   have stepO: ∀i,i∈Region.ready .any ops f→i<m→ ∃o,ops[i]? =some o∧((Region.wanted o (yielded ops a.tmps)=true∧o.wp E.P a w (wpAny E.P .any ops Q fuel (f.setIfInBounds i true)) Q)∨(Region.wanted o (yielded ops a.tmps)=false∧wpAny E.P .any ops Q fuel (f.setIfInBounds i true) (a.put o.dst undef) w)):=by
    intro i C Z;obtain⟨h0,o,I,z⟩:=mem_ready.1 C;have hi':i<ops.size:=(Array.getElem?_eq_some_iff.1 I).1;have U:i<f.size:=by omega
    have h0':f[i]=false:=by simpa only[Ah,Ap U,yU] using h0
    have hsel:sel f i=false:=by show f.getD i false=false;simp only[Ah,Ap U,yU,h0']
    have hoL:ops.toList[i]? =some o:=by simpa using I
    have hoI:=IV hoL Z;have hiC:i<r.length:=by omega
    have hci:r[i]? =some r[i]:=iK hiC;generalize r[i]=c at hci;obtain⟨hod,si,_,hsi,hstep⟩:=hcs i o c hoI hci;have hspi:=V i o hoI;have hlook: ∀t,(∀(j:Nat) o',(ops.toList.take m)[j]? =some o'→o'.dst=some t→j<i∧ ∃e∈o.after.toList,Region.binds .any e=true∧e.on=j)→slot (bT (sel f) r 0 q).fr t=slot si.fr t:=by
     intro t htr;rw[hsi];by_cases hex: ∃X∈r,X.d=t
     ·obtain⟨X,hm,rfl⟩:=hex
      obtain⟨j,A⟩:=Zx hm;have H:j<(ops.toList.take m).length:=by rw[←O];exact(List.getElem?_eq_some_iff.1 A).1
      have hdj:=D j _ X (iK H) A;obtain⟨hlt,e,he,N,heq⟩:=htr j _ (iK H) hdj;have W:sel f j=true:=by rw[←heq];exact z e (by simpa using he) N
      rw[p9 (sel f) j r 0 q X (Ko _) (by simpa using A) hnd (hfr X hm),p9 (fun k=>decide (k<i)) j r 0 q X (Ko _) (by simpa using A) hnd (hfr X hm),if_pos W,if_pos (by simpa using hlt)]
     rw[nO _ t r 0 q fun X hm e=>hex ⟨X,hm,e⟩,nO _ t r 0 q fun X hm e=>hex ⟨X,hm,e⟩]
    have hclI:Closed (ops.toList.take m) (sel f):=fun j oj G=>hcl j oj (take_get G).1
    obtain⟨hnl,hnb⟩:=adE O D hnd hfr T hen hclI hci hsel;have hst':=hstep (bT (sel f) r 0 q) (Ti fun j want oj d hg G hd=>hlook d fun j' o' hj' hd'=>by
      have:j'=j:=by
       by_cases e:j'=j
       ·exact e
       exact absurd (hd'.trans hd.symm) ((V j' o' hj').2.1 j oj (IV G (by have:=(hspi.2.2.2.2 j want hg).1;omega)) e)
      subst this;exact hspi.2.2.2.2 j' want hg) (adD (VP fun t htm=>hlook t (hspi.2.2.2.1 t htm))) hnl hnb
    have halike:Alike (c.app (bT (sel f) r 0 q)) (bT (sel (f.setIfInBounds i true)) r 0 q):=by
     have F:=JE (sel f) i r 0 q c (Ko _) (by simpa using hci) hsel hnd;have e1:bT (fun j=>if j=i then true else sel f j) r 0 q=bT (sel (f.setIfInBounds i true)) r 0 q:=qO _ _ r 0 q fun j _ _=>by
      show _=(f.setIfInBounds i true).getD j false;by_cases ej:j=i
      ·subst ej;simp[U]
      rw[if_neg ej,getD_set_ne false (fun h=>ej h.symm)]
     rw[e1] at F;exact F
    have hcl':Closed ops.toList (sel (f.setIfInBounds i true)):=by
     intro j oj G W e he N;have W:(f.setIfInBounds i true).getD j false=true:=W;show(f.setIfInBounds i true).getD e.on false=true;by_cases ej:j=i
     ·subst ej
      rw[hoL] at G;simp only[aT] at G;subst G;exact getD_set_true (z e he N)
     rw[getD_set_ne false (fun h=>ej h.symm)] at W;exact getD_set_true (hcl j oj G W e he N)
    have hcount:(((f.setIfInBounds i true).toList).countP fun b=>!b)≤fuel:=by
     have h5:((f.setIfInBounds i true).toList).countP (fun b=>!b)+1=f.toList.countP fun b=>!b:=by
      rw[abR];have hil:i<f.toList.length:=by simpa using U
      have e1:f.toList=f.toList.take i++f.toList[i]::f.toList.drop (i+1):=by rw[List.getElem_cons_drop,List.take_append_drop]
      have e2:f.toList.set i true=f.toList.take i++true::f.toList.drop (i+1):=by rw[abV,if_pos hil]
      rw[e2];conv=>rhs;rw[e1]
      have e3:f.toList[i]=false:=by simpa using h0'
      rw[e3];simp only[List.countP_append,abG];simp;omega
     omega
    have next: ∀g' a' w',Inv E B G0 w0 (c.app (bT (sel f) r 0 q)) g' a' w'→wpAny E.P .any ops Q fuel (f.setIfInBounds i true) a' w':=fun g' a' w' hi'=>
     ih (f.setIfInBounds i true) g' a' w' (by simpa using L) hcount (fun j A=>by rw[getD_set_ne false (by omega)];exact M j A) hcl' (hi'.alike halike)
    refine⟨o,I,?_⟩;rcases hst' with⟨S,eff,hor,_,hr⟩|⟨S,heq⟩
    ·refine .inl ⟨iE p.fr S,?_⟩
     have hsub: ∀k ds,aK q.bx k=some ds→aK (bT (sel f) r 0 q).bx k=some ds:=by
      intro k ds hkd;have: ∀(l:List tu) (m:Nat) (s:St),(∀c∈l,∀x,c.bx=some x→c.d≠k)→aK s.bx k=some ds→aK (bT (sel f) l m s).bx k=some ds:=by
       intro l;induction l with
       |nil=>intro m s _ h;exact h
       |cons c l ih=>
        intro m s hne h;unfold bT;refine ih (m+1) _ (fun c' hc'=>hne c' (uO _ hc')) ?_;split
        ·unfold tu.app
         cases N:c.bx with
         |none=>exact h
         |some x=>
          unfold aK;have:(c.d==k)=false:=by rw[uD];exact hne c rf x N
          rw[this,jW];exact h
        exact h
      refine this r 0 q (fun X hcj x hx e=>?_) hkd;obtain⟨j,A⟩:=Zx hcj;have H:j<(ops.toList.take m).length:=by rw[←O];exact(List.getElem?_eq_some_iff.1 A).1
      have hdj:=D j _ X (iK H) A;unfold lD at T;rw[lM] at T;have h6:=T _ (GV H);rw[hdj] at h6;simp only[bF] at h6;exact(IQ h6.2 k ds hkd).1 e.symm
     have hdo:=mI (ac:=a) (B:=B) (w:=w) (g:=g) (bx:=q.bx) hE rfl p.gok p.own (p.bxs.sub hsub) p.hB p.m1 (fun y=>gD p.fr p.oZ y) hor;exact Ga p hdo hsub (fun h=>by cases h) hr fun g' a' w' h' _=>next g' a' w' h'
    refine .inr ⟨iE p.fr S,?_⟩;refine next g _ w ?_;rw[heq];exact p.put o.dst (v:=.tup []) (u:=undef) ⟨[],rfl,.nil⟩
   by_cases hL: ∃l,l∈Region.ready .any ops f∧late l=true
   ·obtain⟨l,hlr,hll⟩:=hL
    obtain⟨hlm',hlb,hns,hQ⟩:=J l hll;obtain⟨ol,x,ix,hol,hox,hog,hap⟩:=VT hlb;obtain⟨o,I,T⟩:=stepO l hlr hlm';rw[hol] at I;simp only[aT] at I;subst I;rcases T with⟨_,hwp⟩|⟨S,_⟩
    rotate_left
    ·unfold Region.wanted at S;rw[hog] at S;cases S
    obtain⟨v,hv,hK⟩:=VS hox hwp;refine wpAny_first hol (Region.noSelect_spec hns) (fun c a w=>hQ c a ol.dst v w) fuel f a w (fun j oj A hjl hun hno=>?_) hlr (.inl ⟨by unfold Region.wanted;rw[hog],hv⟩) hK;refine hap j oj A hjl (fun e he N heq=>?_) hno;obtain⟨_,o2,ho2,hal⟩:=mem_ready.1 hlr;rw[hol] at ho2;simp only[aT] at ho2;subst ho2;have F:=hal e he N;rw[heq] at F;have hj4:j<f.size:=by have:=(Array.getElem?_eq_some_iff.1 A).1;omega
    simp only[Ah,Ap hj4,yU] at F hun;rw[F] at hun;cases hun
   refine⟨fun hr=>?_,fun i C=>?_⟩
   ·exfalso
    apply K
    have R: ∀i,i<ops.size→f.getD i true=true:=by
     intro i;induction i using Nat.strongRecOn with
     |_ i ih=>
      intro p
      cases hl:f.getD i true with
      |true=>rfl
      |false=>
       have hm:i∈Region.ready .any ops f:=by
        rw[mem_ready];refine⟨hl,ops[i],by simp[p],fun e he N=>?_⟩;have F:=hed i ops[i] (by simp[p]) e (by simpa using he) N;have Y:=ih e.on F (by omega);have U:e.on<f.size:=by omega
        simp only[Ah,Ap U,yU] at Y⊢;exact Y
       rw[hr] at hm
       cases hm
    intro i C;have F:=R i (by omega);have U:i<f.size:=by omega
    simp only[Ah,Ap U,yU] at F⊢;exact F
   obtain⟨h0,o,I,z⟩:=mem_ready.1 C;have hi':i<ops.size:=(Array.getElem?_eq_some_iff.1 I).1;have U:i<f.size:=by omega
   have h0':f[i]=false:=by simpa only[Ah,Ap U,yU] using h0
   have hsel:sel f i=false:=by show f.getD i false=false;simp only[Ah,Ap U,yU,h0']
   have hoL:ops.toList[i]? =some o:=by simpa using I
   have Z:i<m:=by
    refine abv fun hmi=>K fun i' hi'm=>?_
    have key2: ∀(n:Nat) {i':Nat},waits ops.toList n i i'=true→f.getD i' false=true:=by
     intro n i' hn
     cases n with
     |zero=>cases hn
     |succ n=>
      unfold waits at hn;rw[hoL] at hn;simp only[Nk,bF,Kn,iJ] at hn;obtain⟨e2,he2,hb2,h6⟩:=hn;have h7:=z e2 (by simpa using he2) hb2;rcases h6 with h6|h6
      ·rw[←h6];exact h7
      exact l5 hcl n e2.on i' h6 h7
    obtain⟨_,S⟩:=hch i o hoL hmi;have hlt: ∀l,late l=true→f.getD l false=true:=by
     intro l;induction l using Nat.strongRecOn with
     |_ l ihl=>
      intro hll
      cases hlq:f.getD l false with
      |true=>rfl
      |false=>
       exfalso;obtain⟨hlm',hlb,_,_⟩:=J l hll;have hl4:l<f.size:=by omega
       refine hL ⟨l,mem_ready.2 ⟨?_,ops[l]'(by omega),by simp,fun e he N=>?_⟩,hll⟩
       ·simp only[Ah,Ap hl4,yU] at hlq⊢
        exact hlq
       have F:=hed l (ops[l]'(by omega)) (by simp) e (by simpa using he) N;rcases S e.on (by omega) with⟨n,hn⟩|hl2
       ·exact key2 _ hn
       exact ihl e.on F hl2
    rcases S i' (by omega) with⟨n0,hwk⟩|hl2;rotate_left
    ·exact hlt i' hl2
    exact key2 _ hwk
   obtain⟨o2,ho2,hst2⟩:=stepO i C Z;unfold wpOp;rw[ho2];simp only;rcases hst2 with⟨S,h⟩|⟨S,h⟩
   ·rw[if_pos S];exact .inl h
   rw[if_neg (by rw[S];decide)];exact h
 have hinit:Inv E B G0 w0 (bT (sel (Array.replicate ops.size false)) r 0 q) g a {w with drawn:=w.drawn+1}:=by
  have e1: ∀(l:List tu) (k:Nat),bT (sel (Array.replicate ops.size false)) l k q=q:=by
   intro l;induction l with
   |nil=>intro k;rfl
   |cons c l ih=>
    intro k;unfold bT;have:sel (Array.replicate ops.size false) k=false:=by show(Array.replicate ops.size false).getD k false=false;simp[abd];split<;>rfl
    rw[this,if_neg (by decide)];exact ih (k+1)
  rw[e1];exact h.drew
 refine key ops.size (Array.replicate ops.size false) g a _ (by simp) ?_ (fun i _=>by simp[abd];split<;>rfl) ?_ hinit
 ·exact FZ acG (by simp)
 intro j o A hs;have hs:(Array.replicate ops.size false).getD j false=true:=hs;simp only[Ah,abd] at hs;exfalso;split at hs<;>cases hs
theorem Ro (hE:uQ E) {ops:Array Oper} {id:Nat} {Q:Exit→Act→World→Prop} {f q:St} {g:Gh} {a:Act} {w:World} {m:Nat} (r:zo f.fr.length (ops.toList.take m)=true) {late:Nat→Bool}
  (s: ∀(j:Nat) o,ops.toList[j]? =some o→m≤j→(∀e∈o.after.toList,Region.binds .any e=true→e.on<j)∧ ∀i,i<j→(∃n,waits ops.toList n j i=true)∨late i=true)
  (b: ∀l,late l=true→l<m∧Xt ops l=true∧Region.noSelect ops=true∧ ∀c a d v w,Q (.panic c) (a.put d v) w→Q (.panic c) a w) (k:lD (ops.toList.take m) f=true) (p:wW (ops.toList.take m) q=true)
  (u:Trace E ops.toList (some f.bx) (ops.toList.take m) f q) (y:m≤ops.size) (h:Inv E B G0 w0 f g a w) (x: ∀g' t w',Inv E B G0 w0 q g' t w'→wpOps E.P ops Q (List.range' m (ops.size-m)) t w'):(Code.region id ops true).wp E.P Q a w:=
 wp_region_any hE.mixed (Mh hE r s b k p u y h x)
theorem Mi (ops:Array Oper):jc ops.toList≤ops.size:=by
 have c: ∀l:List Oper,QT l≤l.length:=by
  intro l;induction l with
  |nil=>exact kG 0
  |cons o l a=>
   unfold QT
   cases o.dst with
   |none=>exact Ko _
   |some d=>exact Nat.succ_le_succ a
 have b: ∀(l:List Oper) (k:Nat),NK l k≤k:=by
  intro l k;induction k with
  |zero=>exact kG 0
  |succ k a=>
   unfold NK
   cases A8 l k with
   |true=>exact Nat.le_succ_of_le a
   |false=>exact kG _
 have:=FZ (b ops.toList (QT ops.toList)) (c ops.toList);exact FZ this (by simp)
def HT (E:Env):List Oper→St→St→Prop
 |[],s,a=>a=s
 |o::l,s,a=>∃v,Kh E s.fr s.bx o=some (true,.val v)∧HT E l (s.put o.dst v) a
theorem X3 {α:Type} {E:Env}: ∀(l:List Oper) (s:St) (K:St→Option α) (r:α),evH E l s K=some r→ ∃a,HT E l s a∧K a=some r
 |[],s,K,r,h=>⟨s,rfl,h⟩
 |o::l,s,K,r,h=>by
  unfold evH at h;split at h
  ·rename_i c v b
   rcases lY h with⟨rfl,h⟩|⟨_,h⟩
   ·obtain⟨a,e,d⟩:=X3 l _ K r h
    exact⟨a,⟨v,b,e⟩,d⟩
   cases h
  cases h
theorem PX {P:Program} {ops:Array Oper} {L:List Nat} {l:Nat} (h:wX P ops L l=true): ∃o,ops[l]? =some o∧A9 P o=true∧(∀e∈o.after,Region.binds .any e=true→e.on∈L)∧
  ∀(j:Nat) f,ops[j]? =some f→j≠l→(∀e∈o.after,Region.binds .any e=true→e.on≠j)→(∀e∈f.after,Region.binds .any e=true→e.on≠l)→o.apart ops f=true:=by
 unfold wX at h
 cases m:ops[l]? with
 |none=>rw[m] at h;cases h
 |some o=>
  rw[m] at h;simp only[bF] at h;obtain⟨⟨r,n⟩,p⟩:=h;rw[lM] at n p;refine⟨o,rfl,r,fun e d c=>?_,fun j f q k g i=>?_⟩
  ·have:=n e.on (by unfold jh;exact List.mem_map.2 ⟨e,List.mem_filter.2 ⟨by simpa using d,c⟩,rfl⟩)
   simpa using this
  have a:=p j (List.mem_range.2 (Array.getElem?_eq_some_iff.1 q).1);rw[q] at a;simp only[Kn,iJ,k,false_or,abt] at a;rcases a with(a|a)|a
  ·obtain⟨e,d,c,b⟩:=jU a
   exact absurd b (g e (by simpa using d) c)
  ·obtain⟨e,d,c,b⟩:=jU a
   exact absurd b (i e (by simpa using d) c)
  exact a
def tX (P:Program) (ops:Array Oper):List Nat→List Nat→Prop
 |_,[]=>True
 |L,l::r=>l∉L∧wX P ops L l=true∧tX P ops (L++[l]) r
theorem EM {P:Program} {ops:Array Oper}: ∀(r L:List Nat) (l:Nat),tX P ops L r→l∉L++r→wX P ops (L++r) l=true→tX P ops L (r++[l])
 |[],L,l,_,b,a=>by rw[FC] at b a;exact⟨b,a,trivial⟩
 |x::r,L,l,h,b,a=>by
  refine⟨h.1,h.2.1,EM r (L++[x]) l h.2.2 ?_ ?_⟩
  ·rw[CJ];exact b
  rw[CJ];exact a
theorem qQ {P:Program} {ops:Array Oper}: ∀(r L:List Nat),tX P ops [] L→(L++r).Nodup→tX P ops [] (pE P ops r L)∧(pE P ops r L).Nodup∧ ∀x∈pE P ops r L,x∈L++r
 |[],L,h,c=>⟨h,by simpa[pE] using c,fun x b=>by simpa[pE] using b⟩
 |l::r,L,h,c=>by
  have a:(L++[l]++r).Nodup:=by simpa using c
  unfold pE
  cases k:wX P ops L l with
  |true=>
   rw[lC];have i:l∉L:=by rw[List.nodup_append] at c;intro j;exact c.2.2 l j l rf rfl
   obtain⟨e,g,f⟩:=qQ r (L++[l]) (EM L [] l h (by simpa using i) (by simpa using k)) a;exact⟨e,g,fun x b=>by simpa using f x b⟩
  |false=>
   rw[jW];have d:(L++r).Nodup:=by rw[CJ] at a;exact List.Sublist.nodup (List.Sublist.append_left (List.sublist_append_right [l] r) L) a
   obtain⟨e,g,f⟩:=qQ r L h d;refine⟨e,g,fun x b=>?_⟩;have:=f x b;simp only[abq,ZA] at this⊢;rcases this with h|h
   ·exact .inl h
   exact .inr (.inr h)
theorem DK (hE:uQ E) {ops:Array Oper} {Q:Exit→Act→World→Prop} (I:Region.noSelect ops=true) (hQ: ∀c a d v w,Q (.panic c) (a.put d v) w→Q (.panic c) a w) {g:Gh} {w w2:World} {W:St} {n:Nat}: ∀(r L:List Nat) (s:St) (a:Act) (b:Array Bool),tX E.P ops L r→b.size=ops.size→
  (∀i,b.getD i false=true↔i∈L)→(∀l∈L,l<ops.size)→HT E (r.map fun i=>ops.getD i default) s W→Inv E B G0 w0 s g a w→
  (∀(f:Array Bool) K,f.size=ops.size→(∀i,f.getD i false=true↔i∈L++r)→Inv E B G0 w0 W g K w→wpAny E.P .any ops Q n f K w2)→wpAny E.P .any ops Q (n+r.length) b a w2
 |[],L,s,a,b,hh,p,z,H,t,h,hk=>by have e:W=s:=t;subst e;exact hk b a p (fun i=>by rw[z,FC]) h
 |l::r,L,s,a,b,hh,p,z,H,t,h,hk=>by
  obtain⟨h1,h2,h3⟩:=hh;obtain⟨o,M,m,G,T⟩:=PX h2;rw[rA,sI M] at t;obtain⟨v,hv,t⟩:=t;have N:=mI (ac:=a) (B:=B) (w:=w) (g:=g) (bx:=s.bx) hE rfl h.gok h.own h.bxs h.hB h.m1 (fun y=>gD h.fr h.oZ y) hv;obtain⟨u,F,J⟩:=N;have hst:=Tf m (fun x A=>opR_nil A (fun y=>gD h.fr h.oZ y) hv) F;have Z:o.guard=none:=by
   unfold A9 at m;rw[bF,bF] at m;have:=m.1.2
   cases Z:o.guard with
   |none=>rfl
   |some _=>rw[Z] at this;cases this
  have X:l<ops.size:=(Array.getElem?_eq_some_iff.1 M).1;have D:l<b.size:=by omega
  have hun:b.getD l true=false:=by
   have: ¬b.getD l false=true:=fun q=>h1 ((z l).1 q)
   simp only[Ah,Ap D,yU] at this⊢;simpa using this
  have hr:l∈Region.ready .any ops b:=mem_ready.2 ⟨hun,o,M,fun e U O=>(z _).2 (G e U O)⟩;have C:n+(l::r).length=(n+r.length)+1:=rfl;rw[C];refine wpAny_first M (Region.noSelect_spec I) (fun c a w=>hQ c a o.dst u w) (n+r.length) b a w2 (fun j oj hj S k V=>?_) hr (.inl ⟨by unfold Region.wanted;rw[Z],hst⟩) ?_
  ·refine T j oj hj S (fun e U O R=>?_) V
   have h5:=(z e.on).2 (G e U O);rw[R] at h5;have Y:j<b.size:=by have:=(Array.getElem?_eq_some_iff.1 hj).1;omega
   simp only[Ah,Ap Y,yU] at h5 k;rw[h5] at k;cases k
  refine DK hE I hQ r (L++[l]) (s.put o.dst v) _ _ h3 (by simpa using p) (fun i=>?_) (fun x A=>?_) t (h.put o.dst J) (fun f K q1 q2 q3=>hk f K q1 (fun i=>by rw[q2];simp) q3)
  ·by_cases e:l=i
   ·subst e
    simp[D]
   rw[getD_set_ne false e,z];simp[e];exact fun q=>absurd q.symm e
  simp only[abq,Ni] at A;rcases A with A|rfl
  ·exact H x A
  exact X
def UG:Ex→Exit
 | .norm=> .normal
 | .exit id=> .exit id
 | .ret=> .ret
 | .qi v=> .panic [{v:=(dn v).getD undef,recovered:=false}]
def Leads (E:Env) (c:Code) (s:St) (e:Ex) (f:St):Prop:=∀(B:Own) (G0:aW) (d:World) (g:Gh) (a:Act) (w:World),Inv E B G0 d s g a w→ ∀Q:Exit→Act→World→Prop,(∀g' b w',Inv E B G0 d f g' b w'→Q (UG e) b w')→c.wp E.P Q a w
theorem Mj (hE:uQ E) {α:Type} {call:Caller α} (hc:lS E call) {id:Nat} {ops:Array Oper} {s:St} {K:Ex→St→Option α} {FB:St→Option α} {r:α} (h:evReg E call ops s K FB=some r):
  (∃e T,K e T=some r∧Leads E (.region id ops true) s e T)∨(Region.noSelect ops=true∧Ll ops (fZ ops (dJ E.P ops))=true∧ ∃O,HT E ((dJ E.P ops).map fun i=>ops.getD i default) s O∧FB O=some r):=by
 unfold evReg at h;have hm:jc ops.toList≤ops.size:=Mi ops;generalize jc ops.toList=m at h hm
 cases H:(UZ s (ops.toList.take m)&&(zo s.fr.length (ops.toList.take m)&&sD ops.toList m&&lD (ops.toList.take m) s)) with
 |false=>
  rw[H,jW] at h;obtain⟨J,h⟩:=aP h;rw[bF] at J;obtain⟨hns,z⟩:=J;obtain⟨O,R,h⟩:=X3 _ s _ r h
  cases b:U0 O.fr.length (dA ops (fZ ops (dJ E.P ops))).toList O with
  |false=>rw[b,jW] at h;exact .inr ⟨hns,z,O,R,h⟩
  |true=>
  rw[b,lC] at h;have hg:=qQ (P:=E.P) (ops:=ops) (List.range ops.size) [] trivial (by simpa using ab4);have hHL:pE E.P ops (List.range ops.size) []=dJ E.P ops:=rfl;rw[hHL] at hg;generalize dJ E.P ops=L at h R b z hg;obtain⟨hg1,hg2,hg3⟩:=hg;have X: ∀l∈L,l<ops.size:=fun l y=>by simpa using hg3 l y
  have W:(fZ ops L).Nodup:=List.Sublist.nodup acv ab4;have G: ∀i,i∈fZ ops L↔i<ops.size∧i∉L:=fun i=>by unfold fZ;rw[abP,ab6];simp
  have S:(fZ ops L).length+L.length=ops.size:=by
   have hfl:(List.range ops.size).length=(fZ ops L).length+((List.range ops.size).filter fun i=>L.contains i).length:=by
    unfold fZ;have: ∀l:List Nat,l.length=(l.filter fun i=>!L.contains i).length+(l.filter fun i=>L.contains i).length:=by
     intro l;induction l with
     |nil=>rfl
     |cons x l ih=>
      rw[ab3,ab3,dN]
      cases L.contains x with
      |true=>simp only[acL,GU,CK,if_true,dN];omega
      |false=>simp only[acZ,GU,CK,if_true,dN];omega
    exact this _
   have hperm:((List.range ops.size).filter fun i=>L.contains i).length=L.length:=by
    refine List.Perm.length_eq ?_;refine(List.perm_ext_iff_of_nodup (List.Sublist.nodup acv ab4) hg2).2 fun x=>?_
    rw[abP,ab6];simp only[abt];exact⟨fun q=>q.2,fun q=>⟨X x q,q⟩⟩
   rw[acj] at hfl;omega
  generalize fZ ops L=p at h b z W G S;have hss:(dA ops p).size=p.length:=IU p;unfold U0 at b;have Z:jc (dA ops p).toList≤(dA ops p).size:=Mi _;generalize jc (dA ops p).toList=m2 at h b Z;rw[bF,bF,bF] at b;replace b:=And.intro (And.intro b.1.1.2 b.1.2) b.2;have A: ∀(j:Nat) o,(dA ops p).toList[j]? =some o→m2≤j→(∀e∈o.after.toList,Region.binds .any e=true→e.on<j)∧ ∀i,i<j→(∃n,waits (dA ops p).toList n j i=true)∨(fun _:Nat=>false) i=true:=fun j o U V=>⟨(ul b.1.2 j o U V).1,fun i D=> .inl ((ul b.1.2 j o U V).2 i D)⟩
  rcases lG hc ((dA ops p).toList.take m2) O _ r h with⟨s2,ht,hs⟩|⟨hb,_⟩
  rotate_left
  ·cases hb
  obtain⟨h3,h4⟩:=aP hs;have y:((dA ops p).toList.drop m2).length=(dA ops p).size-m2:=by simp
  rcases lG hc ((dA ops p).toList.drop m2) s2 _ r h4 with⟨s3,C,t⟩|⟨_,v,s3,C,t⟩
  ·refine .inl ⟨.norm,s3,t,fun B G0 w0 g a w D Q Y=>?_⟩
   refine Code.wp_mono (Q:=fun e a w=>match e with| .normal=>Q .normal a w|_=>False) (fun e a w q=>by cases e<;>first|exact q|exact q.elim) ?_;refine wp_region_any hE.mixed ?_;have hfu:ops.size=p.length+L.length:=by omega
   have hz:wpAny E.P .any ops (fun e a w=>match e with| .normal=>Q .normal a w|_=>False) (p.length+L.length) (Array.replicate ops.size false) a {w with drawn:=w.drawn+1}:=by
    refine DK hE hns (fun c a d v w q=>q.elim) (n:=p.length) (w:=w) L [] s a _ hg1 (by simp) (fun i=>?_) (fun l y=>nomatch y) R D fun f N q1 q2 q3=>?_
    ·simp only[Ah,abd,ab5,iff_false]
     split<;>simp
    refine X0 W (fun i D=>((G i).1 D).1) z p.length f (Array.replicate p.length false) N _ q1 (by simp) (fun i D hip=>?_) (fun k M d=>?_) ?_
    ·refine(q2 i).2 ?_
     rw[FD];exact Classical.byContradiction fun hn=>hip ((G i).2 ⟨D,hn⟩)
    ·have h5:p[k]<f.size:=by rw[q1];exact((G _).1 (GV M)).1
     have h6: ¬f.getD p[k] false=true:=by rw[q2,FD];exact((G _).1 (GV M)).2
     simp only[Ah,Ap h5,yU,abd,M,if_true] at h6⊢;simpa using h6
    have hq:=Mh hE (Q:=fun e a w=>match e with| .normal=>Q .normal a w|_=>False) b.1.1 (late:=fun _=>false) A (fun l y=>by cases y) b.2 h3 ht Z q3 fun g' N w' F=>by have:=vT hE (Q:=fun e a w=>match e with| .normal=>Q .normal a w|_=>False) ((dA ops p).toList.drop m2) m2 s2 s3 g' N w' rfl C F Y;rw[y] at this;exact this
    rw[hss] at hq;exact hq
   rw[←hfu] at hz;exact hz
  cases t
 |true=>
 rw[H,lC] at h;have J:=(Bool.and_eq_true_iff.1 H).2;have h2:=h;rw[bF,bF] at J;have A: ∀(j:Nat) o,ops.toList[j]? =some o→m≤j→(∀e∈o.after.toList,Region.binds .any e=true→e.on<j)∧ ∀i,i<j→(∃n,waits ops.toList n j i=true)∨(fun _:Nat=>false) i=true:=fun j o U V=>⟨(ul J.1.2 j o U V).1,fun i D=> .inl ((ul J.1.2 j o U V).2 i D)⟩
 rcases lG hc (ops.toList.take m) s _ r h2 with⟨T,ht,hs⟩|⟨hb,_⟩
 rotate_left
 ·cases hb
 obtain⟨h3,h4⟩:=aP hs;have y:(ops.toList.drop m).length=ops.size-m:=by simp
 rcases lG hc (ops.toList.drop m) T _ r h4 with⟨I,C,t⟩|⟨_,v,I,C,t⟩
 ·refine .inl ⟨.norm,I,t,fun B G0 w0 g a w D Q Y=>Ro hE J.1.1 (late:=fun _=>false) A (fun l y=>by cases y) J.2 h3 ht hm D fun g' N w' F=>?_⟩
  have:=vT hE (Q:=Q) (ops.toList.drop m) m T I g' N w' rfl C F Y;rw[y] at this;exact this
 refine .inl ⟨.qi v,I,t,fun B G0 w0 g a w D Q Y=>Ro hE J.1.1 (late:=fun _=>false) A (fun l y=>by cases y) J.2 h3 ht hm D fun g' N w' F=>?_⟩;have:=xE hE (Q:=Q) (ops.toList.drop m) m T I g' N w' rfl C F (fun g2 a2 w2 u hi2 hu=>by have:=Y g2 a2 w2 hi2;simp only[UG,hu,yU] at this;exact this);rw[y] at this;exact this
theorem jv (hE:uQ E) {α:Type} {call:Caller α} (D:lS E call) (tot:Rd) (G:tot.ord=false) (fuel:Nat): ∀(c:Code) (s:St) (K:Ex→St→Option α) (r:α),ev E call tot fuel c s K=some r→ ∃e z,K e z=some r∧Leads E c s e z
 | .skip,s,K,r,h=>⟨.norm,s,h,fun B G0 j g a w f Q k=>wp_skip (k g a w f)⟩
 | .region id ops false,s,K,r,h=>by
  unfold ev at h;rcases lG D ops.toList (preZ E.P ops.toList s) _ r h with⟨z,J,O⟩|⟨_,v,z,J,O⟩
  ·refine⟨.norm,z,O,fun B G0 j g0 a w A Q k=>?_⟩
   obtain⟨g,f⟩:=Bt A E.P ops.toList;have:=vT hE (Q:=Q) ops.toList 0 _ z g a w (by simp) J f k;refine wp_region ?_;rw[List.range_eq_range'];simpa using this
  refine⟨.qi v,z,O,fun B G0 j g0 a w A Q k=>?_⟩;obtain⟨g,f⟩:=Bt A E.P ops.toList;have:=xE hE (Q:=Q) ops.toList 0 _ z g a w (by simp) J f (fun g' m w' u d T=>by have:=k g' m w' d;simp only[UG,T,yU] at this;exact this);refine wp_region ?_;rw[List.range_eq_range'];simpa using this
 | .region id ops true,s,K,r,h=>by
  unfold ev at h;rcases Mj (id:=id) hE D h with⟨e,z,V,S⟩|⟨_,_,_,_,h⟩
  ·refine⟨e,z,V,fun B G0 j g0 a w A Q k=>?_⟩
   obtain⟨g,f⟩:=Bt A E.P ops.toList;exact S B G0 j g a w f Q k
  rw[G] at h;cases h
 | .seq x y,s,K,r,h=>by
  unfold ev at h;obtain⟨e,q,o,p⟩:=jv hE D tot G fuel x s _ r h
  cases e with
  |norm=>obtain⟨L,M,I,F⟩:=jv hE D tot G fuel y q K r o;exact⟨L,M,I,fun B G0 j g a w f Q k=>wp_seq (p B G0 j g a w f _ fun g' m w' d=>F B G0 j g' m w' d Q k)⟩
  |exit id=>exact⟨.exit id,q,o,fun B G0 j g a w f Q k=>wp_seq (p B G0 j g a w f _ fun g' m w' d=>k g' m w' d)⟩
  |ret=>exact⟨.ret,q,o,fun B G0 j g a w f Q k=>wp_seq (p B G0 j g a w f _ fun g' m w' d=>k g' m w' d)⟩
  |qi v=>exact⟨.qi v,q,o,fun B G0 j g a w f Q k=>wp_seq (p B G0 j g a w f _ fun g' m w' d=>k g' m w' d)⟩
 | .cond c x y,s,K,r,h=>by
  unfold ev at h;split at h
  ·rename_i t J
   have R: ∀{B G0 j g a w},Inv E B G0 j s g a w→a.eval c=.bool t:=fun {B G0 j g a w} f=>by have:=gD f.fr f.oZ c;rw[J,dH] at this;exact this
   rcases lY h with⟨rfl,h⟩|⟨rfl,h⟩
   ·obtain⟨e,q,o,p⟩:=jv hE D tot G fuel x s K r h
    exact⟨e,q,o,fun B G0 j g a w f Q k=>wp_cond (R f) (p B G0 j g a w f Q k)⟩
   obtain⟨e,q,o,p⟩:=jv hE D tot G fuel y s K r h;exact⟨e,q,o,fun B G0 j g a w f Q k=>wp_cond (R f) (p B G0 j g a w f Q k)⟩
  cases h
 | .block id b,s,K,r,h=>by
  unfold ev at h;obtain⟨e,q,o,p⟩:=jv hE D tot G fuel b s _ r h
  cases e with
  |norm=>exact⟨.norm,q,o,fun B G0 j g a w f Q k=>wp_block (p B G0 j g a w f _ fun g' m w' d=>k g' m w' d)⟩
  |ret=>exact⟨.ret,q,o,fun B G0 j g a w f Q k=>wp_block (p B G0 j g a w f _ fun g' m w' d=>k g' m w' d)⟩
  |qi v=>exact⟨.qi v,q,o,fun B G0 j g a w f Q k=>wp_block (p B G0 j g a w f _ fun g' m w' d=>k g' m w' d)⟩
  |exit i=>
   have o:(bif i==id then K .norm q else K (.exit i) q)=some r:=o;by_cases C:i=id
   ·have:(i==id)=true:=by simpa using C
    rw[this] at o;refine⟨.norm,q,o,fun B G0 j g a w f Q k=>wp_block (p B G0 j g a w f _ fun g' m w' d=>?_)⟩;show(if i=id then Q .normal m w' else Q (.exit i) m w');rw[if_pos C];exact k g' m w' d
   have:(i==id)=false:=by simpa using C
   rw[this] at o;refine⟨.exit i,q,o,fun B G0 j g a w f Q k=>wp_block (p B G0 j g a w f _ fun g' m w' d=>?_)⟩;show(if i=id then Q .normal m w' else Q (.exit i) m w');rw[if_neg C];exact k g' m w' d
 | .loop b,s,K,r,h=>by
  unfold ev at h;generalize C6 tot.tot tot.unc s.fr.length b=mask at h;have N: ∀(n:Nat) (s:St),Ei b (fun s K=>ev E call tot fuel b s K) mask K n s=some r→ ∃e z,K e z=some r∧ ∀(B:Own) (G0:aW) (j:World) (g:Gh) (a:Act) (w:World),Inv E B G0 j s g a w→ ∀Q:Exit→Act→World→Prop,(∀g' m w',Inv E B G0 j z g' m w'→Q (UG e) m w')→Code.rounds E.P b Q n a w:=by
   intro n;induction n with
   |zero=>intro s h;cases h
   |succ n U=>
    intro s h;unfold Ei at h;simp only[pf_eq] at h;obtain⟨e,q,o,p⟩:=jv hE D tot G fuel b _ _ r h
    cases e with
    |norm=>
     obtain⟨L,M,I,F⟩:=U _ o;refine⟨L,M,I,fun B G0 j g a w f Q k=>?_⟩;rw[rounds_succ];refine p B G0 j g a w f _ fun g' m w' d=>?_
     obtain⟨g1,H⟩:=d.head mask;exact F B G0 j g1 m w' H Q k
    |exit id=>refine⟨.exit id,q,o,fun B G0 j g a w f Q k=>?_⟩;rw[rounds_succ];exact p B G0 j g a w f _ fun g' m w' d=>k g' m w' d
    |ret=>refine⟨.ret,q,o,fun B G0 j g a w f Q k=>?_⟩;rw[rounds_succ];exact p B G0 j g a w f _ fun g' m w' d=>k g' m w' d
    |qi v=>refine⟨.qi v,q,o,fun B G0 j g a w f Q k=>?_⟩;rw[rounds_succ];exact p B G0 j g a w f _ fun g' m w' d=>k g' m w' d
  obtain⟨e,z,o,p⟩:=N fuel _ h;refine⟨e,z,o,fun B G0 j g a w f Q k=>wp_loop_rounds fuel ?_⟩;obtain⟨g1,H⟩:=f.head mask;exact p B G0 j g1 a w H Q k
 | .exit id,s,K,r,h=>⟨.exit id,s,h,fun B G0 j g a w f Q k=>wp_exit (k g a w f)⟩
 | .label l,s,K,r,h=>⟨.norm,s,h,fun B G0 j g a w f Q k=>wp_label (k g a w f)⟩
 | .ret,s,K,r,h=>⟨.ret,s,h,fun B G0 j g a w f Q k=>wp_ret (k g a w f)⟩
 | .rangeFunc ..,s,K,r,h=>by unfold ev at h;cases h
 | .scope _,s,K,r,h=>by unfold ev at h;cases h
 | .goto _,s,K,r,h=>by unfold ev at h;cases h
 | .refuse _,s,K,r,h=>by unfold ev at h;cases h
theorem Tj (P:Program) (ops:Array Oper):tX P ops [] (dJ P ops)∧(∀l∈dJ P ops,l<ops.size)∧(fZ ops (dJ P ops)).Nodup∧(∀i,i∈fZ ops (dJ P ops)↔i<ops.size∧i∉dJ P ops)∧(fZ ops (dJ P ops)).length+(dJ P ops).length=ops.size:=by
 have c:=qQ (P:=P) (ops:=ops) (List.range ops.size) [] trivial (by simpa using ab4);have d:pE P ops (List.range ops.size) []=dJ P ops:=rfl;rw[d] at c;generalize dJ P ops=L at c⊢;obtain⟨g,h,f⟩:=c;have a: ∀l∈L,l<ops.size:=fun l j=>by simpa using f l j
 refine⟨g,a,List.Sublist.nodup acv ab4,fun i=>by unfold fZ;rw[abP,ab6];simp,?_⟩;have b:(List.range ops.size).length=(fZ ops L).length+((List.range ops.size).filter fun i=>L.contains i).length:=by
  unfold fZ;have: ∀l:List Nat,l.length=(l.filter fun i=>!L.contains i).length+(l.filter fun i=>L.contains i).length:=by
   intro l;induction l with
   |nil=>rfl
   |cons x l k=>
    rw[ab3,ab3,dN]
    cases L.contains x with
    |true=>simp only[acL,GU,CK,if_true,dN];omega
    |false=>simp only[acZ,GU,CK,if_true,dN];omega
  exact this _
 have e:((List.range ops.size).filter fun i=>L.contains i).length=L.length:=by
  refine List.Perm.length_eq ?_;refine(List.perm_ext_iff_of_nodup (List.Sublist.nodup acv ab4) h).2 fun x=>?_
  rw[abP,ab6];simp only[abt];exact⟨fun q=>q.2,fun q=>⟨a x q,q⟩⟩
 rw[acj] at b;omega
theorem adG (hE:uQ E) {ops:Array Oper} {Q:Exit→Act→World→Prop} (u:Region.noSelect ops=true) (j:Ll ops (fZ ops (dJ E.P ops))=true) (J: ∀c a d v w,Q (.panic c) (a.put d v) w→Q (.panic c) a w) {g:Gh} {a:Act} {w x:World} {s G:St}
  (q:HT E ((dJ E.P ops).map fun i=>ops.getD i default) s G) (m:Inv E B G0 w0 s g a w)
  (A: ∀h,Inv E B G0 w0 G g h w→wpAny E.P .any (dA ops (fZ ops (dJ E.P ops))) Q (dA ops (fZ ops (dJ E.P ops))).size (Array.replicate (dA ops (fZ ops (dJ E.P ops))).size false) h x):
  wpAny E.P .any ops Q ops.size (Array.replicate ops.size false) a x:=by
 obtain⟨t,z,o,e,D⟩:=Tj E.P ops;rw[IU] at A;generalize dJ E.P ops=L at*;generalize fZ ops L=p at*;have y:ops.size=p.length+L.length:=by omega
 have F:wpAny E.P .any ops Q (p.length+L.length) (Array.replicate ops.size false) a x:=by
  refine DK hE u J (n:=p.length) (w:=w) L [] s a _ t (by simp) (fun i=>?_) (fun l N=>nomatch N) q m fun b h C I M=>?_
  ·simp only[Ah,abd,ab5,iff_false]
   split<;>simp
  refine X0 o (fun i m=>((e i).1 m).1) j p.length b (Array.replicate p.length false) h _ C (by simp) (fun i m r=>?_) (fun k f d=>?_) (A h M)
  ·refine(I i).2 ?_
   rw[FD];exact Classical.byContradiction fun O=>r ((e i).2 ⟨m,O⟩)
  have K:p[k]<b.size:=by rw[C];exact((e _).1 (GV f)).1
  have H: ¬b.getD p[k] false=true:=by rw[I,FD];exact((e _).1 (GV f)).2
  simp only[Ah,Ap K,yU,abd,f,if_true] at H⊢;simpa using H
 rw[←y] at F;exact F
theorem adH {α:Type} {a b:Option α} {r:α} (h:both a b=some r):a=some r∧b=some r:=by
 unfold both at h;by_cases e:a=b
 ·rw[if_pos e] at h
  exact⟨h,e▸h⟩
 rw[if_neg e] at h;cases h
theorem j5 {α:Type} (a:Option α):both a a=a:=by unfold both;rw[if_pos rfl]
theorem Mk {α:Type} {f:Nat→Option α} {r:α}: ∀{l:List Nat},allK f l=some r→ ∀i∈l,f i=some r
 |[],h,i,a=>nomatch a
 |[x],h,i,a=>by rcases List.mem_singleton.1 a with rfl;exact h
 |x::y::l,h,i,a=>by
  have h:both (f x) (allK f (y::l))=some r:=h;obtain⟨c,b⟩:=adH h;rcases List.mem_cons.1 a with rfl|a
  ·exact c
  exact Mk b i a
theorem X4 {ops:Array Oper} {a:Array Bool} {L:List Nat} (r:a.size=ops.size) (f: ∀i,a.getD i false=true↔i∈L) (i:Nat):i∈Region.ready .any ops a↔i∈NM ops.toList L:=by
 unfold NM;rw[mem_ready,abP,ab6,Km];constructor
 ·rintro⟨n,o,d,m⟩
  have b:i<ops.size:=(Array.getElem?_eq_some_iff.1 d).1;have l:i<a.size:=by omega
  refine⟨b,?_⟩;have j:i∉L:=fun q=>by have:=(f i).2 q;simp only[Ah,Ap l,yU] at n this;rw[n] at this;cases this
  have c:ops.toList[i]? =some o:=by simpa using d
  rw[c,bF];refine⟨by simpa using j,?_⟩;simp only[lM,abt];intro x p;obtain⟨e,k,g,rfl⟩:=jU p;exact(f _).1 (m e (by simpa using k) g)
 rintro⟨b,h⟩;have l:i<a.size:=by omega
 have d:ops[i]? =some (ops[i]'b):=by simp[b]
 have c:ops.toList[i]? =some (ops[i]'b):=by simp[b]
 rw[c,bF] at h;simp only[lM,abt] at h;have j:i∉L:=by simpa using h.1
 refine⟨?_,_,d,fun e k g=>(f _).2 (h.2 e.on (by unfold jh;exact List.mem_map.2 ⟨e,List.mem_filter.2 ⟨by simpa using k,g⟩,rfl⟩))⟩;have: ¬a.getD i false=true:=fun q=>j ((f i).1 q)
 simp only[Ah,Ap l,yU] at this⊢;simpa using this
theorem adI (hE:uQ E) {α:Type} {call:Caller α} (hc:lS E call) {ops:Array Oper} {Q:Exit→Act→World→Prop} {K:St→Option α} {r:α}: ∀(n:Nat) (L:List Nat) (s:St) (c:Array Bool) (g:Gh) (a:Act) (w:World),c.size=ops.size→
  (∀i,c.getD i false=true↔i∈L)→(c.toList.countP fun b=>!b)≤n→Lm E call ops.toList K (n+1) L s=some r→Inv E B G0 w0 s g a w→
  (∀F g' k w',K F=some r→Inv E B G0 w0 F g' k w'→Q .normal k w')→wpAny E.P .any ops Q n c a w:=by
 have p: ∀(n:Nat) (L:List Nat) (s:St) (c:Array Bool),c.size=ops.size→(∀i,c.getD i false=true↔i∈L)→Lm E call ops.toList K (n+1) L s=some r→Region.ready .any ops c=[]→K s=some r:=by
  intro n L s c f A h t;unfold Lm at h;have:NM ops.toList L=[]:=List.eq_nil_iff_forall_not_mem.2 fun i d=>by have:=(X4 f A i).2 d;rw[t] at this;cases this
  rw[this] at h;exact h
 intro n;induction n with
 |zero=>
  intro L s c g a w f A N h d M;have t:Region.ready .any ops c=[]:=List.eq_nil_iff_forall_not_mem.2 fun i d=>by
   obtain⟨J,o,I,_⟩:=mem_ready.1 d;have Y:i<ops.size:=(Array.getElem?_eq_some_iff.1 I).1;have D:i<c.size:=by omega
   have h5:=List.countP_eq_zero.1 (Nat.le_zero.1 N) c[i] (by rw[ack];exact Array.getElem_mem D);simp only[Ah,Ap D,yU] at J;rw[J] at h5;exact h5 rfl
  exact⟨t,M s g a w (p 0 L s c f A h t) d⟩
 |succ n ih=>
  intro L s c g a w f A hcn h d M;refine⟨fun t=>M s g a w (p (n+1) L s c f A h t) d,fun i H=>?_⟩;have m:=(X4 f A i).1 H;unfold Lm at h;split at h
  ·rename_i z;rw[z] at m;cases m
  rename_i j l z;rw[z] at m;have h1:=Mk h i m;obtain⟨J,o,I,_⟩:=mem_ready.1 H;have Y:i<ops.size:=(Array.getElem?_eq_some_iff.1 I).1;have D:i<c.size:=by omega
  have W:ops.toList[i]? =some o:=by simpa using I
  simp only[W] at h1;rcases lG hc [o] s _ r h1 with⟨F,R,Z⟩|⟨_,v,F,_,Z⟩
  rotate_left
  ·cases Z
  have C: ∀x,(c.setIfInBounds i true).getD x false=true↔x∈i::L:=fun x=>by
   by_cases e:i=x
   ·subst e
    simp[D]
   rw[getD_set_ne false e,A,ZA];exact⟨.inr,fun q=>q.resolve_left fun q=>e q.symm⟩
  have G:((c.setIfInBounds i true).toList.countP fun b=>!b)≤n:=by
   have V:c[i]=false:=by simpa only[Ah,Ap D,yU] using J
   rw[abR,List.countP_set (by simpa using D)];simp only[Array.getElem_toList,V,acZ,if_true,acL,GU,CK,WY];omega
  have next: ∀g' k w',Inv E B G0 w0 F g' k w'→wpAny E.P .any ops Q n (c.setIfInBounds i true) k w':=fun g' k w' S=>
   ih (i::L) F _ g' k w' (by simpa using f) C G Z S M
  cases R with
  |cons U R=>
   cases R;unfold wpOp;rw[I];simp only;rcases U with⟨T,eff,X,_,t⟩|⟨T,rfl⟩
   ·rw[if_pos (iE d.fr T)]
    refine .inl ?_;have O:=mI (ac:=a) (B:=B) (w:=w) (g:=g) hE rfl d.gok d.own d.bxs d.hB d.m1 (fun y=>gD d.fr d.oZ y) X;exact Ga d O (fun _ _ h=>h) (fun _=>rfl) t fun g' k w' h' _=>next g' k w' h'
   rw[if_neg (by rw[iE d.fr T];decide)];exact next g _ w (d.put o.dst (v:=.tup []) (u:=undef) ⟨[],rfl,.nil⟩)
theorem pF (hE:uQ E) {α:Type} {call:Caller α} (z:lS E call) (tot:Rd) (fuel:Nat): ∀(c:Code) (s:St) (K:Ex→St→Option α) (r:α),ev E call tot fuel c s K=some r→ ∀(g:Gh) (a:Act) (w:World),Inv E B G0 w0 s g a w→
  ∀Q:Exit→Act→World→Prop,(∀e A g' k w',K e A=some r→Inv E B G0 w0 A g' k w'→Q (UG e) k w')→c.wp E.P Q a w
 | .skip,s,K,r,h,g,a,w,m,Q,j=>wp_skip (j .norm s g a w h m)
 | .region id ops false,s,K,r,h,g,a,w,m,Q,j=>by obtain⟨e,A,o,J⟩:=jv hE z ⟨[],[],false⟩ rfl fuel (.region id ops false) s K r h;exact J B G0 w0 g a w m Q fun g' k w' f=>j e A g' k w' o f
 | .region id ops true,s,K,r,h,g0,a,w,G,Q,j=>by
  unfold ev at h;obtain⟨g,m⟩:=Bt G E.P ops.toList;rcases Mj (id:=id) hE z h with⟨e,A,o,J⟩|⟨I,D,p,F,h⟩
  ·exact J B G0 w0 g a w m Q fun g' k w' f=>j e A g' k w' o f
  obtain⟨_,h⟩:=aP h;refine Code.wp_mono (Q:=fun e a w=>match e with| .normal=>Q .normal a w|_=>False) (fun e a w q=>by cases e<;>first|exact q|exact q.elim) ?_;refine wp_region_any hE.mixed ?_;refine adG hE I D (fun c a d v w q=>q.elim) F m fun k f=>?_
  refine adI hE z (dA ops (fZ ops (dJ E.P ops))).size [] p _ g k _ (by simp) (fun i=>?_) (FZ acG (by simp)) h f.drew fun A g' k w' o f=>j .norm A g' k w' o f
  simp only[Ah,abd,ab5,iff_false];split<;>simp
 | .seq x y,s,K,r,h,g,a,w,m,Q,j=>by
  unfold ev at h;refine wp_seq (pF hE z tot fuel x s _ r h g a w m _ fun e p g' k w' o f=>?_)
  cases e with
  |norm=>exact pF hE z tot fuel y p K r o g' k w' f Q j
  |exit id=>exact j (.exit id) p g' k w' o f
  |ret=>exact j .ret p g' k w' o f
  |qi v=>exact j (.qi v) p g' k w' o f
 | .cond c x y,s,K,r,h,g,a,w,m,Q,j=>by
  unfold ev at h;split at h
  ·rename_i t M
   have L:a.eval c=.bool t:=by have:=gD m.fr m.oZ c;rw[M,dH] at this;exact this
   rcases lY h with⟨rfl,h⟩|⟨rfl,h⟩
   ·exact wp_cond L (pF hE z tot fuel x s K r h g a w m Q j)
   exact wp_cond L (pF hE z tot fuel y s K r h g a w m Q j)
  cases h
 | .block id b,s,K,r,h,g,a,w,m,Q,j=>by
  unfold ev at h;refine wp_block (pF hE z tot fuel b s _ r h g a w m _ fun e p g' k w' o f=>?_)
  cases e with
  |norm=>exact j .norm p g' k w' o f
  |ret=>exact j .ret p g' k w' o f
  |qi v=>exact j (.qi v) p g' k w' o f
  |exit i=>
   have o:(bif i==id then K .norm p else K (.exit i) p)=some r:=o;by_cases u:i=id
   ·have:(i==id)=true:=by simpa using u
    rw[this] at o;show(if i=id then Q .normal k w' else Q (.exit i) k w');rw[if_pos u];exact j .norm p g' k w' o f
   have:(i==id)=false:=by simpa using u
   rw[this] at o;show(if i=id then Q .normal k w' else Q (.exit i) k w');rw[if_neg u];exact j (.exit i) p g' k w' o f
 | .loop b,s,K,r,h,g,a,w,m,Q,j=>by
  unfold ev at h;generalize C6 tot.tot tot.unc s.fr.length b=mask at h;have H: ∀(n:Nat) (s:St),Ei b (fun s K=>ev E call tot fuel b s K) mask K n s=some r→ ∀(g:Gh) (a:Act) (w:World),Inv E B G0 w0 s g a w→Code.rounds E.P b Q n a w:=by
   intro n;induction n with
   |zero=>intro s h;cases h
   |succ n N=>
    intro s h g a w m;unfold Ei at h;simp only[pf_eq] at h;rw[rounds_succ];refine pF hE z tot fuel b _ _ r h g a w m _ fun e p g' k w' o f=>?_
    cases e with
    |norm=>obtain⟨g1,C⟩:=f.head mask;exact N _ o g1 k w' C
    |exit id=>exact j (.exit id) p g' k w' o f
    |ret=>exact j .ret p g' k w' o f
    |qi v=>exact j (.qi v) p g' k w' o f
  refine wp_loop_rounds fuel ?_;obtain⟨g1,C⟩:=m.head mask;exact H fuel _ h g1 a w C
 | .exit id,s,K,r,h,g,a,w,m,Q,j=>wp_exit (j (.exit id) s g a w h m)
 | .label l,s,K,r,h,g,a,w,m,Q,j=>wp_label (j .norm s g a w h m)
 | .ret,s,K,r,h,g,a,w,m,Q,j=>wp_ret (j .ret s g a w h m)
 | .rangeFunc ..,s,K,r,h,_,_,_,_,_,_=>by unfold ev at h;cases h
 | .scope _,s,K,r,h,_,_,_,_,_,_=>by unfold ev at h;cases h
 | .goto _,s,K,r,h,_,_,_,_,_,_=>by unfold ev at h;cases h
 | .refuse _,s,K,r,h,_,_,_,_,_,_=>by unfold ev at h;cases h
def nZ:V→Bool
 | .tup _=>false
 | .fn _ _=>false
 | .box _ _=>false
 | .eptr _ _ _ _ _ _=>false
 | .slz _ _ _ _ _ _ _ _ _ _=>false
 | .epz _ _ _ _ _=>false
 | .old _=>false
 |_=>true
theorem Ca {g:Gh} {w:World} {x:V} {v:Value} (A:Qv B g w) (p:x.single=true) (d:nZ x=true) (h:bQ g x v):nR g.G w B.m x v:=by
 cases x with
 |sl e sh H xs=>
  cases H with
  |none=>exact h
  |some L=>
   obtain⟨hL,C⟩:=h;obtain⟨y,o⟩:=A.1 L v e _ hL;refine⟨y,?_⟩;rcases C with⟨j,p⟩|⟨b,cap,l,j,i,J,D,hE⟩
   ·exact .inl ⟨j,p⟩
   rcases o with o|⟨K,n,u,r,N,a,s,E,M,q,t,z,F⟩
   ·rw[j] at o;cases o
   rw[j] at a;simp only[Value.slice.injEq,aT,Addr.mk.injEq] at a;obtain⟨⟨rfl,_,_⟩,I,rfl⟩:=a;exact .inr ⟨b,cap,r,l,j,s.1,E,i,q,t,J,D,hE⟩
 |box k off=>cases d
 |eptr _ _ _ _ _ _=>cases d
 |old _=>cases d
 |slz _ _ _ _ _ _ _ _ _ _=>cases d
 |epz _ _ _ _ _=>cases d
 |tup vs=>cases p
 |fn f c=>cases p
 |_=>exact h
theorem qb {x y:V} (h:x.QU=some y):x.deep=some y∧nZ y=true:=by
 cases x with
 |fn f c=>cases h
 |_=>refine⟨h,?_⟩;simp[V.QU,V.deep] at h<;>subst h<;>rfl
def zw (a:Act):ResultVar→Sem Value
 | .tmp t=>pure (a.tmps.getD t undef)
 | .cell c t=>do loadVar t (←asAddr (a.tmps.getD c undef))
theorem Cb {g:Gh} {x y:V} {v:Value} (h:aU g x v) (a:x.QU=some y):bQ g y v∧nZ y=true:=by obtain⟨a,c⟩:=qb a;have b:=jP a;exact⟨bf (by cases y<;>first|rfl|cases c) (cK b (oN h a)),c⟩
theorem Tk {s:St} {g:Gh} {a:Act} {w U:World} (z:Inv E B G0 U s g a w) {x:ResultVar} {y:V} (h:yo E.P s x=some y): ∃u,(zw a x).run E.P w=.ok u w∧bQ g y u∧nZ y=true:=by
 cases x with
 |tmp t=>
  have d:aU g (slot s.fr t).Ef (a.tmps.getD t undef):=zI (gD z.fr z.oZ (.tmp t));refine⟨a.tmps.getD t undef,rfl,?_⟩;simp only[yo] at h;split at h
  ·rename_i e sh Z xs m
   simp only[aT] at h;subst h;rw[m] at d;exact⟨bf rfl d,rfl⟩
  exact Cb d h
 |cell c t=>
  have d:aU g (slot s.fr c) (a.tmps.getD c undef):=gD z.fr z.oZ (.tmp c);simp only[yo] at h;split at h
  ·rename_i k off m
   rw[m] at d;obtain⟨b,Q,i⟩:=d9.1 d;have l:(zw a (.cell c t)).run E.P w=(loadVar t ⟨b,off,none⟩).run E.P w:=by simp only[zw,Sem.run_bind,i,Go.asAddr,Sem.run_pure,Result.andThen_ok]
   split at h
   ·rename_i cells S
    obtain⟨Y,F,e,p,_,T,q,_,_⟩:=z.bxs.1 k cells S;rw[Q] at p;simp only[aT] at p;subst p;have f: ∀(j:Nat) v,F.toList[j]? =some v→w.cell? ⟨b,j,none⟩=some v:=by intro j v i;simp only[World.cell?,T];simpa using i
    split at h
    ·rename_i o
     split at h
     ·rename_i n W
      split at h
      ·rename_i R H
       simp only[aT] at h;subst h;obtain⟨N,D⟩:=LH H q;have r:((F.toList.drop off).take n).length=n:=by rw[Kc,Ui];omega
       obtain⟨X,O,C⟩:=wC o;obtain⟨ii,L,J⟩:=lm W;have:=run_loadVar_mid (P:=E.P) w b off t ((F.toList.drop off).take n) X (fun j v i=>by
        rw[Qt] at i;split at i
        ·rw[T3] at i;exact f _ _ i
        cases i) O C (by rw[L,r];simp[J])
       refine⟨_,l.trans this,?_,rfl⟩;show aV g.G (.agg R) _;unfold aV;exact⟨_,rfl,(fe _ _).2 D⟩
      cases h
     cases h
    ·rename_i o
     obtain⟨N,D⟩:=aP h;have A:off<cells.length:=by simpa[GZ] using N
     obtain⟨v,I,K⟩:=q.get (getD_some A);have M:(loadVar t ⟨b,off,none⟩).run E.P w=.ok v w:=by simp only[loadVar,Sem.run_bind,mP o,Result.andThen_ok,GU,CK,run_load,f _ _ I]
     exact⟨v,l.trans M,Cb K D⟩
    cases h
   cases h
  cases h
theorem EN {s:St} {x:ResultVar} {y:V} (h:yo E.P s x=some y):y.plain=true∨(∃e sh o xs,y=.sl e sh o xs)∨ ∃b,y=.agg b:=by
 cases x with
 |tmp t=>
  simp only[yo] at h;split at h
  ·simp only[aT] at h;exact .inr (.inl ⟨_,_,_,_,h.symm⟩)
  exact .inl (jP (qb h).1)
 |cell c t=>
  simp only[yo] at h;split at h
  ·split at h
   ·split at h
    ·split at h
     ·split at h
      ·simp only[aT] at h;exact .inr (.inr ⟨_,h.symm⟩)
      cases h
     cases h
    ·obtain⟨_,a⟩:=aP h
     exact .inl (jP (qb a).1)
    cases h
   cases h
  cases h
theorem adJ {s:St} {x:ResultVar} {y:V} (h:yo E.P s x=some y):nZ y=true:=by
 cases x with
 |tmp t=>
  simp only[yo] at h;split at h
  ·simp only[aT] at h;subst h;rfl
  exact(qb h).2
 |cell c t=>
  simp only[yo] at h;split at h
  ·split at h
   ·split at h
    ·split at h
     ·split at h
      ·simp only[aT] at h;subst h;rfl
      cases h
     cases h
    ·obtain⟨_,a⟩:=aP h
     exact(qb a).2
    cases h
   cases h
  cases h
theorem q9 {s:St} {g:Gh} {a:Act} {w j:World} (c:Inv E B G0 j s g a w): ∀(rs:List ResultVar) (vs:ah),rQ E.P s rs=some vs→
  ∃us:List Value,(rs.mapM (zw a)).run E.P w=.ok us w∧PW (fun x v=>bQ g x v∧nZ x=true) vs us
 |[],vs,h=>by simp only[rQ,aT] at h;subst h;exact⟨[],rfl,.nil⟩
 |x::rs,vs,h=>by
  simp only[rQ] at h;split at h
  ·cases h
  rename_i y f;split at h
  ·cases h
  rename_i b i;simp only[aT] at h;subst h;obtain⟨us,k,d⟩:=q9 c rs b i;obtain⟨u,l,e⟩:=Tk c f;refine⟨u::us,?_,.cons e d⟩;rw[acY];simp only[Sem.run_bind,l,Sem.run_pure,Result.andThen_ok,k]
theorem sJ {g:Gh} {w:World} (d:Qv B g w): ∀(vs:ah) (us:List Value) (b:Bool),PW (fun x v=>bQ g x v∧nZ x=true) vs us→PW (nR g.G w B.m) (gN 0 b vs) us∧(gN 0 b vs).countP tH≤(if b then 1 else 0)
 |[],us,b,h=>by rw[h.cO];cases b<;>exact⟨.nil,by simp[gN]⟩
 |x::vs,us,b,h=>by
  obtain⟨u,t,rfl,⟨k,j⟩,f⟩:=h.cons_inv;have a:x.single=true:=by cases x<;>first|rfl|cases j
  have i:=Ca d a j k
  cases x with
  |sl e sh n xs=>
   cases n with
   |some L=>
    cases b with
    |true=>
     obtain⟨p,c⟩:=sJ d vs t false f;refine⟨.cons i p,?_⟩;show(V.sl e sh (some 0) xs::gN 0 false vs).countP tH≤1;rw[abG];simp only[tH,if_true];simp at c;have:List.countP tH (gN 0 false vs)=0:=by rw[List.countP_eq_zero];intro y l;have:=c y l;simpa using this
     omega
    |false=>obtain⟨p,c⟩:=sJ d vs t false f;refine⟨.cons (show aV g.G (V.sl e sh none xs) u from nI k.2) p,?_⟩;show(V.sl e sh none xs::gN 0 false vs).countP tH≤_;rw[abG];simpa[tH] using c
   |none=>
    obtain⟨p,c⟩:=sJ d vs t b f;have o:gN 0 b (V.sl e sh none xs::vs)=V.sl e sh none xs::gN 0 b vs:=by cases b<;>rfl
    rw[o];refine⟨.cons i p,?_⟩;rw[abG];simpa[tH] using c
  |_=>
   obtain⟨p,c⟩:=sJ d vs t b f
   cases b<;>exact⟨.cons i p,by simp only[gN];rw[abG];simpa[tH] using c⟩
def AU:List Value→Value
 |[u]=>u
 |us=> .tuple us.toArray
theorem nP {fn:Func} {a:Act} {w:World} {us:List Value} (h:(fn.results.toList.mapM (zw a)).run E.P w=.ok us w):
  (results fn a.tmps).run E.P w=.ok (AU us) w:=by
 have b:results fn a.tmps=(do let vs←fn.results.mapM (zw a);pure (if h:vs.size=1 then vs[0] else .tuple vs)):=by unfold results;congr 1
 rw[b,Array.mapM_eq_mapM_toList];simp only[Sem.run_bind,Sem.run_map,h,Result.andThen_ok,Sem.run_pure];congr 1;match us with
 |[]=>simp[AU]
 |[u]=>simp[AU]
 |u::v::l=>simp[AU]
theorem ret_res {g:Gh} {w:World} (e:Qv B g w) {vs:ah} {us:List Value} (h:PW (fun x v=>bQ g x v∧nZ x=true) vs us):fQ g.G w B.m (QV vs) (AU us):=by
 have a: ∀(vs:ah) (us:List Value),PW (fun x v=>bQ g x v∧nZ x=true) vs us→fQ g.G w B.m (.tup (gN 0 true vs)) (.tuple us.toArray):=fun vs us h=>by obtain⟨p,c⟩:=sJ e vs us true h;exact⟨us,rfl,p,by simpa using c⟩
 match vs,us,h with
 |[],us,h=>rw[h.cO];exact a [] [] .nil
 |[x],us,h=>
  obtain⟨u,t,rfl,⟨k,d⟩,i⟩:=h.cons_inv;rw[i.cO];have b:x.single=true:=by cases x<;>first|rfl|cases d
  have j:=Ca e b d k;show fQ g.G w B.m x u
  cases x with
  |tup _=>cases d
  |_=>exact j
 |x::y::vs,us,h=>
  have f:=h.1;match us,f with
  |u::v::us,_=>exact a _ _ h
end
end Nt.Ev
