/-
  A region that draws its order, of whose operations some may be taken first: copies, and slicings of slices.
-/
import Derived.Test.YtcmockbdkppglaaGreatDoorMB
set_option linter.all false
namespace Nt.Ev
open Go Go.RowKit
section
variable {P:Program} {ops:Array Oper} {Q:Exit→Act→World→Prop}
theorem Cc (p:List Nat):(bV ops p).size=p.length:=by unfold bV;simp
theorem Ao {p:List Nat} {k:Nat} (a:k<p.length):(bV ops p)[k]? =some (H7 p (ops.getD p[k] default)):=by
 unfold bV;simp[a]
theorem pK {i:Nat} {o:Oper} (h:ops[i]? =some o):ops.getD i default=o:=by
 rw[pU,h];rfl
theorem ER {p:List Nat} {o:Oper} {e:Edge}:e∈(H7 p o).after↔ ∃a∈o.after,a.on∈p∧e={a with on:=p.idxOf a.on}:=by
 unfold H7;constructor
 ·intro h
  simp only[List.mem_toArray,acS,Xk,ab1] at h;obtain⟨a,⟨c,b⟩,rfl⟩:=h;exact⟨a,c,by simpa using b,rfl⟩
 ·rintro⟨a,c,b,rfl⟩
  simp only[List.mem_toArray,acS,Xk,ab1];exact⟨a,⟨c,by simpa using b⟩,rfl⟩
theorem O9 (a:Region.Mode) (e:Edge) (n:Nat):Region.binds a {e with on:=n}=Region.binds a e:=rfl
theorem Y8 (p:List Nat) (o:Oper) (a:Act) (w:World) (K:Act→World→Prop):(H7 p o).wp P a w K Q=o.wp P a w K Q:=rfl
theorem SX (p:List Nat) (o:Oper) (a:Act) (w:World):(H7 p o).asks P a w=o.asks P a w:=rfl
theorem rU {p:List Nat} {i:Nat} (h:i∈p): ∃a:p.idxOf i<p.length,p[p.idxOf i]=i:=⟨List.idxOf_lt_length_of_mem h,List.getElem_idxOf _⟩
theorem CU {p:List Nat} (h:Eg ops p=true) {i:Nat} {o:Oper} (c:ops[i]? =some o):(∀j b,o.guard=some (j,b)→j∈p)∧ ∀e∈o.after,e.on<ops.size:=by
 unfold Eg at h;rw[ko] at h;have a:=h o (by rw[ab1];exact Z0 c);rw[bL,ko] at a;refine⟨fun j b f=>?_,fun e d=>?_⟩
 ·have:=a.1
  rw[f] at this;simpa using this
 ·exact iJ (a.2 e (by simpa using d))
theorem Ng {p:List Nat} (V:p.Nodup) (A: ∀i∈p,i<ops.size) (R:Eg ops p=true): ∀(fuel:Nat) (f c:Array Bool) (a:Act) (w:World),f.size=ops.size→c.size=p.length→
  (∀i,i<ops.size→i∉p→f.getD i false=true)→(∀(k:Nat) (y:k<p.length) (d:Bool),f.getD p[k] d=c.getD k d)→wpAny P .any (bV ops p) Q fuel c a w→wpAny P .any ops Q fuel f a w:=by
 have C: ∀(f c:Array Bool),f.size=ops.size→c.size=p.length→(∀i,i<ops.size→i∉p→f.getD i false=true)→(∀(k:Nat) (y:k<p.length) (d:Bool),f.getD p[k] d=c.getD k d)→
   (∀i,i∈Region.ready .any ops f→i∈p∧p.idxOf i∈Region.ready .any (bV ops p) c)∧(Region.ready .any ops f=[]→Region.ready .any (bV ops p) c=[]):=by
  intro f c U J h3 z;refine⟨fun i O=>?_,fun hr=>?_⟩
  ·obtain⟨N,o,x,F⟩:=mem_ready.1 O
   have l:i<ops.size:=(Array.getElem?_eq_some_iff.1 x).1;have m:i∈p:=by
    refine Classical.byContradiction fun hn=>?_
    have:=h3 i l hn;have I:i<f.size:=by omega
    simp only[pU,qF I,qx] at N this;rw[N] at this;cases this
   obtain⟨y,r⟩:=rU m;refine⟨m,mem_ready.2 ⟨?_,_,Ao y,fun e S X=>?_⟩⟩
   ·rw[←z _ y,r];exact N
   ·rw[r,pK x] at S
    obtain⟨e0,W,u,rfl⟩:=ER.1 S;obtain⟨v,n⟩:=rU u;show c.getD (p.idxOf e0.on) false=true;rw[←z _ v,n];exact F e0 W (by rwa [O9] at X)
  ·refine List.eq_nil_iff_forall_not_mem.2 fun k y=>?_
   obtain⟨N,o',B,F⟩:=mem_ready.1 y;have s:k<p.length:=by have:=(Array.getElem?_eq_some_iff.1 B).1;rwa [Cc] at this
   rw[Ao s] at B;simp only[aI] at B;subst B;have l:p[k]<ops.size:=A _ (Hg s);have x:ops[p[k]]? =some (ops[p[k]]'l):=by simp[l]
   have:p[k]∈Region.ready .any ops f:=by
    refine mem_ready.2 ⟨by rw[z k s];exact N,_,x,fun e S X=>?_⟩;by_cases u:e.on∈p
    ·obtain⟨v,n⟩:=rU u
     have:=F {e with on:=p.idxOf e.on} (by rw[pK x];exact ER.2 ⟨e,S,u,rfl⟩) X;have I:=z _ v false;rw[n] at I;rw[I];exact this
    ·exact h3 _ ((CU R x).2 e S) u
   rw[hr] at this
   cases this
 have M: ∀(i:Nat) (K K':Act→World→Prop) (a:Act) (w:World),i∈p→(∀a w,K' a w→K a w)→wpOp P (bV ops p) Q (p.idxOf i) K' a w→wpOp P ops Q i K a w:=by
  intro i K K' a w m hK h;obtain⟨y,r⟩:=rU m;have l:=A i m;have x:ops[i]? =some (ops[i]'l):=by simp[l]
  unfold wpOp at h⊢;rw[Ao y,r,pK x] at h;rw[x];simp only at h⊢;have hw:Region.wanted (H7 p (ops[i]'l)) (yielded (bV ops p) a.tmps)=Region.wanted (ops[i]'l) (yielded ops a.tmps):=by
   unfold Region.wanted;have hg:(H7 p (ops[i]'l)).guard=(ops[i]'l).guard.map fun g=>(p.idxOf g.1,g.2):=rfl
   rw[hg]
   cases Y:(ops[i]'l).guard with
   |none=>rfl
   |some g=>
    obtain⟨j,b⟩:=g;have t:=(CU R x).1 j b Y;obtain⟨v,n⟩:=rU t;have L:=A j t;have T:ops[j]? =some (ops[j]'L):=by simp[L]
    have:yielded (bV ops p) a.tmps (p.idxOf j)=yielded ops a.tmps j:=by
     unfold yielded;rw[Ao v,n,pK T,T];rfl
    simp only[sW,this]
  rw[hw] at h;split at h
  ·rename_i H
   rw[if_pos H];rw[Y8,SX] at h;exact h.imp (Oper.wp_mono hK) id
  ·rename_i H
   rw[if_neg H];exact hK _ _ h
 intro fuel;induction fuel with
 |zero=>
  intro f c a w U J h3 z h;refine⟨?_,h.2⟩;refine List.eq_nil_iff_forall_not_mem.2 fun i O=>?_
  have:=((C f c U J h3 z).1 i O).2;rw[h.1] at this
  cases this
 |succ fuel ih=>
  intro f c a w U J h3 z h;obtain⟨r1,r2⟩:=C f c U J h3 z;refine⟨fun hr=>h.1 (r2 hr),fun i O=>?_⟩;obtain⟨m,y⟩:=r1 i O;obtain⟨s,r⟩:=rU m;refine M i _ _ a w m (fun a w hq=>?_) (h.2 _ y);refine ih _ _ a w (by simpa using U) (by simpa using J) (fun j hj t=>?_) (fun k E d=>?_) hq
  ·have D:i≠j:=fun e=>t (e▸m)
   rw[getD_set_ne false D];exact h3 j hj t
  ·by_cases e:p[k]=i
   ·have G:p.idxOf i=k:=by
     refine Classical.byContradiction fun D=>?_
     have h7:p[p.idxOf i]=p[k]:=by rw[r,e]
     rcases Nat.lt_or_gt_of_ne D with Z|Z
     ·exact List.pairwise_iff_getElem.1 V _ _ s E Z h7
     ·exact List.pairwise_iff_getElem.1 V _ _ E s Z h7.symm
    rw[e,G];have l:=A i m;have I:i<f.size:=by omega
    have h6:k<c.size:=by omega
    simp[I,h6]
   ·have G:p.idxOf i≠k:=fun e2=>e (by subst e2;exact r)
    rw[getD_set_ne d (fun q=>e q.symm),getD_set_ne d G];exact z k E d
def iG {α:Type} (P:Program) (m:Sem α):Prop:=∀w v w',m.run P w=.ok v w'→w'=w∧ ∀a,m.run P a=.ok v a
theorem cK {α:Type} (v:α):iG P (pure v:Sem α):=by
 intro w a w' h;simp only[Sem.run_pure,Result.ok.injEq] at h;obtain⟨rfl,rfl⟩:=h;exact⟨rfl,fun b=>by simp only[Sem.run_pure]⟩
theorem eu {α β:Type} {m:Sem α} {k:α→Sem β} (f:iG P m) (d: ∀v,iG P (k v)):iG P (m>>= k):=by
 intro w v w' h;rw[Sem.run_bind] at h
 cases b:m.run P w with
 |ok u a=>
  rw[b,Result.andThen_ok] at h;obtain⟨rfl,h3⟩:=f w u a b;obtain⟨rfl,e⟩:=d u a v w' h;exact⟨rfl,fun c=>by rw[Sem.run_bind,h3 c,Result.andThen_ok];exact e c⟩
 |halt x a=>rw[b] at h;cases h
theorem oq {α:Type} {m:Sem α} (h: ∀w v w',m.run P w≠.ok v w'):iG P m:=fun w v w' e=>absurd e (h w v w')
theorem Dj (t:TypeId):iG P (typeInfo t):=by
 intro w v w' h
 cases a:P.info? t with
 |some d=>
  have e: ∀w,(typeInfo t).run P w=.ok d w:=fun w=>by simp[typeInfo,a]
  rw[e] at h;simp only[Result.ok.injEq] at h;obtain⟨rfl,rfl⟩:=h;exact⟨rfl,e⟩
 |none=>
  exfalso;unfold typeInfo at h;simp[a] at h
theorem GK (t:TypeId):iG P (Go.sizeOf t):=by
 unfold Go.sizeOf;exact eu (Dj t) fun v=>cK _
theorem DV (x:Value):iG P (asIntOf x):=by
 unfold asIntOf;split
 ·exact cK _
 ·exact oq fun w v w' h=>by simp[unsupported] at h
 ·exact oq fun w v w' h=>by simp[stuck] at h
theorem uW {α β:Type} {m:Sem α} {k:α→Sem β} (h: ∀u w v w',(k u).run P w≠.ok v w'): ∀w v w',(m>>= k).run P w≠.ok v w':=by
 intro w v w' e;rw[Sem.run_bind] at e
 cases a:m.run P w with
 |ok u b=>rw[a,Result.andThen_ok] at e;exact h u b v w' e
 |halt x b=>rw[a] at e;cases e
theorem GL {α:Type} (k:IntKind) (x y:Int) (c:BoundsCode) (w:World) (v:α) (w':World):(boundsPanic k x y c:Sem α).run P w≠.ok v w':=by
 have a: ∀(s:Bool) (w:World) (v:α) (w':World),(runtimePanic (.bounds (IntKind.i64.wrap x) y s c):Sem α).run P w≠.ok v w':=fun s w v w'=>by
  unfold runtimePanic;exact uW (fun p w v w' h=>by simp[goPanic] at h) w v w'
 unfold boundsPanic;simp only;split
 ·exact uW (fun u w v w'=>a u w v w') w v w'
 ·exact uW (fun u w v w'=>a u w v w') w v w'
theorem zq (x:Value) (y:Nat) (c:BoundsCode):iG P (Instr.sliceBound x y c):=by
 unfold Instr.sliceBound;refine eu (DV x) fun v=>?_
 obtain⟨k,i⟩:=v;simp only;split
 ·exact cK _
 ·exact oq (GL k i y c)
theorem GM (b:Bool) (len cap:Nat) (a c:Option Value):iG P (Instr.sliceBounds b len cap a c none):=by
 unfold Instr.sliceBounds;refine eu (cK _) fun m=>?_
 have hL: ∀h:Nat,iG P (match a with
   |some v=>do let l←Instr.sliceBound v h (if(none:Option Value).isSome=true then BoundsCode.slice3C else BoundsCode.sliceB);pure (l,h,m)
   |none=>do let l←pure 0;pure (l,h,m):Sem (Nat×Nat×Nat)):=fun h=>by
  cases a with
  |none=>exact eu (cK _) fun l=>cK _
  |some v=>exact eu (zq _ _ _) fun l=>cK _
 cases c with
 |none=>exact eu (cK _) fun h=>hL h
 |some v=>exact eu (zq _ _ _) fun h=>hL h
theorem JE {t e:TypeId} (f:P.underlying t=some (.slice e)) (x:Value) (d b:Option Value):iG P (Instr.sliceAt t x d b none):=by
 have g: ∀w,(Instr.sliceAt t x d b none).run P w=(Instr.slice t x d b none).run P w:=fun w=>by simp[Instr.sliceAt,run_underlying f]
 have o:iG P (Instr.slice t x d b none):=by
  unfold Instr.slice;intro w v w' h;simp only[Sem.run_bind,run_underlying f,Result.andThen_ok] at h⊢;split at h
  ·exact nomatch ‹TypeDesc.slice e=TypeDesc.string›
  ·rename_i c a len cap p
   have k:iG P (do let (l,h,m)←Instr.sliceBounds true len cap d b none;let size←Go.sizeOf c;pure (Value.slice (if m=l then a else a.map (·.add (l*size))) (h-l) (m-l))):=
    eu (GM _ _ _ _ _) fun v=>eu (GK _) fun s=>cK _
   exact k w v w' h
  ·exact nomatch ‹TypeDesc.slice e=TypeDesc.pointer _›
  ·simp[stuck] at h
 intro w v w' h;rw[g] at h;obtain⟨j,i⟩:=o w v w' h;exact⟨j,fun n=>by rw[g];exact i n⟩
theorem LP (x:Value):iG P (Instr.sureAddr x):=by
 unfold Instr.sureAddr;split
 ·exact cK _
 ·exact oq fun w v w' h=>by simp[stuck] at h
theorem JF {t:TypeId} {f:Nat} (c:Rh P t f=true) (x:Value):iG P (Instr.fieldAt t x f):=by
 unfold Rh at c;split at c
 ·rename_i r n
  split at c
  ·rename_i d k
   split at c
   ·rename_i i o
    have g:i.size≠0:=by simpa using c
    have e: ∀(a:Addr) w,(fieldPlace a d).run P w=.ok (a.add d.offset) w:=fun a w=>by
     simp[fieldPlace,Go.sizeOf,typeInfo,o,g]
    have q:iG P (do let a←Instr.sureAddr x;pure (Value.pointer (some (←fieldPlace a d)))):=by
     refine eu (LP x) fun a=>eu ?_ fun b=>cK _
     intro w v w' h;rw[e a w] at h;simp only[Result.ok.injEq] at h;obtain⟨rfl,rfl⟩:=h;exact⟨rfl,fun j=>e a j⟩
    intro w v w' h;have l: ∀w,(Instr.fieldAt t x f).run P w=(do let a←Instr.sureAddr x;pure (Value.pointer (some (←fieldPlace a d))):Sem Value).run P w:=fun w=>by
     unfold Instr.fieldAt;simp only[Sem.run_bind,run_underlying n,Result.andThen_ok,k]
    rw[l] at h;obtain⟨p,m⟩:=q w v w' h;exact⟨p,fun j=>by rw[l];exact m j⟩
   ·cases c
  ·cases c
 ·cases c
def RO:V→Bool
 | .eptr _ _ _ _ _ _=>true
 | .epz _ _ _ _ _=>true
 | .rptr _ _ _=>true
 | .box _ _=>true
 |_=>false
theorem F9 {g:Gh} {X:V} {u:Value} (d:RO X=true) (h:aG g X u): ∃a,u=.pointer (some a):=by
 cases X with
 |eptr L e sh xs i off=>obtain⟨_,b,_,_,_,_,_,c⟩:=kG.1 h;exact⟨_,c⟩
 |epz L e f i off=>obtain⟨_,b,_,_,_,_,_,_,c⟩:=mQ.1 h;exact⟨_,c⟩
 |rptr sh x off=>obtain⟨b,q,l,c,_⟩:=gM.1 h;exact⟨_,c⟩
 |box k off=>obtain⟨b,_,c⟩:=dH.1 h;exact⟨_,c⟩
 |_=>cases d
theorem Ga {P:Program} {r:Operand→V} {bx:List (Nat×af)} {o:Oper} {x:Operand} {a:Bool×Eff} (b:o.op=.nilCheck x) (h:Kq P r bx o=some a):RO (r x)=true:=by
 unfold Kq at h;rw[b] at h;simp only at h
 cases hx:r x<;>rw[hx] at h<;>first|rfl|cases h
theorem VH {E:Env} {fr:af} {bx:List (Nat×af)} {o:Oper} {x:Operand} {b:Bool×Eff} {g:Gh} {ac:Act} (d:o.op=.nilCheck x) (e: ∀y,aG g (iO E fr y) (ac.eval y)) (h:zS E fr bx o=some b): ∃a,ac.eval x=.pointer (some a):=by
 have hl:yV E fr o=none:=by unfold yV;rw[d]
 unfold zS at h;rw[hl] at h;simp only at h
 cases i:o.op.operands.toList.any fun x=>(iO E fr x).Ib with
 |false=>rw[i] at h;exact F9 (Ga d h) (e x)
 |true=>
  rw[i,iy] at h;have f:Kq E.P (fun x=>(iO E fr x).yS) bx o=some b→ ∃a,ac.eval x=.pointer (some a):=fun h=>F9 (Ga d h) (uL (e x))
  split at h
  ·rename_i c v hx
   exact F9 (Ga d hx) (Eo (e x))
  ·exact f h
theorem JG {o:Oper} (h:vJ P o=true) {ρ:Operand→Value} (c: ∀x,o.op=.nilCheck x→ ∃a,ρ x=.pointer (some a)) {w w':World} {u:Value} (i:(execOp ρ o).run P w=.ok (.value u) w'): ∀g,(execOp ρ o).run P g=.ok (.value u) g:=by
 unfold vJ at h;rw[bL,bL] at h;have b:=h.1.1;have k:iG P (execOp ρ o):=by
  split at b
  ·rename_i x hx
   have:execOp ρ o=pure (.value (ρ x)):=by simp only[execOp,hx]
   rw[this];exact cK _
  ·rename_i x hx
   obtain⟨a,m⟩:=c x hx;have:execOp ρ o=pure (.value (.pointer (some a))):=by simp only[execOp,hx,m]
   rw[this];exact cK _
  ·rename_i t x n l hx
   have:execOp ρ o=(do pure (.value (←Instr.sliceAt t (ρ x) (n.map ρ) (l.map ρ) none))):=by simp only[execOp,hx,Option.map_none]
   rw[this];unfold XD at b;split at b
   ·rename_i e j
    exact eu (JE j _ _ _) fun v=>cK _
   ·cases b
  ·rename_i fn first d hx
   have:execOp ρ o=(do pure (.value (←Instr.makeFunc fn (first.map ρ) (d.map ρ)))):=by simp only[execOp,hx]
   rw[this];exact eu (by unfold Instr.makeFunc;exact cK _) fun v=>cK _
  ·rename_i t x f hx
   have:execOp ρ o=(do pure (.value (←Instr.fieldAt t (ρ x) f))):=by simp only[execOp,hx]
   rw[this];exact eu (JF b _) fun v=>cK _
  ·cases b
 exact(k w _ w' i).2
end
section
variable {E:Env} {B:Own} {G0:aJ} {w0:World}
theorem zu {n:Nat} {ops:List Oper} (h:lG n ops=true): ∀(i:Nat) o,ops[i]? =some o→(∃d,o.dst=some d∧d<n)∧(∀(j:Nat) o',ops[j]? =some o'→i≠j→o.dst≠o'.dst)∧(∀e∈o.after.toList,Region.binds .any e=true→e.on<i)∧
  (∀t∈qM o,∀(j:Nat) o',ops[j]? =some o'→o'.dst=some t→j<i∧ ∃e∈o.after.toList,Region.binds .any e=true∧e.on=j)∧(∀j a,o.guard=some (j,a)→j<i∧ ∃e∈o.after.toList,Region.binds .any e=true∧e.on=j):=by
 intro i o s;unfold lG at h;simp only at h;have h:=vL h i o s;simp only[bL] at h;obtain⟨⟨⟨⟨m,u⟩,h3⟩,r⟩,q⟩:=h;refine⟨?_,fun j o' l g=>?_,fun e b w=>?_,fun t v j o' l c=>?_,fun j a x=>?_⟩
 ·split at m
  ·rename_i d c;exact⟨d,c,by simpa[A9] using m⟩
  ·cases m
 ·have:=vL u j o' l
  simp only[Fx,ig,Yb,ne_eq] at this;exact this.resolve_left g
 ·rw[ko] at h3
  have:=h3 e b;rw[w] at this;simpa[A9] using this
 ·rw[ko] at r
  have:=vL (r t v) j o' l;simp only[Fx,Yb,ne_eq,bL,Dw,ig,A9] at this;rcases this with h|⟨k,e,b,p,f⟩
  ·exact absurd c h
  ·exact⟨k,e,b,p,f⟩
 ·rw[x] at q
  simp only[bL,Dw,ig,A9] at q;obtain⟨k,e,b,p,f⟩:=q;exact⟨k,e,b,p,f⟩
theorem zw {ops:List Oper} {s s':St} {o:Oper} (h: ∀j a b d,o.guard=some (j,a)→ops[j]? =some b→b.dst=some d→slot s.fr d=slot s'.fr d):jo ops s o=jo ops s' o:=by
 unfold jo;split
 ·rfl
 ·rename_i j a f
  split
  ·rfl
  ·rename_i b c
   split
   ·rfl
   ·rename_i d e
    rw[h j a b d f c e]
theorem IC {l:List Oper} {m i:Nat} {o:Oper} (h:(l.take m)[i]? =some o):l[i]? =some o∧i<m:=by
 rw[Ki] at h;split at h
 ·exact⟨h,by assumption⟩
 ·cases h
theorem o8 {l:List Oper} {m i:Nat} {o:Oper} (h:l[i]? =some o) (a:i<m):(l.take m)[i]? =some o:=by
 rw[Ki,if_pos a];exact h
theorem wo: ∀(m l:List Nat) (x:Nat),x∈addN l m→x∈l∨x∈m
 |[],l,x,h=> .inl h
 |a::m,l,x,h=>by
  unfold addN at h
  cases b:l.contains a with
  |true=>rw[b,iy] at h;exact(wo m l x h).imp id (xE _)
  |false=>
   rw[b,gF] at h;rcases wo m _ x h with h|h
   ·rcases List.mem_cons.1 h with rfl|h
    ·exact .inr vg
    ·exact .inl h
   ·exact .inr (xE _ h)
theorem gV {o:Oper} {x:Nat} (h:x∈fF o): ∃e∈o.after.toList,Region.binds .any e=true∧e.on=x:=by
 unfold fF at h;obtain⟨e,a,rfl⟩:=List.mem_map.1 h;rw[Xk] at a;exact⟨e,a.1,a.2,rfl⟩
theorem LQ {c b:Bool} (h:(bif c then b else false)=true):c=true∧b=true:=by cases c<;>first|exact⟨rfl,h⟩|cases h
theorem pM: ∀(l:List Nat) (k:List Nat→Bool),uw l k=k l
 |[],_=>rfl
 |a::l,k=>by unfold uw;exact pM l _
theorem uX {ops:List Oper}: ∀(n j i k:Nat) (o:Oper),waits ops n j i=true→ops[i]? =some o→k∈fF o→ ∃b,waits ops b j k=true
 |0,j,i,k,o,h,_,_=>by cases h
 |n+1,j,i,k,o,h,f,l=>by
  unfold waits at h;split at h
  ·rename_i r a
   simp only[Dw,bL,Fx,ig] at h;obtain⟨e,m,g,h⟩:=h;rcases h with h|h
   ·obtain⟨q,c,d,rfl⟩:=gV l
    refine⟨2,?_⟩;unfold waits;rw[a];simp only[Dw,bL,Fx,ig];refine⟨e,m,g,.inr ?_⟩;unfold waits;rw[h,f];simp only[Dw,bL,Fx,ig];exact⟨q,c,d,.inl rfl⟩
   ·obtain⟨b,p⟩:=uX n e.on i k o h f l
    refine⟨b+1,?_⟩;unfold waits;rw[a];simp only[Dw,bL,Fx,ig];exact⟨e,m,g,.inr p⟩
  ·cases h
theorem zx {ops:List Oper} {j:Nat}: ∀(n:Nat) (S:List Nat),FQ ops n S=true→(∀x∈S,∃k,waits ops k j x=true)→ ∀i,i<n→ ∃k,waits ops k j i=true
 |0,S,_,_,i,f=>by omega
 |n+1,S,h,c,i,f=>by
  unfold FQ at h;obtain⟨l,a⟩:=LQ h;have b: ∃k,waits ops k j n=true:=c n (by simpa using l);rw[pM] at a;by_cases e:i=n
  ·subst e;exact b
  ·refine zx n _ a (fun x hx=>?_) i (by omega)
   rcases wo _ _ _ hx with hx|hx
   ·exact c x hx
   ·obtain⟨k,g⟩:=b
    split at hx
    ·rename_i o d;exact uX k j n x o g d hx
    ·cases hx
theorem zy {ops:List Oper}: ∀(n m:Nat),FT ops m n=true→ ∀j,m≤j→j<m+n→vG ops j=true
 |0,m,_,j,b,a=>by omega
 |n+1,m,h,j,b,a=>by
  unfold FT at h;rw[bL] at h;by_cases e:j=m
  ·subst e;exact h.1
  ·exact zy n (m+1) h.2 j (by omega) (by omega)
theorem nu {ops:List Oper} {m:Nat} (h:kD ops m=true): ∀(j:Nat) o,ops[j]? =some o→m≤j→(∀e∈o.after.toList,Region.binds .any e=true→e.on<j)∧ ∀i,i<j→ ∃n,waits ops n j i=true:=by
 intro j o c l;unfold kD at h;have f:j<ops.length:=(List.getElem?_eq_some_iff.1 c).1;have a:=zy _ _ h j l (by omega);unfold vG at a;rw[c] at a;simp only[bL,ko,pM] at a;refine⟨fun e k g=>iJ (a.1 e.on ?_),zx j _ a.2 fun x hx=>?_⟩
 ·unfold fF
  exact List.mem_map.2 ⟨e,List.mem_filter.2 ⟨k,g⟩,rfl⟩
 ·obtain⟨q,b,d,rfl⟩:=gV hx
  refine⟨1,?_⟩;unfold waits;rw[c];simp only[Dw,bL,Fx,ig];exact⟨q,b,d,.inl rfl⟩
theorem ID {P:Program} {ops:Array Oper} {Q:Exit→Act→World→Prop} {m:Nat} (C: ∀(j:Nat) o,ops.toList[j]? =some o→m≤j→(∀e∈o.after.toList,Region.binds .any e=true→e.on<j)∧ ∀i,m≤i→i<j→ ∃n,waits ops.toList n j i=true) (N: ∀(j:Nat) o,ops.toList[j]? =some o→ ∀e∈o.after.toList,Region.binds .any e=true→e.on<j): ∀(n k:Nat) (fuel:Nat) (b:Array Bool) (a:Act) (w:World),k+n=ops.size→m≤k→b.size=ops.size→(∀i,i<ops.size→b.getD i false=decide (i<k))→n≤fuel→
  wpOps P ops Q (List.range' k n) a w→wpAny P .any ops Q fuel b a w:=by
 intro n;induction n with
 |zero=>
  intro k fuel b a w G s B hl U h;have F:Region.ready .any ops b=[]:=by
   rw[acj];intro i c;obtain⟨x,o,E,_⟩:=mem_ready.1 c;have J:i<ops.size:=(Array.getElem?_eq_some_iff.1 E).1;have q:i<b.size:=by omega
   have d:=hl i J;simp only[pU,qF q,qx] at x d;rw[x] at d;have:=acC d.symm;omega
  cases fuel with
  |zero=>exact⟨F,h⟩
  |succ fuel=>exact⟨fun _=>h,fun i c=>by rw[F] at c;cases c⟩
 |succ n W=>
  intro k fuel b a w G s B hl U h
  cases fuel with
  |zero=>omega
  |succ fuel=>
   have D:k<ops.size:=by omega
   have K:ops.toList[k]? =some ops[k]:=by simp[D]
   have g: ∀i,i∈Region.ready .any ops b→i=k:=by
    intro i c;obtain⟨x,o,E,l⟩:=mem_ready.1 c;have J:i<ops.size:=(Array.getElem?_eq_some_iff.1 E).1;have q:i<b.size:=by omega
    have d:=hl i J;simp only[pU,qF q,qx] at x d;rw[x] at d;have R:=acC d.symm;by_cases e:i=k
    ·exact e
    ·exfalso
     have A:ops.toList[i]? =some o:=by simpa using E
     obtain⟨_,S⟩:=C i o A (by omega);obtain⟨X,I⟩:=S k s (by omega);have M:Closed ops.toList (fun i=>b.getD i false):=by
      intro j T y f v r t;have f:b.getD j false=true:=f;have L:j<ops.size:=by have:=(List.getElem?_eq_some_iff.1 y).1;simpa using this
      rw[hl j L] at f;have p:=N j T y v (by simpa using r) t;have H:=D7 f;show b.getD v.on false=true;rw[hl v.on (by omega)];simp;omega
     have u: ∀(n:Nat),waits ops.toList n i k=true→b.getD k false=true:=by
      intro n z
      cases n with
      |zero=>cases z
      |succ n=>
       unfold waits at z;rw[A] at z;simp only[Dw,bL,Fx,ig] at z;obtain⟨v,r,t,p⟩:=z;have H:=l v (by simpa using r) t;rcases p with p|p
       ·rw[←p];exact H
       ·exact jl M n v.on k p H
     have:=u _ I;rw[hl k D] at this;have:=D7 this;omega
   refine⟨fun F=>?_,fun i c=>?_⟩
   ·exfalso
    have:k∈Region.ready .any ops b:=by
     have q:k<b.size:=by omega
     have d:=hl k D;refine mem_ready.2 ⟨?_,ops[k],by simp[D],fun e V O=>?_⟩
     ·simp only[pU,qF q,qx] at d⊢
      rw[d];simp
     ·have p:=(C k _ K s).1 e (by simpa using V) O
      rw[hl e.on (by omega)];simpa using p
    rw[F] at this;cases this
   ·obtain rfl:=g i c
    rw[acn,wpOps_cons] at h;refine wpOp_mono (fun a w h=>?_) h;refine W (i+1) fuel _ a w (by omega) (by omega) (by simpa using B) (fun j L=>?_) (by omega) h;by_cases e:j=i
    ·subst e
     have q:j<b.size:=by omega
     simp[q]
    ·have:(b.setIfInBounds i true).getD j false=b.getD j false:=getD_set_ne false (fun h=>e h.symm)
     rw[this,hl j L];have:(j<i)↔(j<i+1):=by omega
     simp only[this]
theorem LU {P:Program} {Q:Exit→Act→World→Prop} {o:Oper} {a:Act} {w:World} {K:Act→World→Prop} {x:Operand} {i:Nat} (d:o.op=.extract x i) (h:o.wp P a w K Q):
  ∃v,(∀w,(execOp a.eval o).run P w=.ok (.value v) w)∧K (a.put o.dst v) w:=by
 have e:execOp a.eval o=(do pure (.value (←Instr.extract (a.eval x) i))):=by unfold execOp;simp only[d]
 unfold Oper.wp at h;rw[e] at h⊢;unfold Instr.extract at h⊢
 cases b:a.eval x with
 |tuple vs=>
  rw[b] at h;simp only at h⊢
  cases c:vs[i]? with
  |none=>rw[c] at h;exact False.elim h
  |some v=>rw[c] at h;exact⟨v,fun w=>rfl,h⟩
 |_=>rw[b] at h;exact False.elim h
theorem LV {ops:Array Oper} {l:Nat} (h:Ie ops l=true): ∃o x i,ops[l]? =some o∧o.op=.extract x i∧o.guard=none∧ ∀(j:Nat) c,ops[j]? =some c→j≠l→(∀e∈o.after,Region.binds .any e=true→e.on≠j)→(∀e∈c.after,Region.binds .any e=true→e.on≠l)→o.apart ops c=true:=by
 unfold Ie at h
 cases q:ops[l]? with
 |none=>rw[q] at h;cases h
 |some o=>
  rw[q] at h;simp only[bL] at h;obtain⟨⟨t,r⟩,h3⟩:=h;have hx: ∃x i,o.op=.extract x i:=by
   cases m:o.op with
   |extract x i=>exact⟨x,i,rfl⟩
   |_=>rw[m] at t;cases t
  obtain⟨x,i,hx⟩:=hx;have f:o.guard=none:=by
   cases f:o.guard with
   |none=>rfl
   |some _=>rw[f] at r;cases r
  refine⟨o,x,i,rfl,hx,f,fun j c s n d g=>?_⟩;rw[ko] at h3;have a:=h3 j (List.mem_range.2 (Array.getElem?_eq_some_iff.1 s).1);rw[s] at a;simp only[Fx,ig,n,false_or,ZB] at a;rcases a with(a|a)|a
  ·obtain⟨e,p,k,b⟩:=gV a
   exact absurd b (d e (by simpa using p) k)
  ·obtain⟨e,p,k,b⟩:=gV a
   exact absurd b (g e (by simpa using p) k)
  ·exact a
theorem qm {ops:List Oper} {late:Nat→Bool} {j:Nat}: ∀(n:Nat) (S:List Nat),vH ops late n S=true→(∀x∈S,∃k,waits ops k j x=true)→ ∀i,i<n→(∃k,waits ops k j i=true)∨late i=true
 |0,_,_,_,i,d=>absurd d (X7 i)
 |n+1,S,h,a,i,d=>by
  unfold vH at h
  cases c:S.contains n with
  |true=>
   rw[c,iy,pM] at h;have f:n∈S:=by simpa using c
   by_cases e:i=n
   ·subst e;exact .inl (a _ f)
   ·refine qm n _ h (fun x hx=>?_) i (by omega)
    rcases wo _ _ _ hx with hx|hx
    ·exact a x hx
    ·cases b:ops[n]? with
     |none=>rw[b] at hx;cases hx
     |some o=>
      rw[b] at hx;obtain⟨k,g⟩:=a n f;exact uX k j n x o g b hx
  |false=>
   rw[c,gF,bL] at h;by_cases e:i=n
   ·subst e;exact .inr h.1
   ·exact qm n S h.2 a i (by omega)
theorem wS {ops:List Oper} {late:Nat→Bool}: ∀(n m:Nat),vI ops late m n=true→ ∀j,m≤j→j<m+n→BR ops late j=true
 |0,m,_,j,b,a=>by omega
 |n+1,m,h,j,b,a=>by
  unfold vI at h;rw[bL] at h;by_cases e:j=m
  ·subst e;exact h.1
  ·exact wS n (m+1) h.2 j (by omega) (by omega)
theorem JH {ops:Array Oper} {m:Nat} (h:vI ops.toList (Ig ops m) m (ops.toList.length-m)=true): ∀(j:Nat) o,ops.toList[j]? =some o→m≤j→(∀e∈o.after.toList,Region.binds .any e=true→e.on<j)∧ ∀i,i<j→(∃n,waits ops.toList n j i=true)∨Ig ops m i=true:=by
 intro j o c l;have f:j<ops.toList.length:=(List.getElem?_eq_some_iff.1 c).1;have a:=wS _ _ h j l (by omega);unfold BR at a;rw[c] at a;simp only[bL,ko,pM] at a;refine⟨fun e k g=>iJ (a.1 e.on ?_),qm j _ a.2 fun x hx=>?_⟩
 ·unfold fF
  exact List.mem_map.2 ⟨e,List.mem_filter.2 ⟨k,g⟩,rfl⟩
 ·obtain⟨q,b,d,rfl⟩:=gV hx
  refine⟨1,?_⟩;unfold waits;rw[c];simp only[Dw,bL,Fx,ig];exact⟨q,b,d,.inl rfl⟩
theorem ES (hE:qy E) {ops:Array Oper} {Q:Exit→Act→World→Prop} {q sN:St} {g:Gh} {a:Act} {w:World} {m:Nat} (hok:lG q.fr.length (ops.toList.take m)=true) {late:Nat→Bool}
  (hch: ∀(j:Nat) o,ops.toList[j]? =some o→m≤j→(∀e∈o.after.toList,Region.binds .any e=true→e.on<j)∧ ∀i,i<j→(∃n,waits ops.toList n j i=true)∨late i=true)
  (J: ∀l,late l=true→l<m∧Ie ops l=true∧Region.noSelect ops=true∧ ∀c a d v w,Q (.panic c) (a.put d v) w→Q (.panic c) a w) (T:dO (ops.toList.take m) q=true) (hen:je (ops.toList.take m) sN=true)
  (ht:Trace E ops.toList (some q.bx) (ops.toList.take m) q sN) (hm:m≤ops.size) (h:Inv E B G0 w0 q g a w) (hk: ∀g' a' w',Inv E B G0 w0 sN g' a' w'→wpOps E.P ops Q (List.range' m (ops.size-m)) a' w'):wpAny E.P .any ops Q ops.size (Array.replicate ops.size false) a {w with drawn:=w.drawn+1}:=by
 have V:=zu hok;have hlm:(ops.toList.take m).length=m:=by rw[Dv];simp;omega
 have hdst: ∀o∈ops.toList.take m,∃d,o.dst=some d:=by
  intro o I;obtain⟨i,p⟩:=Du I;obtain⟨⟨d,hd,_⟩,_⟩:=V i o p;exact⟨d,hd⟩
 obtain⟨r,O,hcs,hfin⟩:=uV (ops.toList.take m) q sN hdst ht;subst hfin;have D: ∀(i:Nat) o c,(ops.toList.take m)[i]? =some o→r[i]? =some c→o.dst=some c.d:=fun i o c F Y=>(hcs i o c F Y).1
 have hnd:(r.map (·.d)).Nodup:=by
  refine List.pairwise_iff_getElem.2 fun i j p A hij e=>?_
  rw[xC] at p A;have QN:i<(ops.toList.take m).length:=by omega
  have H:j<(ops.toList.take m).length:=by omega
  have F:=D i _ _ (gP QN) (gP p);have Y:=D j _ _ (gP H) (gP A);simp only[aco] at e;refine(V i _ (gP QN)).2.1 j _ (gP H) (by omega) ?_;rw[F,Y,e]
 have hfr: ∀c∈r,c.d<q.fr.length:=by
  intro c hc;obtain⟨i,p⟩:=Du hc;have QN:i<(ops.toList.take m).length:=by rw[←O];exact(List.getElem?_eq_some_iff.1 p).1
  obtain⟨⟨d,hd,hlt⟩,_⟩:=V i _ (gP QN);have:=D i _ c (gP QN) p;rw[this] at hd;simp only[aI] at hd;rw[hd];exact hlt
 have hsz:ops.toList.length=ops.size:=by simp
 let sel (f:Array Bool):Nat→Bool:=fun i=>f.getD i false
 have hed: ∀(j:Nat) o,ops.toList[j]? =some o→ ∀e∈o.after.toList,Region.binds .any e=true→e.on<j:=by
  intro j o A;by_cases hjm:j<m
  ·exact(V j o (o8 A hjm)).2.2.1
  ·exact(hch j o A (by omega)).1
 have key: ∀(fuel:Nat) (f:Array Bool) (g:Gh) (a:Act) (w:World),f.size=ops.size→(f.toList.countP fun b=>!b)≤fuel→(∀i,m≤i→f.getD i false=false)→Closed ops.toList (sel f)→Inv E B G0 w0 (aR (sel f) r 0 q) g a w→wpAny E.P .any ops Q fuel f a w:=by
  have full: ∀(fuel:Nat) (f:Array Bool) (g:Gh) (a:Act) (w:World),f.size=ops.size→(f.toList.countP fun b=>!b)≤fuel→(∀i,m≤i→f.getD i false=false)→(∀i,i<m→f.getD i false=true)→Inv E B G0 w0 (aR (sel f) r 0 q) g a w→wpAny E.P .any ops Q fuel f a w:=by
   intro fuel f g a w L hc M R p;have e1:aR (sel f) r 0 q=aR (fun _=>true) r 0 q:=jb _ _ r 0 q fun i _ p=>R i (by omega)
   rw[e1] at p;refine ID (fun j o I A=>⟨(hch j o I A).1,fun i hmi hij=>((hch j o I A).2 i hij).resolve_right fun hl=>by have:=(J i hl).1;omega⟩) hed (ops.size-m) m fuel f a w (by omega) (iI _) L (fun i p=>?_) ?_ (hk g a w p)
   ·by_cases C:i<m
    ·rw[R i C];simp[C]
    ·rw[M i (by omega)];simp[C]
   ·refine Dy ?_ hc
    have F:(f.toList.drop m).countP (fun b=>!b)=(f.toList.drop m).length:=by
     rw[List.countP_eq_length];intro b N;obtain⟨i,p⟩:=Du N;rw[Hy] at p;have Y:=M (m+i) (by omega);have h3:f[m+i]? =some b:=by simpa using p
     rw[pU,h3,qx] at Y;rw[Y];rfl
    have Y:(f.toList.drop m).countP (fun b=>!b)≤f.toList.countP fun b=>!b:=List.Sublist.countP_le (List.drop_sublist _ _)
    rw[F,xB,Ai,L] at Y;exact Y
  intro fuel;induction fuel with
  |zero=>
   intro f g a w L hc M hcl p;refine full 0 f g a w L hc M (fun i C=>?_) p;have U:i<f.size:=by omega
   cases hq:f.getD i false with
   |true=>rfl
   |false=>
    exfalso;have h0:f[i]=false:=by
     simpa only[pU,qF U,qx] using hq
    have:0<f.toList.countP fun b=>!b:=List.countP_pos_iff.2 ⟨f[i],by simp,by rw[h0];rfl⟩
    omega
  |succ fuel ih=>
   intro f g a w L hc M hcl p;by_cases K: ∀i,i<m→f.getD i false=true
   ·exact full (fuel+1) f g a w L hc M K p
   have MV: ∀i,i∈Region.ready .any ops f→i<m→ ∃o,ops[i]? =some o∧((Region.wanted o (yielded ops a.tmps)=true∧o.wp E.P a w (wpAny E.P .any ops Q fuel (f.setIfInBounds i true)) Q)∨(Region.wanted o (yielded ops a.tmps)=false∧wpAny E.P .any ops Q fuel (f.setIfInBounds i true) (a.put o.dst undef) w)):=by
    intro i C Z;obtain⟨h0,o,I,z⟩:=mem_ready.1 C;have hi':i<ops.size:=(Array.getElem?_eq_some_iff.1 I).1;have U:i<f.size:=by omega
    have h0':f[i]=false:=by
     simpa only[pU,qF U,qx] using h0
    have hsel:sel f i=false:=by
     show f.getD i false=false;simp only[pU,qF U,qx,h0']
    have Ot:ops.toList[i]? =some o:=by simpa using I
    have hoI:=o8 Ot Z;have hiC:i<r.length:=by omega
    have hci:r[i]? =some r[i]:=gP hiC;generalize r[i]=c at hci;obtain⟨hod,si,_,hsi,hstep⟩:=hcs i o c hoI hci;have Ky:=V i o hoI;have Il: ∀t,(∀(j:Nat) o',(ops.toList.take m)[j]? =some o'→o'.dst=some t→j<i∧ ∃e∈o.after.toList,Region.binds .any e=true∧e.on=j)→slot (aR (sel f) r 0 q).fr t=slot si.fr t:=by
     intro t htr;rw[hsi];by_cases hex: ∃X∈r,X.d=t
     ·obtain⟨X,hm,rfl⟩:=hex
      obtain⟨j,A⟩:=Du hm;have H:j<(ops.toList.take m).length:=by rw[←O];exact(List.getElem?_eq_some_iff.1 A).1
      have hdj:=D j _ X (gP H) A;obtain⟨hlt,e,he,N,heq⟩:=htr j _ (gP H) hdj;have W:sel f j=true:=by rw[←heq];exact z e (by simpa using he) N
      rw[jK (sel f) j r 0 q X (D9 _) (by simpa using A) hnd (hfr X hm),jK (fun k=>decide (k<i)) j r 0 q X (D9 _) (by simpa using A) hnd (hfr X hm),if_pos W,if_pos (by simpa using hlt)]
     ·rw[gU _ t r 0 q fun X hm e=>hex ⟨X,hm,e⟩,gU _ t r 0 q fun X hm e=>hex ⟨X,hm,e⟩]
    have YI:Closed (ops.toList.take m) (sel f):=fun j oj G=>hcl j oj (IC G).1
    obtain⟨hnl,hnb⟩:=EQ O D hnd hfr T hen YI hci hsel;have hst':=hstep (aR (sel f) r 0 q) (zw fun j want oj d hg G hd=>Il d fun j' o' hj' hd'=>by
      have:j'=j:=by
       by_cases e:j'=j
       ·exact e
       ·exact absurd (hd'.trans hd.symm) ((V j' o' hj').2.1 j oj (o8 G (by have:=(Ky.2.2.2.2 j want hg).1;omega)) e)
      subst this;exact Ky.2.2.2.2 j' want hg) (yC (uU fun t Yf=>Il t (Ky.2.2.2.1 t Yf))) hnl hnb
    have KS:Alike (c.app (aR (sel f) r 0 q)) (aR (sel (f.setIfInBounds i true)) r 0 q):=by
     have F:=uT (sel f) i r 0 q c (D9 _) (by simpa using hci) hsel hnd;have e1:aR (fun j=>if j=i then true else sel f j) r 0 q=aR (sel (f.setIfInBounds i true)) r 0 q:=jb _ _ r 0 q fun j _ _=>by
      show _=(f.setIfInBounds i true).getD j false;by_cases ej:j=i
      ·subst ej;simp[U]
      ·rw[if_neg ej,getD_set_ne false (fun h=>ej h.symm)]
     rw[e1] at F;exact F
    have YJ:Closed ops.toList (sel (f.setIfInBounds i true)):=by
     intro j oj G W e he N;have W:(f.setIfInBounds i true).getD j false=true:=W;show(f.setIfInBounds i true).getD e.on false=true;by_cases ej:j=i
     ·subst ej
      rw[Ot] at G;simp only[aI] at G;subst G;exact getD_set_true (z e he N)
     ·rw[getD_set_ne false (fun h=>ej h.symm)] at W
      exact getD_set_true (hcl j oj G W e he N)
    have hcount:(((f.setIfInBounds i true).toList).countP fun b=>!b)≤fuel:=by
     have h5:((f.setIfInBounds i true).toList).countP (fun b=>!b)+1=f.toList.countP fun b=>!b:=by
      rw[Zy];have hil:i<f.toList.length:=by simpa using U
      have e1:f.toList=f.toList.take i++f.toList[i]::f.toList.drop (i+1):=by
       rw[List.getElem_cons_drop,ack]
      have e2:f.toList.set i true=f.toList.take i++true::f.toList.drop (i+1):=by
       rw[ZX,if_pos hil]
      rw[e2];conv=>rhs;rw[e1]
      have e3:f.toList[i]=false:=by simpa using h0'
      rw[e3];simp only[List.countP_append,Qz];simp;omega
     omega
    have next: ∀g' a' w',Inv E B G0 w0 (c.app (aR (sel f) r 0 q)) g' a' w'→wpAny E.P .any ops Q fuel (f.setIfInBounds i true) a' w':=fun g' a' w' hi'=>
     ih (f.setIfInBounds i true) g' a' w' (by simpa using L) hcount (fun j A=>by rw[getD_set_ne false (by omega)];exact M j A) YJ (hi'.alike KS)
    refine⟨o,I,?_⟩;rcases hst' with⟨S,eff,hor,_,hr⟩|⟨S,heq⟩
    ·refine .inl ⟨dP p.fr S,?_⟩
     have hsub: ∀k ds,aA q.bx k=some ds→aA (aR (sel f) r 0 q).bx k=some ds:=by
      intro k ds hkd;have: ∀(l:List nS) (m:Nat) (s:St),(∀c∈l,∀x,c.bx=some x→c.d≠k)→aA s.bx k=some ds→aA (aR (sel f) l m s).bx k=some ds:=by
       intro l;induction l with
       |nil=>intro m s _ h;exact h
       |cons c l ih=>
        intro m s hne h;unfold aR;refine ih (m+1) _ (fun c' hc'=>hne c' (xE _ hc')) ?_;split
        ·unfold nS.app
         cases N:c.bx with
         |none=>exact h
         |some x=>
          unfold aA;have:(c.d==k)=false:=by rw[qD];exact hne c vg x N
          rw[this,gF];exact h
        ·exact h
      refine this r 0 q (fun X hcj x hx e=>?_) hkd;obtain⟨j,A⟩:=Du hcj;have H:j<(ops.toList.take m).length:=by rw[←O];exact(List.getElem?_eq_some_iff.1 A).1
      have hdj:=D j _ X (gP H) A;unfold dO at T;rw[ko] at T;have h6:=T _ (Hg H);rw[hdj] at h6;simp only[bL] at h6;exact(j3 h6.2 k ds hkd).1 e.symm
     have hdo:=iC (ac:=a) (B:=B) (w:=w) (g:=g) (bx:=q.bx) hE rfl p.gok p.own (p.bxs.sub hsub) p.hB p.m1 p.fB (fun y=>cr p.fr p.fB y) hor;exact p8 p hdo hsub (fun h=>by cases h) hr fun g' a' w' h' _=>next g' a' w' h'
    ·refine .inr ⟨dP p.fr S,?_⟩
     refine next g _ w ?_;rw[heq];exact p.put o.dst (v:=.tup []) (u:=undef) ⟨[],rfl,.nil⟩
   by_cases hL: ∃l,l∈Region.ready .any ops f∧late l=true
   ·obtain⟨l,hlr,hll⟩:=hL
    obtain⟨hlm',hlb,hns,hQ⟩:=J l hll;obtain⟨ol,x,ix,hol,hox,hog,hap⟩:=LV hlb;obtain⟨o,I,T⟩:=MV l hlr hlm';rw[hol] at I;simp only[aI] at I;subst I;rcases T with⟨_,hwp⟩|⟨S,_⟩
    rotate_left
    ·unfold Region.wanted at S;rw[hog] at S;cases S
    obtain⟨v,hv,hK⟩:=LU hox hwp;refine wpAny_first hol (Region.noSelect_spec hns) (fun c a w=>hQ c a ol.dst v w) fuel f a w (fun j oj A hjl hun hno=>?_) hlr (.inl ⟨by unfold Region.wanted;rw[hog],hv⟩) hK;refine hap j oj A hjl (fun e he N heq=>?_) hno;obtain⟨_,o2,ho2,hal⟩:=mem_ready.1 hlr;rw[hol] at ho2;simp only[aI] at ho2;subst ho2;have F:=hal e he N;rw[heq] at F;have hj4:j<f.size:=by have:=(Array.getElem?_eq_some_iff.1 A).1;omega
    simp only[pU,qF hj4,qx] at F hun;rw[F] at hun;cases hun
   refine⟨fun hr=>?_,fun i C=>?_⟩
   ·exfalso
    apply K
    have R: ∀i,i<ops.size→f.getD i true=true:=by
     intro i;induction i using Nat.strongRecOn with
     |_ i ih=>
      intro p
      cases hl:f.getD i true with
      |true=>rfl
      |false=>
       have hm:i∈Region.ready .any ops f:=by
        rw[mem_ready];refine⟨hl,ops[i],by simp[p],fun e he N=>?_⟩;have F:=hed i ops[i] (by simp[p]) e (by simpa using he) N;have Y:=ih e.on F (by omega);have U:e.on<f.size:=by omega
        simp only[pU,qF U,qx] at Y⊢;exact Y
       rw[hr] at hm
       cases hm
    intro i C;have F:=R i (by omega);have U:i<f.size:=by omega
    simp only[pU,qF U,qx] at F⊢;exact F
   obtain⟨h0,o,I,z⟩:=mem_ready.1 C;have hi':i<ops.size:=(Array.getElem?_eq_some_iff.1 I).1;have U:i<f.size:=by omega
   have h0':f[i]=false:=by
    simpa only[pU,qF U,qx] using h0
   have hsel:sel f i=false:=by
    show f.getD i false=false;simp only[pU,qF U,qx,h0']
   have Ot:ops.toList[i]? =some o:=by simpa using I
   have Z:i<m:=by
    refine Qy fun hmi=>K fun i' hi'm=>?_
    have key2: ∀(n:Nat) {i':Nat},waits ops.toList n i i'=true→f.getD i' false=true:=by
     intro n i' hn
     cases n with
     |zero=>cases hn
     |succ n=>
      unfold waits at hn;rw[Ot] at hn;simp only[Dw,bL,Fx,ig] at hn;obtain⟨e2,he2,hb2,h6⟩:=hn;have h7:=z e2 (by simpa using he2) hb2;rcases h6 with h6|h6
      ·rw[←h6];exact h7
      ·exact jl hcl n e2.on i' h6 h7
    obtain⟨_,S⟩:=hch i o Ot hmi;have hlt: ∀l,late l=true→f.getD l false=true:=by
     intro l;induction l using Nat.strongRecOn with
     |_ l ihl=>
      intro hll
      cases hlq:f.getD l false with
      |true=>rfl
      |false=>
       exfalso;obtain⟨hlm',hlb,_,_⟩:=J l hll;have hl4:l<f.size:=by omega
       refine hL ⟨l,mem_ready.2 ⟨?_,ops[l]'(by omega),by simp,fun e he N=>?_⟩,hll⟩
       ·simp only[pU,qF hl4,qx] at hlq⊢
        exact hlq
       ·have F:=hed l (ops[l]'(by omega)) (by simp) e (by simpa using he) N
        rcases S e.on (by omega) with⟨n,hn⟩|hl2
        ·exact key2 _ hn
        ·exact ihl e.on F hl2
    rcases S i' (by omega) with⟨n0,hwk⟩|hl2;rotate_left
    ·exact hlt i' hl2
    exact key2 _ hwk
   obtain⟨o2,ho2,YK⟩:=MV i C Z;unfold wpOp;rw[ho2];simp only;rcases YK with⟨S,h⟩|⟨S,h⟩
   ·rw[if_pos S];exact .inl h
   ·rw[if_neg (by rw[S];decide)];exact h
 have hinit:Inv E B G0 w0 (aR (sel (Array.replicate ops.size false)) r 0 q) g a {w with drawn:=w.drawn+1}:=by
  have e1: ∀(l:List nS) (k:Nat),aR (sel (Array.replicate ops.size false)) l k q=q:=by
   intro l;induction l with
   |nil=>intro k;rfl
   |cons c l ih=>
    intro k;unfold aR;have:sel (Array.replicate ops.size false) k=false:=by
     show(Array.replicate ops.size false).getD k false=false;simp[Oj];split<;>rfl
    rw[this,if_neg (by decide)];exact ih (k+1)
  rw[e1];exact h.drew
 refine key ops.size (Array.replicate ops.size false) g a _ (by simp) ?_ (fun i _=>by simp[Oj];split<;>rfl) ?_ hinit
 ·exact Dy abW (by simp)
 ·intro j o A hs
  have hs:(Array.replicate ops.size false).getD j false=true:=hs;simp only[pU,Oj] at hs;exfalso;split at hs<;>cases hs
theorem Ce (hE:qy E) {ops:Array Oper} {id:Nat} {Q:Exit→Act→World→Prop} {f q:St} {g:Gh} {a:Act} {w:World} {m:Nat} (r:lG f.fr.length (ops.toList.take m)=true) {late:Nat→Bool}
  (s: ∀(j:Nat) o,ops.toList[j]? =some o→m≤j→(∀e∈o.after.toList,Region.binds .any e=true→e.on<j)∧ ∀i,i<j→(∃n,waits ops.toList n j i=true)∨late i=true)
  (b: ∀l,late l=true→l<m∧Ie ops l=true∧Region.noSelect ops=true∧ ∀c a d v w,Q (.panic c) (a.put d v) w→Q (.panic c) a w) (k:dO (ops.toList.take m) f=true) (p:je (ops.toList.take m) q=true)
  (u:Trace E ops.toList (some f.bx) (ops.toList.take m) f q) (y:m≤ops.size) (h:Inv E B G0 w0 f g a w) (x: ∀g' t w',Inv E B G0 w0 q g' t w'→wpOps E.P ops Q (List.range' m (ops.size-m)) t w'):(Code.region id ops true).wp E.P Q a w:=
 wp_region_any hE.mixed (ES hE r s b k p u y h x)
theorem yD (sel:Nat→Bool) (k:Nat) (v:af): ∀(l:List nS) (n:Nat) (s:St),(∀c∈l,∀x,c.bx=some x→c.d≠k)→aR sel l n ⟨s.fr,gm s.bx k v⟩=⟨(aR sel l n s).fr,gm (aR sel l n s).bx k v⟩
 |[],_,_,_=>rfl
 |c::l,n,s,h=>by
  have a:c.app ⟨s.fr,gm s.bx k v⟩=⟨(c.app s).fr,gm (c.app s).bx k v⟩:=by
   unfold nS.app
   cases e:c.bx with
   |none=>rfl
   |some x=>
    have:(c.d==k)=false:=by rw[qD];exact h c vg x e
    simp only[gm,this,gF]
  unfold aR
  cases f:sel n with
  |true=>rw[if_pos rfl,if_pos rfl,a];exact yD sel k v l (n+1) _ fun c b=>h c (xE _ b)
  |false=>rw[if_neg (by decide),if_neg (by decide)];exact yD sel k v l (n+1) s fun c b=>h c (xE _ b)
theorem CV (k:Nat) (v old:af): ∀(l:List (Nat×af)),aA l k=some old→gm (gm l k v) k old=l
 |[],h=>by cases h
 |(j,b)::l,h=>by
  have c: ∀(v:af) (b:af) (l:List (Nat×af)),gm ((j,b)::l) k v=bif j==k then(j,v)::l else(j,b)::gm l k v:=fun _ _ _=>rfl
  unfold aA at h;rw[c]
  cases a:j==k with
  |true=>
   rw[a,iy] at h;simp only[aI] at h;rw[iy,c,a,iy,h]
  |false=>
   rw[a,gF] at h;rw[gF,c,a,gF,CV k v old l h]
theorem rA (k:Nat): ∀(l:List (Nat×af)) (j:Nat) (a:af),aA (qN l k) j=some a→j≠k∧aA l j=some a
 |[],j,a,h=>by cases h
 |(i,g)::l,j,a,h=>by
  unfold qN at h
  cases b:i==k with
  |true=>
   rw[b,iy] at h;obtain⟨d,f⟩:=rA k l j a h;refine⟨d,?_⟩;unfold aA;have:(i==j)=false:=by rw[qD];rw[ig] at b;intro e;exact d (e▸b)
   rw[this];exact f
  |false=>
   rw[b,gF] at h;unfold aA at h⊢
   cases c:i==j with
   |true=>
    rw[c] at h;rw[ig] at c;subst c;exact⟨by rw[qD] at b;exact b,h⟩
   |false=>
    rw[c] at h;exact rA k l j a h
theorem zz (k:Nat) (v:af): ∀(l:List (Nat×af)) (j:Nat),j≠k→aA (gm l k v) j=aA l j
 |[],_,_=>rfl
 |(i,b)::l,j,h=>by
  unfold gm
  cases a:i==k with
  |true=>
   rw[iy];rw[ig] at a;subst a;unfold aA;have:(i==j)=false:=by rw[qD];exact fun e=>h e.symm
   rw[this,gF,gF]
  |false=>
   rw[gF];unfold aA;rw[zz k v l j h]
theorem zA (hE:qy E) {ops:Array Oper} {id:Nat} {Q:Exit→Act→World→Prop} {z G sN:St} {g:Gh} {a:Act} {w:World} {m:Nat} {p:Oper} {k off:Nat} {cells old:af} (hok:lG z.fr.length (ops.toList.take m)=true)
  (hp:ops.toList[m]? =some p) (hea:FU ops.toList m=true) (hop:zS E z.fr z.bx p=some (true,.put k off cells)) (hold:aA z.bx k=some old) (hbld:iQ (over old off cells)=true→iQ old=true) (hs1:G=⟨z.fr,gm z.bx k (over old off cells)⟩)
  (hch: ∀(j:Nat) o,ops.toList[j]? =some o→m+1≤j→(∀e∈o.after.toList,Region.binds .any e=true→e.on<j)∧ ∀i,i<j→ ∃n,waits ops.toList n j i=true)
  (I:dO (ops.toList.take m) z=true) (hst1:dO (ops.toList.take m) G=true) (hen1:je (ops.toList.take m) sN=true) (Vp:je (ops.toList.take m) ⟨sN.fr,gm sN.bx k old⟩=true)
  (ht:Trace E ops.toList (some (qN z.bx k)) (ops.toList.take m) G sN) (hm:m+1≤ops.size) (h:Inv E B G0 w0 z g a w) (hk: ∀g' a' w',Inv E B G0 w0 sN g' a' w'→wpOps E.P ops Q (List.range' (m+1) (ops.size-(m+1))) a' w'):(Code.region id ops true).wp E.P Q a w:=by
 have hsp:=zu hok;have hlm:(ops.toList.take m).length=m:=by rw[Dv];simp;omega
 have hdst: ∀o∈ops.toList.take m,∃d,o.dst=some d:=by
  intro o ho;obtain⟨i,r⟩:=Du ho;obtain⟨⟨d,hd,_⟩,_⟩:=hsp i o r;exact⟨d,hd⟩
 obtain⟨q,M,hcs,hfin⟩:=uV (ops.toList.take m) G sN hdst ht;subst hfin;have F: ∀(i:Nat) o c,(ops.toList.take m)[i]? =some o→q[i]? =some c→o.dst=some c.d:=fun i o c h1 X=>(hcs i o c h1 X).1
 have hnd:(q.map (·.d)).Nodup:=by
  refine List.pairwise_iff_getElem.2 fun i j r A hij e=>?_
  rw[xC] at r A;have QN:i<(ops.toList.take m).length:=by omega
  have C:j<(ops.toList.take m).length:=by omega
  have h1:=F i _ _ (gP QN) (gP r);have X:=F j _ _ (gP C) (gP A);simp only[aco] at e;refine(hsp i _ (gP QN)).2.1 j _ (gP C) (by omega) ?_;rw[h1,X,e]
 have hfr: ∀c∈q,c.d<z.fr.length:=by
  intro c hc;obtain⟨i,r⟩:=Du hc;have QN:i<(ops.toList.take m).length:=by rw[←M];exact(List.getElem?_eq_some_iff.1 r).1
  obtain⟨⟨d,hd,hlt⟩,_⟩:=hsp i _ (gP QN);have:=F i _ c (gP QN) r;rw[this] at hd;simp only[aI] at hd;rw[hd];exact hlt
 have hsz:ops.toList.length=ops.size:=by simp
 have hpm:m<ops.toList.length:=by omega
 obtain⟨hpd,hpg,hpa,hpr⟩:p.dst=none∧p.guard=none∧(∀e∈p.after.toList,Region.binds .any e=false)∧ ∀t∈qM p,∀o∈ops.toList.take m,o.dst≠some t:=by
  unfold FU at hea;rw[hp] at hea;simp only[bL,ko,acJ,Yb,ne_eq] at hea;obtain⟨⟨⟨q1,q2⟩,q3⟩,q4⟩:=hea;refine⟨?_,?_,q3,q4⟩
  ·cases hq:p.dst with
   |none=>rfl
   |some d=>rw[hq] at q1;cases q1
  ·cases hq:p.guard with
   |none=>rfl
   |some d=>rw[hq] at q2;cases q2
 have hcdk: ∀c∈q,∀x,c.bx=some x→c.d≠k:=by
  intro W hcj x _ e;obtain⟨j,A⟩:=Du hcj;have C:j<(ops.toList.take m).length:=by rw[←M];exact(List.getElem?_eq_some_iff.1 A).1
  have hdj:=F j _ W (gP C) A;unfold dO at I;rw[ko] at I;have h6:=I _ (Hg C);rw[hdj] at h6;simp only[bL] at h6;exact(j3 h6.2 k old hold).1 e.symm
 have hput: ∀sel:Nat→Bool,aR sel q 0 G=⟨(aR sel q 0 z).fr,gm (aR sel q 0 z).bx k (over old off cells)⟩:=fun sel=>by
  rw[hs1];exact yD sel k _ q 0 z hcdk
 have Rm: ∀(sel:Nat→Bool) (l:List nS) (n:Nat) (s:St) (j:Nat) (K:af),(∀c∈l,∀x,c.bx=some x→c.d≠j)→aA s.bx j=some K→aA (aR sel l n s).bx j=some K:=by
  intro sel l;induction l with
  |nil=>intro n s j K _ h;exact h
  |cons c l ih=>
   intro n s j K hne h;unfold aR;refine ih (n+1) _ j K (fun c' hc'=>hne c' (xE _ hc')) ?_;split
   ·unfold nS.app
    cases O:c.bx with
    |none=>exact h
    |some x=>
     unfold aA;have:(c.d==j)=false:=by rw[qD];exact hne c vg x O
     rw[this,gF];exact h
   ·exact h
 have hen00:je (ops.toList.take m) (aR (fun _=>true) q 0 z)=true:=by
  have e:=hput (fun _=>true);rw[e] at Vp;simp only at Vp;rw[CV k _ old _ (Rm _ q 0 z k old hcdk hold)] at Vp;exact Vp
 have hnew: ∀j K,aA z.bx j=some K→ ∀c∈q,∀x,c.bx=some x→c.d≠j:=by
  intro j K hkd W hcj x hx e;obtain⟨i,r⟩:=Du hcj;have C:i<(ops.toList.take m).length:=by rw[←M];exact(List.getElem?_eq_some_iff.1 r).1
  have hdj:=F i _ W (gP C) r;unfold dO at I;rw[ko] at I;have h6:=I _ (Hg C);rw[hdj] at h6;simp only[bL] at h6;exact(j3 h6.2 j K hkd).1 e.symm
 refine wp_region_any hE.mixed ?_;let sel (f:Array Bool):Nat→Bool:=fun i=>f.getD i false
 let base (f:Array Bool):St:=if f.getD m false=true then G else z
 have hbase: ∀f,base f=z∨base f=G:=fun f=>by
  show(if f.getD m false=true then G else z)=z∨_;by_cases e:f.getD m false=true
  ·exact .inr (if_pos e)
  ·exact .inl (if_neg e)
 have hbfr: ∀s',(s'=z∨s'=G)→s'.fr=z.fr:=by
  rintro s' (rfl|rfl)
  ·rfl
  ·rw[hs1]
 have hbst: ∀s',(s'=z∨s'=G)→dO (ops.toList.take m) s'=true∧je (ops.toList.take m) (aR (fun _=>true) q 0 s')=true:=by
  rintro s' (rfl|rfl)
  ·exact⟨I,hen00⟩
  ·exact⟨hst1,hen1⟩
 have hbsub: ∀s',(s'=z∨s'=G)→ ∀(sel:Nat→Bool) j K,aA (qN z.bx k) j=some K→aA (aR sel q 0 s').bx j=some K:=by
  rintro s' O sel j K A;obtain⟨h1,X⟩:=rA k _ j K A;refine Rm sel q 0 s' j K (hnew j K X) ?_;rcases O with rfl|rfl
  ·exact X
  ·rw[hs1];exact(zz k _ _ j h1).trans X
 have hed: ∀(j:Nat) o,ops.toList[j]? =some o→ ∀e∈o.after.toList,Region.binds .any e=true→e.on<j:=by
  intro j o A;by_cases hjm:j<m
  ·exact(hsp j o (o8 A hjm)).2.2.1
  ·by_cases hje:j=m
   ·subst hje
    rw[hp] at A;simp only[aI] at A;subst A;intro e he O;rw[hpa e he] at O
    cases O
   ·exact(hch j o A (by omega)).1
 have key: ∀(fuel:Nat) (f:Array Bool) (g:Gh) (a:Act) (w:World),f.size=ops.size→(f.toList.countP fun b=>!b)≤fuel→(∀i,m+1≤i→f.getD i false=false)→Closed ops.toList (sel f)→Inv E B G0 w0 (aR (sel f) q 0 (base f)) g a w→wpAny E.P .any ops Q fuel f a w:=by
  have full: ∀(fuel:Nat) (f:Array Bool) (g:Gh) (a:Act) (w:World),f.size=ops.size→(f.toList.countP fun b=>!b)≤fuel→(∀i,m+1≤i→f.getD i false=false)→(∀i,i<m+1→f.getD i false=true)→Inv E B G0 w0 (aR (sel f) q 0 (base f)) g a w→wpAny E.P .any ops Q fuel f a w:=by
   intro fuel f g a w T hc U S r;have e1:aR (sel f) q 0 (base f)=aR (fun _=>true) q 0 G:=by
    have e0:base f=G:=if_pos (S m (by omega));rw[e0];exact jb _ _ q 0 G fun i _ r=>S i (by omega)
   rw[e1] at r;refine ID (fun j o ho A=>⟨(hch j o ho A).1,fun i hmi hij=>(hch j o ho A).2 i hij⟩) hed (ops.size-(m+1)) (m+1) fuel f a w (by omega) (iI _) T (fun i r=>?_) ?_ (hk g a w r)
   ·by_cases L:i<m+1
    ·rw[S i L];simp[L]
    ·rw[U i (by omega)];simp[L]
   ·refine Dy ?_ hc
    have h1:(f.toList.drop (m+1)).countP (fun b=>!b)=(f.toList.drop (m+1)).length:=by
     rw[List.countP_eq_length];intro b O;obtain⟨i,r⟩:=Du O;rw[Hy] at r;have X:=U (m+1+i) (by omega);have h3:f[m+1+i]? =some b:=by simpa using r
     rw[pU,h3,qx] at X;rw[X];rfl
    have X:(f.toList.drop (m+1)).countP (fun b=>!b)≤f.toList.countP fun b=>!b:=List.Sublist.countP_le (List.drop_sublist _ _)
    rw[h1,xB,Ai,T] at X;exact X
  intro fuel;induction fuel with
  |zero=>
   intro f g a w T hc U hcl r;refine full 0 f g a w T hc U (fun i L=>?_) r;have Z:i<f.size:=by omega
   cases hq:f.getD i false with
   |true=>rfl
   |false=>
    exfalso;have h0:f[i]=false:=by
     simpa only[pU,qF Z,qx] using hq
    have:0<f.toList.countP fun b=>!b:=List.countP_pos_iff.2 ⟨f[i],by simp,by rw[h0];rfl⟩
    omega
  |succ fuel ih=>
   intro f g a w T hc U hcl r;by_cases Ro: ∀i,i<m+1→f.getD i false=true
   ·exact full (fuel+1) f g a w T hc U Ro r
   have MV: ∀i,i∈Region.ready .any ops f→i<m→ ∃o,ops[i]? =some o∧((Region.wanted o (yielded ops a.tmps)=true∧o.wp E.P a w (wpAny E.P .any ops Q fuel (f.setIfInBounds i true)) Q)∨(Region.wanted o (yielded ops a.tmps)=false∧wpAny E.P .any ops Q fuel (f.setIfInBounds i true) (a.put o.dst undef) w)):=by
    intro i L Vq;have r:=r;obtain⟨h0,o,ho,H⟩:=mem_ready.1 L;have hi':i<ops.size:=(Array.getElem?_eq_some_iff.1 ho).1;have Z:i<f.size:=by omega
    have h0':f[i]=false:=by
     simpa only[pU,qF Z,qx] using h0
    have hsel:sel f i=false:=by
     show f.getD i false=false;simp only[pU,qF Z,qx,h0']
    have Ot:ops.toList[i]? =some o:=by simpa using ho
    have hoI:=o8 Ot Vq;have hiC:i<q.length:=by omega
    have hci:q[i]? =some q[i]:=gP hiC;generalize q[i]=c at hci;obtain⟨hod,si,_,hsi,hstep⟩:=hcs i o c hoI hci;have Ky:=hsp i o hoI;have Y:=hbase f;generalize hbe:base f=sb at r Y;have hfb:=hbfr sb Y;have hf1:=hbfr G (.inr rfl);have hfr1: ∀c∈q,c.d<G.fr.length:=fun c hc=>by rw[hf1];exact hfr c hc
    have hfrb: ∀c∈q,c.d<sb.fr.length:=fun c hc=>by rw[hfb];exact hfr c hc
    have Il: ∀t,(∀(j:Nat) o',(ops.toList.take m)[j]? =some o'→o'.dst=some t→j<i∧ ∃e∈o.after.toList,Region.binds .any e=true∧e.on=j)→slot (aR (sel f) q 0 sb).fr t=slot si.fr t:=by
     intro t htr;rw[hsi];by_cases hex: ∃W∈q,W.d=t
     ·obtain⟨W,hm,rfl⟩:=hex
      obtain⟨j,A⟩:=Du hm;have C:j<(ops.toList.take m).length:=by rw[←M];exact(List.getElem?_eq_some_iff.1 A).1
      have hdj:=F j _ W (gP C) A;obtain⟨hlt,e,he,O,heq⟩:=htr j _ (gP C) hdj;have J:sel f j=true:=by rw[←heq];exact H e (by simpa using he) O
      rw[jK (sel f) j q 0 sb W (D9 _) (by simpa using A) hnd (hfrb W hm),jK (fun k=>decide (k<i)) j q 0 G W (D9 _) (by simpa using A) hnd (hfr1 W hm),if_pos J,if_pos (by simpa using hlt)]
     ·rw[gU _ t q 0 sb fun W hm e=>hex ⟨W,hm,e⟩,gU _ t q 0 G fun W hm e=>hex ⟨W,hm,e⟩,hfb,hf1]
    have YI:Closed (ops.toList.take m) (sel f):=fun j oj D=>hcl j oj (IC D).1
    obtain⟨hnl,hnb⟩:=EQ M F hnd hfrb (hbst sb Y).1 (hbst sb Y).2 YI hci hsel;have hst':=hstep (aR (sel f) q 0 sb) (zw fun j want oj d hg D hd=>Il d fun j' o' hj' hd'=>by
      have:j'=j:=by
       by_cases e:j'=j
       ·exact e
       ·exact absurd (hd'.trans hd.symm) ((hsp j' o' hj').2.1 j oj (o8 D (by have:=(Ky.2.2.2.2 j want hg).1;omega)) e)
      subst this;exact Ky.2.2.2.2 j' want hg) (yC (uU fun t Yf=>Il t (Ky.2.2.2.1 t Yf))) hnl hnb
    have KS:Alike (c.app (aR (sel f) q 0 sb)) (aR (sel (f.setIfInBounds i true)) q 0 sb):=by
     have h1:=uT (sel f) i q 0 sb c (D9 _) (by simpa using hci) hsel hnd;have e1:aR (fun j=>if j=i then true else sel f j) q 0 sb=aR (sel (f.setIfInBounds i true)) q 0 sb:=jb _ _ q 0 sb fun j _ _=>by
      show _=(f.setIfInBounds i true).getD j false;by_cases ej:j=i
      ·subst ej;simp[Z]
      ·rw[if_neg ej,getD_set_ne false (fun h=>ej h.symm)]
     rw[e1] at h1;exact h1
    have YJ:Closed ops.toList (sel (f.setIfInBounds i true)):=by
     intro j oj D J e he O;have J:(f.setIfInBounds i true).getD j false=true:=J;show(f.setIfInBounds i true).getD e.on false=true;by_cases ej:j=i
     ·subst ej
      rw[Ot] at D;simp only[aI] at D;subst D;exact getD_set_true (H e he O)
     ·rw[getD_set_ne false (fun h=>ej h.symm)] at J
      exact getD_set_true (hcl j oj D J e he O)
    have R:(((f.setIfInBounds i true).toList).countP fun b=>!b)≤fuel:=by
     have h5:((f.setIfInBounds i true).toList).countP (fun b=>!b)+1=f.toList.countP fun b=>!b:=by
      rw[Zy];have hil:i<f.toList.length:=by simpa using Z
      have e1:f.toList=f.toList.take i++f.toList[i]::f.toList.drop (i+1):=by
       rw[List.getElem_cons_drop,ack]
      have e2:f.toList.set i true=f.toList.take i++true::f.toList.drop (i+1):=by
       rw[ZX,if_pos hil]
      rw[e2];conv=>rhs;rw[e1]
      have e3:f.toList[i]=false:=by simpa using h0'
      rw[e3];simp only[List.countP_append,Qz];simp;omega
     omega
    have hbl:base (f.setIfInBounds i true)=sb:=by
     show(if(f.setIfInBounds i true).getD m false=true then G else z)=sb;rw[getD_set_ne false (by omega)];exact hbe
    have next: ∀g' a' w',Inv E B G0 w0 (c.app (aR (sel f) q 0 sb)) g' a' w'→wpAny E.P .any ops Q fuel (f.setIfInBounds i true) a' w':=fun g' a' w' hi'=>
     ih (f.setIfInBounds i true) g' a' w' (by simpa using T) R (fun j A=>by rw[getD_set_ne false (by omega)];exact U j A) YJ (by rw[hbl];exact hi'.alike KS)
    refine⟨o,ho,?_⟩;rcases hst' with⟨hw,eff,hor,_,hr⟩|⟨hw,heq⟩
    ·refine .inl ⟨dP r.fr hw,?_⟩
     have N:=hbsub sb Y (sel f);have hdo:=iC (ac:=a) (B:=B) (w:=w) (g:=g) (bx:=qN z.bx k) hE rfl r.gok r.own (r.bxs.sub N) r.hB r.m1 r.fB (fun y=>cr r.fr r.fB y) hor;exact p8 r hdo N (fun h=>by cases h) hr fun g' a' w' h' _=>next g' a' w' h'
    ·refine .inr ⟨dP r.fr hw,?_⟩
     refine next g _ w ?_;rw[heq];exact r.put o.dst (v:=.tup []) (u:=undef) ⟨[],rfl,.nil⟩
   refine⟨fun hr=>?_,fun i L=>?_⟩
   ·exfalso
    apply Ro
    have S: ∀i,i<ops.size→f.getD i true=true:=by
     intro i;induction i using Nat.strongRecOn with
     |_ i ih=>
      intro r
      cases hl:f.getD i true with
      |true=>rfl
      |false=>
       have hm:i∈Region.ready .any ops f:=by
        rw[mem_ready];refine⟨hl,ops[i],by simp[r],fun e he O=>?_⟩;have h1:=hed i ops[i] (by simp[r]) e (by simpa using he) O;have X:=ih e.on h1 (by omega);have Z:e.on<f.size:=by omega
        simp only[pU,qF Z,qx] at X⊢;exact X
       rw[hr] at hm
       cases hm
    intro i L;have h1:=S i (by omega);have Z:i<f.size:=by omega
    simp only[pU,qF Z,qx] at h1⊢;exact h1
   obtain⟨h0,o,ho,H⟩:=mem_ready.1 L;have hi':i<ops.size:=(Array.getElem?_eq_some_iff.1 ho).1;have Z:i<f.size:=by omega
   have h0':f[i]=false:=by
    simpa only[pU,qF Z,qx] using h0
   have hsel:sel f i=false:=by
    show f.getD i false=false;simp only[pU,qF Z,qx,h0']
   have Ot:ops.toList[i]? =some o:=by simpa using ho
   have Vq:i<m+1:=by
    refine Qy fun hmi=>Ro fun i' hi'm=>?_
    obtain⟨_,hw⟩:=hch i o Ot hmi;obtain⟨n0,hwk⟩:=hw i' (by omega)
    cases n0 with
    |zero=>cases hwk
    |succ n=>
     unfold waits at hwk;rw[Ot] at hwk;simp only[Dw,bL,Fx,ig] at hwk;obtain⟨e2,he2,hb2,h6⟩:=hwk;have h7:=H e2 (by simpa using he2) hb2;rcases h6 with h6|h6
     ·rw[←h6];exact h7
     ·exact jl hcl n e2.on i' h6 h7
   by_cases him2:i=m
   ·
    subst him2;have hoP:o=p:=by rw[Ot] at hp;simpa using hp
    subst hoP;unfold wpOp;rw[ho];simp only;have hwt:Region.wanted o (yielded ops a.tmps)=true:=by unfold Region.wanted;rw[hpg]
    rw[if_pos hwt];refine .inl ?_;have Y:base f=z:=if_neg (by
     have:=hsel;show¬f.getD i false=true;rw[show f.getD i false=false from this];decide)
    rw[Y] at r;have hop2:zS E (aR (sel f) q 0 z).fr z.bx o=some (true,.put k off cells):=by
     rw[yC (fr':=z.fr) (uU fun t Yf=>gU _ t q 0 z fun W hm2 e=>?_)]
     ·exact hop
     ·obtain⟨j,A⟩:=Du hm2
      have C:j<(ops.toList.take i).length:=by rw[←M];exact(List.getElem?_eq_some_iff.1 A).1
      have hdj:=F j _ W (gP C) A;exact hpr t Yf _ (Hg C) (by rw[hdj,e])
    have N: ∀j K,aA z.bx j=some K→aA (aR (sel f) q 0 z).bx j=some K:=fun j K A=>Rm _ q 0 z j K (hnew j K A) A
    have hdo:=iC (ac:=a) (B:=B) (w:=w) (g:=g) (bx:=z.bx) hE rfl r.gok r.own (r.bxs.sub N) r.hB r.m1 r.fB (fun y=>cr r.fr r.fB y) hop2;refine p8 (dr:=true) r hdo N (fun h=>by cases h) (s':=St.put ⟨(aR (sel f) q 0 z).fr,gm (aR (sel f) q 0 z).bx k (over old off cells)⟩ o.dst (.tup [])) ⟨old,N k old hold,hbld,rfl⟩ fun g' a' w' h' _=>?_
    rw[hpd] at h';have h':Inv E B G0 w0 ⟨(aR (sel f) q 0 z).fr,gm (aR (sel f) q 0 z).bx k (over old off cells)⟩ g' a' w':=h';rw[←hput] at h';have R:(((f.setIfInBounds i true).toList).countP fun b=>!b)≤fuel:=by
     have h5:((f.setIfInBounds i true).toList).countP (fun b=>!b)+1=f.toList.countP fun b=>!b:=by
      rw[Zy];have hil:i<f.toList.length:=by simpa using Z
      have e1:f.toList=f.toList.take i++f.toList[i]::f.toList.drop (i+1):=by
       rw[List.getElem_cons_drop,ack]
      have e2:f.toList.set i true=f.toList.take i++true::f.toList.drop (i+1):=by
       rw[ZX,if_pos hil]
      rw[e2];conv=>rhs;rw[e1]
      have e3:f.toList[i]=false:=by simpa using h0'
      rw[e3];simp only[List.countP_append,Qz];simp;omega
     omega
    have hbl:base (f.setIfInBounds i true)=G:=by
     show(if(f.setIfInBounds i true).getD i false=true then G else z)=G;rw[if_pos];simp[Z]
    have hse:aR (sel (f.setIfInBounds i true)) q 0 G=aR (sel f) q 0 G:=jb _ _ q 0 G fun j _ A=>by
     show(f.setIfInBounds i true).getD j false=f.getD j false;exact getD_set_ne false (by omega)
    refine ih (f.setIfInBounds i true) g' a' w' (by simpa using T) R (fun j A=>by rw[getD_set_ne false (by omega)];exact U j A) ?_ (by rw[hbl,hse];exact h');intro j oj D J e he O;have J:(f.setIfInBounds i true).getD j false=true:=J;show(f.setIfInBounds i true).getD e.on false=true;by_cases ej:j=i
    ·subst ej
     rw[Ot] at D;simp only[aI] at D;subst D;rw[hpa e (by simpa using he)] at O;cases O
    ·rw[getD_set_ne false (fun h=>ej h.symm)] at J
     exact getD_set_true (hcl j oj D J e he O)
   have Vq:i<m:=by omega
   obtain⟨o2,ho2,YK⟩:=MV i L Vq;unfold wpOp;rw[ho2];simp only;rcases YK with⟨hw,h⟩|⟨hw,h⟩
   ·rw[if_pos hw];exact .inl h
   ·rw[if_neg (by rw[hw];decide)];exact h
 have hb00:base (Array.replicate ops.size false)=z:=if_neg (by simp[Oj];split<;>decide);have hinit:Inv E B G0 w0 (aR (sel (Array.replicate ops.size false)) q 0 (base (Array.replicate ops.size false))) g a {w with drawn:=w.drawn+1}:=by
  rw[hb00];have e1: ∀(l:List nS) (k:Nat),aR (sel (Array.replicate ops.size false)) l k z=z:=by
   intro l;induction l with
   |nil=>intro k;rfl
   |cons c l ih=>
    intro k;unfold aR;have:sel (Array.replicate ops.size false) k=false:=by
     show(Array.replicate ops.size false).getD k false=false;simp[Oj];split<;>rfl
    rw[this,if_neg (by decide)];exact ih (k+1)
  rw[e1];exact h.drew
 refine key ops.size (Array.replicate ops.size false) g a _ (by simp) ?_ (fun i _=>by simp[Oj];split<;>rfl) ?_ hinit
 ·exact Dy abW (by simp)
 ·intro j o A hs
  have hs:(Array.replicate ops.size false).getD j false=true:=hs;simp only[pU,Oj] at hs;exfalso;split at hs<;>cases hs
theorem ET (ops:Array Oper):eP ops.toList≤ops.size:=by
 have c: ∀l:List Oper,jU l≤l.length:=by
  intro l;induction l with
  |nil=>exact iI 0
  |cons o l a=>
   unfold jU
   cases o.dst with
   |none=>exact D9 _
   |some d=>exact Nat.succ_le_succ a
 have b: ∀(l:List Oper) (k:Nat),FR l k≤k:=by
  intro l k;induction k with
  |zero=>exact iI 0
  |succ k a=>
   unfold FR
   cases vG l k with
   |true=>exact Nat.le_succ_of_le a
   |false=>exact iI _
 have:=Dy (b ops.toList (jU ops.toList)) (c ops.toList);exact Dy this (by simp)
def HT (E:Env):List Oper→St→St→Prop
 |[],s,s'=>s'=s
 |o::l,s,s'=>∃v,zS E s.fr s.bx o=some (true,.val v)∧HT E l (s.put o.dst v) s'
theorem Nh {α:Type} {E:Env}: ∀(l:List Oper) (s:St) (K:St→Option α) (r:α),evH E l s K=some r→ ∃s',HT E l s s'∧K s'=some r
 |[],s,K,r,h=>⟨s,rfl,h⟩
 |o::l,s,K,r,h=>by
  unfold evH at h;split at h
  ·rename_i c v a
   rcases jB h with⟨rfl,h⟩|⟨_,h⟩
   ·obtain⟨s',d,b⟩:=Nh l _ K r h
    exact⟨s',⟨v,a,d⟩,b⟩
   ·cases h
  ·cases h
theorem GN {P:Program} {ops:Array Oper} {L:List Nat} {l:Nat} (h:rP P ops L l=true): ∃o,ops[l]? =some o∧vJ P o=true∧(∀e∈o.after,Region.binds .any e=true→e.on∈L)∧
  ∀(j:Nat) f,ops[j]? =some f→j≠l→(∀e∈o.after,Region.binds .any e=true→e.on≠j)→(∀e∈f.after,Region.binds .any e=true→e.on≠l)→o.apart ops f=true:=by
 unfold rP at h
 cases m:ops[l]? with
 |none=>rw[m] at h;cases h
 |some o=>
  rw[m] at h;simp only[bL] at h;obtain⟨⟨q,n⟩,h3⟩:=h;rw[ko] at n h3;refine⟨o,rfl,q,fun e d c=>?_,fun j f p k g i=>?_⟩
  ·have:=n e.on (by unfold fF;exact List.mem_map.2 ⟨e,List.mem_filter.2 ⟨by simpa using d,c⟩,rfl⟩)
   simpa using this
  ·have a:=h3 j (List.mem_range.2 (Array.getElem?_eq_some_iff.1 p).1)
   rw[p] at a;simp only[Fx,ig,k,false_or,ZB] at a;rcases a with(a|a)|a
   ·obtain⟨e,d,c,b⟩:=gV a
    exact absurd b (g e (by simpa using d) c)
   ·obtain⟨e,d,c,b⟩:=gV a
    exact absurd b (i e (by simpa using d) c)
   ·exact a
def p9 (P:Program) (ops:Array Oper):List Nat→List Nat→Prop
 |_,[]=>True
 |L,l::r=>l∉L∧rP P ops L l=true∧p9 P ops (L++[l]) r
theorem zB {P:Program} {ops:Array Oper}: ∀(r L:List Nat) (l:Nat),p9 P ops L r→l∉L++r→rP P ops (L++r) l=true→p9 P ops L (r++[l])
 |[],L,l,_,b,a=>by
  rw[On] at b a;exact⟨b,a,trivial⟩
 |x::r,L,l,h,b,a=>by
  refine⟨h.1,h.2.1,zB r (L++[x]) l h.2.2 ?_ ?_⟩
  ·rw[Kj];exact b
  ·rw[Kj];exact a
theorem ou {P:Program} {ops:Array Oper}: ∀(r L:List Nat),p9 P ops [] L→(L++r).Nodup→p9 P ops [] (mP P ops r L)∧(mP P ops r L).Nodup∧ ∀x∈mP P ops r L,x∈L++r
 |[],L,h,b=>⟨h,by simpa[mP] using b,fun x hx=>by simpa[mP] using hx⟩
 |l::r,L,h,b=>by
  have a:(L++[l]++r).Nodup:=by simpa using b
  unfold mP
  cases i:rP P ops L l with
  |true=>
   rw[iy];have hl:l∉L:=by
    rw[List.nodup_append] at b;intro g;exact b.2.2 l g l vg rfl
   obtain⟨d,f,e⟩:=ou r (L++[l]) (zB L [] l h (by simpa using hl) (by simpa using i)) a;exact⟨d,f,fun x hx=>by simpa using e x hx⟩
  |false=>
   rw[gF];have c:(L++r).Nodup:=by
    rw[Kj] at a;exact List.Sublist.nodup (List.Sublist.append_left (List.sublist_append_right [l] r) L) a
   obtain⟨d,f,e⟩:=ou r L h c;refine⟨d,f,fun x hx=>?_⟩;have:=e x hx;simp only[X6,ZK] at this⊢;rcases this with h|h
   ·exact .inl h
   ·exact .inr (.inr h)
theorem yE (hE:qy E) {ops:Array Oper} {Q:Exit→Act→World→Prop} (G:Region.noSelect ops=true) (hQ: ∀c a d v w,Q (.panic c) (a.put d v) w→Q (.panic c) a w) {g:Gh} {w w2:World} {s':St} {n:Nat}: ∀(r L:List Nat) (s:St) (a:Act) (b:Array Bool),p9 E.P ops L r→b.size=ops.size→
  (∀i,b.getD i false=true↔i∈L)→(∀l∈L,l<ops.size)→HT E (r.map fun i=>ops.getD i default) s s'→Inv E B G0 w0 s g a w→
  (∀(f:Array Bool) I,f.size=ops.size→(∀i,f.getD i false=true↔i∈L++r)→Inv E B G0 w0 s' g I w→wpAny E.P .any ops Q n f I w2)→wpAny E.P .any ops Q (n+r.length) b a w2
 |[],L,s,a,b,hh,p,hl,F,t,h,Y=>by
  have e:s'=s:=t;subst e;exact Y b a p (fun i=>by rw[hl,On]) h
 |l::r,L,s,a,b,hh,p,hl,F,t,h,Y=>by
  obtain⟨h1,h2,h3⟩:=hh;obtain⟨o,J,m,D,R⟩:=GN h2;rw[Aj,pK J] at t;obtain⟨v,hv,t⟩:=t;have K:=iC (ac:=a) (B:=B) (w:=w) (g:=g) (bx:=s.bx) hE rfl h.gok h.own h.bxs h.hB h.m1 h.fB (fun y=>cr h.fr h.fB y) hv;obtain⟨u,C,H⟩:=K;have X:=JG m (fun x hx=>VH hx (fun y=>cr h.fr h.fB y) hv) C;have W:o.guard=none:=by
   unfold vJ at m;rw[bL,bL] at m;have:=m.1.2
   cases W:o.guard with
   |none=>rfl
   |some _=>rw[W] at this;cases this
  have U:l<ops.size:=(Array.getElem?_eq_some_iff.1 J).1;have A:l<b.size:=by omega
  have hun:b.getD l true=false:=by
   have: ¬b.getD l false=true:=fun q=>h1 ((hl l).1 q)
   simp only[pU,qF A,qx] at this⊢;simpa using this
  have hr:l∈Region.ready .any ops b:=mem_ready.2 ⟨hun,o,J,fun e S M=>(hl _).2 (D e S M)⟩;have z:n+(l::r).length=(n+r.length)+1:=rfl;rw[z];refine wpAny_first J (Region.noSelect_spec G) (fun c a w=>hQ c a o.dst u w) (n+r.length) b a w2 (fun j oj hj O k T=>?_) hr (.inl ⟨by unfold Region.wanted;rw[W],X⟩) ?_
  ·refine R j oj hj O (fun e S M N=>?_) T
   have Z:=(hl e.on).2 (D e S M);rw[N] at Z;have V:j<b.size:=by have:=(Array.getElem?_eq_some_iff.1 hj).1;omega
   simp only[pU,qF V,qx] at Z k;rw[Z] at k;cases k
  ·refine yE hE G hQ r (L++[l]) (s.put o.dst v) _ _ h3 (by simpa using p) (fun i=>?_) (fun x hx=>?_) t (h.put o.dst H) (fun f I q1 q2 q3=>Y f I q1 (fun i=>by rw[q2];simp) q3)
   ·by_cases e:l=i
    ·subst e
     simp[A]
    ·rw[getD_set_ne false e,hl]
     simp[e];exact fun q=>absurd q.symm e
   ·simp only[X6,UK] at hx
    rcases hx with hx|rfl
    ·exact F x hx
    ·exact U
def qH:Ex→Exit
 | .norm=> .normal
 | .exit id=> .exit id
 | .ret=> .ret
 | .ku v=> .panic [{v:=(bQ v).getD undef,recovered:=false}]
def Rp (E:Env) (c:Code) (s:St) (e:Ex) (s':St):Prop:=∀(B:Own) (G0:aJ) (w0:World) (g:Gh) (a:Act) (w:World),Inv E B G0 w0 s g a w→ ∀Q:Exit→Act→World→Prop,(∀g' b w',Inv E B G0 w0 s' g' b w'→Q (qH e) b w')→c.wp E.P Q a w
theorem EU (hE:qy E) {α:Type} {call:Caller α} (V:gz E call) {id:Nat} {ops:Array Oper} {s:St} {K:Ex→St→Option α} {FB:St→Option α} {r:α} (h:Ri E call ops s K FB=some r):
  (∃e s',K e s'=some r∧Rp E (.region id ops true) s e s')∨(Region.noSelect ops=true∧Eg ops (fA ops (cZ E.P ops))=true∧ ∃s1,HT E ((cZ E.P ops).map fun i=>ops.getD i default) s s1∧FB s1=some r):=by
 unfold Ri at h;have hm:eP ops.toList≤ops.size:=ET ops;generalize eP ops.toList=m at h hm
 cases N:(BF s (ops.toList.take m)&&(lG s.fr.length (ops.toList.take m)&&kD ops.toList m&&dO (ops.toList.take m) s)) with
 |false=>
  rw[N,gF] at h;rcases acK (BF s (ops.toList.take m)&&(lG s.fr.length (ops.toList.take m)&&uK ops m&&dO (ops.toList.take m) s)) with T|T
  ·rw[T,iy] at h
   have C:=(Bool.and_eq_true_iff.1 T).2;have h2:=h;rw[bL,bL] at C;rcases dB V (ops.toList.take m) s _ r h2 with⟨s',R,hs⟩|⟨X,_⟩
   rotate_left
   ·cases X
   obtain⟨h3,h4⟩:=aC hs;have hl:(ops.toList.drop m).length=ops.size-m:=by simp
   obtain⟨U,hcl⟩:=by have:=C.1.2;unfold uK at this;rw[bL] at this;exact this
   rcases dB V (ops.toList.drop m) s' _ r h4 with⟨t,y,b⟩|⟨_,v,t,y,b⟩
   ·refine .inl ⟨.norm,t,b,fun B G0 w0 g a w F Q M=>?_⟩
    refine Code.wp_mono (Q:=fun e a w=>match e with| .normal=>Q .normal a w|_=>False) (fun e a w q=>by cases e<;>first|exact q|exact q.elim) ?_;refine Ce hE C.1.1 (late:=Ig ops m) (JH hcl) (fun l hl=>?_) C.2 h3 R hm F fun g' H w' z=>?_
    ·unfold Ig at hl
     rw[bL] at hl;exact⟨iJ hl.1,hl.2,U,fun c a d v w q=>q.elim⟩
    ·have:=lm hE (Q:=fun e a w=>match e with| .normal=>Q .normal a w|_=>False) (ops.toList.drop m) m s' t g' H w' rfl y z M
     rw[hl] at this;exact this
   ·cases b
  rw[T,gF] at h;rcases acK (FU ops.toList (jU ops.toList)&&lG s.fr.length (ops.toList.take (jU ops.toList))&&kD ops.toList (jU ops.toList+1)) with S|S
  ·rw[S,iy] at h
   have C:=S;rw[bL,bL] at C;generalize jU ops.toList=m2 at h C;split at h
   ·rename_i p hp
    split at h
    ·rename_i c k off cs hop
     rcases jB h with⟨rfl,h⟩|⟨_,h⟩
     ·split at h
      ·rename_i old J
       obtain⟨W,h⟩:=aC h;rw[bL,bL] at W;rcases dB V (ops.toList.take m2) _ _ r h with⟨s',R,hs⟩|⟨X,_⟩
       rotate_left
       ·cases X
       obtain⟨h3,h4⟩:=aC hs;rw[bL] at h3;have hl:(ops.toList.drop (m2+1)).length=ops.size-(m2+1):=by simp
       have O:m2+1≤ops.size:=by
        have:=(List.getElem?_eq_some_iff.1 hp).1;rw[Ai] at this;omega
       have hbl:iQ (over old off cs)=true→iQ old=true:=fun hq=>by
        have:=W.1.1;rw[hq] at this;exact this
       have D: ∀(j:Nat) o,ops.toList[j]? =some o→m2+1≤j→(∀e∈o.after.toList,Region.binds .any e=true→e.on<j)∧ ∀i,i<j→ ∃n,waits ops.toList n j i=true:=fun j o ho hj=>nu C.2 j o ho hj
       rcases dB V (ops.toList.drop (m2+1)) s' _ r h4 with⟨t,y,b⟩|⟨_,v,t,y,b⟩
       ·refine .inl ⟨.norm,t,b,fun B G0 w0 g a w F Q M=>zA hE C.1.2 hp C.1.1 hop J hbl rfl D W.1.2 W.2 h3.1 h3.2 R O F fun g' H w' z=>?_⟩
        have:=lm hE (Q:=Q) (ops.toList.drop (m2+1)) (m2+1) s' t g' H w' rfl y z M;rw[hl] at this;exact this
       ·refine .inl ⟨.ku v,t,b,fun B G0 w0 g a w F Q M=>zA hE C.1.2 hp C.1.1 hop J hbl rfl D W.1.2 W.2 h3.1 h3.2 R O F fun g' H w' z=>?_⟩
        have:=pJ hE (Q:=Q) (ops.toList.drop (m2+1)) (m2+1) s' t g' H w' rfl y z (fun g2 a2 w2 u Z hu=>by
         have:=M g2 a2 w2 Z;simp only[qH,hu,qx] at this;exact this)
        rw[hl] at this;exact this
      ·cases h
     ·cases h
    ·cases h
   ·cases h
  rw[S,gF] at h;obtain⟨C,h⟩:=aC h;rw[bL] at C;obtain⟨U,G⟩:=C;obtain⟨s1,hht,h⟩:=Nh _ s _ r h
  cases f:KL s1.fr.length (bV ops (fA ops (cZ E.P ops))).toList s1 with
  |false=>rw[f,gF] at h;exact .inr ⟨U,G,s1,hht,h⟩
  |true=>
  rw[f,iy] at h;have hg:=ou (P:=E.P) (ops:=ops) (List.range ops.size) [] trivial (by simpa using ZF);have hHL:mP E.P ops (List.range ops.size) []=cZ E.P ops:=rfl;rw[hHL] at hg;generalize cZ E.P ops=L at h hht f G hg;obtain⟨hg1,hg2,hg3⟩:=hg;have hLlt: ∀l∈L,l<ops.size:=fun l hl=>by simpa using hg3 l hl
  have hp1:(fA ops L).Nodup:=List.Sublist.nodup Z6 ZF;have I: ∀i,i∈fA ops L↔i<ops.size∧i∉L:=fun i=>by unfold fA;rw[Xk,ZI];simp
  have hlenL:(fA ops L).length+L.length=ops.size:=by
   have hfl:(List.range ops.size).length=(fA ops L).length+((List.range ops.size).filter fun i=>L.contains i).length:=by
    unfold fA;have: ∀l:List Nat,l.length=(l.filter fun i=>!L.contains i).length+(l.filter fun i=>L.contains i).length:=by
     intro l;induction l with
     |nil=>rfl
     |cons x l ih=>
      rw[ZE,ZE,fQ]
      cases L.contains x with
      |true=>simp only[acO,Qx,HV,if_true,fQ];omega
      |false=>simp only[acY,Qx,HV,if_true,fQ];omega
    exact this _
   have hperm:((List.range ops.size).filter fun i=>L.contains i).length=L.length:=by
    refine List.Perm.length_eq ?_;refine(List.perm_ext_iff_of_nodup (List.Sublist.nodup Z6 ZF) hg2).2 fun x=>?_
    rw[Xk,ZI];simp only[ZB];exact⟨fun q=>q.2,fun q=>⟨hLlt x q,q⟩⟩
   rw[Z7] at hfl;omega
  generalize fA ops L=p at h f G hp1 I hlenL;have hss:(bV ops p).size=p.length:=Cc p;unfold KL at f;have O:eP (bV ops p).toList≤(bV ops p).size:=ET _;generalize eP (bV ops p).toList=m2 at h f O;rw[bL,bL,bL] at f;replace f:=And.intro (And.intro f.1.1.2 f.1.2) f.2
  have D: ∀(j:Nat) o,(bV ops p).toList[j]? =some o→m2≤j→(∀e∈o.after.toList,Region.binds .any e=true→e.on<j)∧ ∀i,i<j→(∃n,waits (bV ops p).toList n j i=true)∨(fun _:Nat=>false) i=true:=fun j o ho hj=>⟨(nu f.1.2 j o ho hj).1,fun i F=> .inl ((nu f.1.2 j o ho hj).2 i F)⟩
  rcases dB V ((bV ops p).toList.take m2) s1 _ r h with⟨s2,R,hs⟩|⟨X,_⟩
  rotate_left
  ·cases X
  obtain⟨h3,h4⟩:=aC hs;have hl:((bV ops p).toList.drop m2).length=(bV ops p).size-m2:=by simp
  rcases dB V ((bV ops p).toList.drop m2) s2 _ r h4 with⟨s3,y,b⟩|⟨_,v,s3,y,b⟩
  ·refine .inl ⟨.norm,s3,b,fun B G0 w0 g a w F Q M=>?_⟩
   refine Code.wp_mono (Q:=fun e a w=>match e with| .normal=>Q .normal a w|_=>False) (fun e a w q=>by cases e<;>first|exact q|exact q.elim) ?_;refine wp_region_any hE.mixed ?_;have hfu:ops.size=p.length+L.length:=by omega
   have hz:wpAny E.P .any ops (fun e a w=>match e with| .normal=>Q .normal a w|_=>False) (p.length+L.length) (Array.replicate ops.size false) a {w with drawn:=w.drawn+1}:=by
    refine yE hE U (fun c a d v w q=>q.elim) (n:=p.length) (w:=w) L [] s a _ hg1 (by simp) (fun i=>?_) (fun l hl=>nomatch hl) hht F fun A H q1 q2 q3=>?_
    ·simp only[pU,Oj,acQ,iff_false]
     split<;>simp
    ·refine Ng hp1 (fun i F=>((I i).1 F).1) G p.length A (Array.replicate p.length false) H _ q1 (by simp) (fun i F hip=>?_) (fun k Y d=>?_) ?_
     ·refine(q2 i).2 ?_
      rw[Oo];exact Classical.byContradiction fun hn=>hip ((I i).2 ⟨F,hn⟩)
     ·have W:p[k]<A.size:=by rw[q1];exact((I _).1 (Hg Y)).1
      have h6: ¬A.getD p[k] false=true:=by rw[q2,Oo];exact((I _).1 (Hg Y)).2
      simp only[pU,qF W,qx,Oj,Y,if_true] at h6⊢;simpa using h6
     ·have hq:=ES hE (Q:=fun e a w=>match e with| .normal=>Q .normal a w|_=>False) f.1.1 (late:=fun _=>false) D (fun l hl=>by cases hl) f.2 h3 R O q3 fun g' H w' z=>by
       have:=lm hE (Q:=fun e a w=>match e with| .normal=>Q .normal a w|_=>False) ((bV ops p).toList.drop m2) m2 s2 s3 g' H w' rfl y z M;rw[hl] at this;exact this
      rw[hss] at hq;exact hq
   rw[←hfu] at hz;exact hz
  ·cases b
 |true=>
 rw[N,iy] at h;have C:=(Bool.and_eq_true_iff.1 N).2;have h2:=h;rw[bL,bL] at C;have D: ∀(j:Nat) o,ops.toList[j]? =some o→m≤j→(∀e∈o.after.toList,Region.binds .any e=true→e.on<j)∧ ∀i,i<j→(∃n,waits ops.toList n j i=true)∨(fun _:Nat=>false) i=true:=fun j o ho hj=>⟨(nu C.1.2 j o ho hj).1,fun i F=> .inl ((nu C.1.2 j o ho hj).2 i F)⟩
 rcases dB V (ops.toList.take m) s _ r h2 with⟨s',R,hs⟩|⟨X,_⟩
 rotate_left
 ·cases X
 obtain⟨h3,h4⟩:=aC hs;have hl:(ops.toList.drop m).length=ops.size-m:=by simp
 rcases dB V (ops.toList.drop m) s' _ r h4 with⟨t,y,b⟩|⟨_,v,t,y,b⟩
 ·refine .inl ⟨.norm,t,b,fun B G0 w0 g a w F Q M=>Ce hE C.1.1 (late:=fun _=>false) D (fun l hl=>by cases hl) C.2 h3 R hm F fun g' H w' z=>?_⟩
  have:=lm hE (Q:=Q) (ops.toList.drop m) m s' t g' H w' rfl y z M;rw[hl] at this;exact this
 ·refine .inl ⟨.ku v,t,b,fun B G0 w0 g a w F Q M=>Ce hE C.1.1 (late:=fun _=>false) D (fun l hl=>by cases hl) C.2 h3 R hm F fun g' H w' z=>?_⟩
  have:=pJ hE (Q:=Q) (ops.toList.drop m) m s' t g' H w' rfl y z (fun g2 a2 w2 u Z hu=>by
   have:=M g2 a2 w2 Z;simp only[qH,hu,qx] at this;exact this)
  rw[hl] at this;exact this
theorem fJ (hE:qy E) {α:Type} {call:Caller α} (z:gz E call) (tot:Rd) (C:tot.ord=false) (fuel:Nat): ∀(c:Code) (s:St) (K:Ex→St→Option α) (r:α),ev E call tot fuel c s K=some r→ ∃e s',K e s'=some r∧Rp E c s e s'
 | .skip,s,K,r,h=>⟨.norm,s,h,fun B G0 w0 g a w f Q j=>wp_skip (j g a w f)⟩
 | .region id ops false,s,K,r,h=>by
  unfold ev at h;rcases dB z ops.toList (QZ E.P ops.toList s) _ r h with⟨s',G,L⟩|⟨_,v,s',G,L⟩
  ·refine⟨.norm,s',L,fun B G0 w0 g0 a w p Q j=>?_⟩
   obtain⟨g,f⟩:=wm p E.P ops.toList;have:=lm hE (Q:=Q) ops.toList 0 _ s' g a w (by simp) G f j;refine wp_region ?_;rw[acr];simpa using this
  ·refine⟨.ku v,s',L,fun B G0 w0 g0 a w p Q j=>?_⟩
   obtain⟨g,f⟩:=wm p E.P ops.toList;have:=pJ hE (Q:=Q) ops.toList 0 _ s' g a w (by simp) G f (fun g' k w' u d O=>by
    have:=j g' k w' d;simp only[qH,O,qx] at this;exact this)
   refine wp_region ?_;rw[acr];simpa using this
 | .region id ops true,s,K,r,h=>by
  unfold ev at h;rcases EU (id:=id) hE z h with⟨e,s',S,N⟩|⟨_,_,_,_,h⟩
  ·refine⟨e,s',S,fun B G0 w0 g0 a w p Q j=>?_⟩
   obtain⟨g,f⟩:=wm p E.P ops.toList;exact N B G0 w0 g a w f Q j
  ·rw[C] at h;cases h
 | .seq x y,s,K,r,h=>by
  unfold ev at h;obtain⟨e,o,m,hl⟩:=fJ hE z tot C fuel x s _ r h
  cases e with
  |norm=>
   obtain⟨H,I,F,A⟩:=fJ hE z tot C fuel y o K r m;exact⟨H,I,F,fun B G0 w0 g a w f Q j=>wp_seq (hl B G0 w0 g a w f _ fun g' k w' d=>A B G0 w0 g' k w' d Q j)⟩
  |exit id=>exact⟨.exit id,o,m,fun B G0 w0 g a w f Q j=>wp_seq (hl B G0 w0 g a w f _ fun g' k w' d=>j g' k w' d)⟩
  |ret=>exact⟨.ret,o,m,fun B G0 w0 g a w f Q j=>wp_seq (hl B G0 w0 g a w f _ fun g' k w' d=>j g' k w' d)⟩
  |ku v=>exact⟨.ku v,o,m,fun B G0 w0 g a w f Q j=>wp_seq (hl B G0 w0 g a w f _ fun g' k w' d=>j g' k w' d)⟩
 | .cond c x y,s,K,r,h=>by
  unfold ev at h;split at h
  ·rename_i t G
   have M: ∀{B G0 w0 g a w},Inv E B G0 w0 s g a w→a.eval c=.bool t:=fun {B G0 w0 g a w} f=>by
    have:=cr f.fr f.fB c;rw[G,bG] at this;exact this
   rcases jB h with⟨rfl,h⟩|⟨rfl,h⟩
   ·obtain⟨e,o,m,hl⟩:=fJ hE z tot C fuel x s K r h
    exact⟨e,o,m,fun B G0 w0 g a w f Q j=>wp_cond (M f) (hl B G0 w0 g a w f Q j)⟩
   ·obtain⟨e,o,m,hl⟩:=fJ hE z tot C fuel y s K r h
    exact⟨e,o,m,fun B G0 w0 g a w f Q j=>wp_cond (M f) (hl B G0 w0 g a w f Q j)⟩
  ·cases h
 | .block id b,s,K,r,h=>by
  unfold ev at h;obtain⟨e,o,m,hl⟩:=fJ hE z tot C fuel b s _ r h
  cases e with
  |norm=>exact⟨.norm,o,m,fun B G0 w0 g a w f Q j=>wp_block (hl B G0 w0 g a w f _ fun g' k w' d=>j g' k w' d)⟩
  |ret=>exact⟨.ret,o,m,fun B G0 w0 g a w f Q j=>wp_block (hl B G0 w0 g a w f _ fun g' k w' d=>j g' k w' d)⟩
  |ku v=>exact⟨.ku v,o,m,fun B G0 w0 g a w f Q j=>wp_block (hl B G0 w0 g a w f _ fun g' k w' d=>j g' k w' d)⟩
  |exit i=>
   have m:(bif i==id then K .norm o else K (.exit i) o)=some r:=m;by_cases q:i=id
   ·have:(i==id)=true:=by simpa using q
    rw[this] at m;refine⟨.norm,o,m,fun B G0 w0 g a w f Q j=>wp_block (hl B G0 w0 g a w f _ fun g' k w' d=>?_)⟩;show(if i=id then Q .normal k w' else Q (.exit i) k w');rw[if_pos q];exact j g' k w' d
   ·have:(i==id)=false:=by simpa using q
    rw[this] at m;refine⟨.exit i,o,m,fun B G0 w0 g a w f Q j=>wp_block (hl B G0 w0 g a w f _ fun g' k w' d=>?_)⟩;show(if i=id then Q .normal k w' else Q (.exit i) k w');rw[if_neg q];exact j g' k w' d
 | .loop b,s,K,r,h=>by
  unfold ev at h;generalize xP tot.tot tot.Xo s.fr.length b=mask at h;have J: ∀(n:Nat) (s:St),yX b (fun s K=>ev E call tot fuel b s K) mask K n s=some r→ ∃e s',K e s'=some r∧ ∀(B:Own) (G0:aJ) (w0:World) (g:Gh) (a:Act) (w:World),Inv E B G0 w0 s g a w→ ∀Q:Exit→Act→World→Prop,(∀g' k w',Inv E B G0 w0 s' g' k w'→Q (qH e) k w')→Code.rounds E.P b Q n a w:=by
   intro n;induction n with
   |zero=>intro s h;cases h
   |succ n R=>
    intro s h;unfold yX at h;simp only[Rl] at h;obtain⟨e,o,m,hl⟩:=fJ hE z tot C fuel b _ _ r h
    cases e with
    |norm=>
     obtain⟨H,I,F,A⟩:=R _ m;refine⟨H,I,F,fun B G0 w0 g a w f Q j=>?_⟩;rw[rounds_succ];refine hl B G0 w0 g a w f _ fun g' k w' d=>?_
     obtain⟨g1,D⟩:=d.head mask;exact A B G0 w0 g1 k w' D Q j
    |exit id=>
     refine⟨.exit id,o,m,fun B G0 w0 g a w f Q j=>?_⟩;rw[rounds_succ];exact hl B G0 w0 g a w f _ fun g' k w' d=>j g' k w' d
    |ret=>
     refine⟨.ret,o,m,fun B G0 w0 g a w f Q j=>?_⟩;rw[rounds_succ];exact hl B G0 w0 g a w f _ fun g' k w' d=>j g' k w' d
    |ku v=>
     refine⟨.ku v,o,m,fun B G0 w0 g a w f Q j=>?_⟩;rw[rounds_succ];exact hl B G0 w0 g a w f _ fun g' k w' d=>j g' k w' d
  obtain⟨e,s',m,hl⟩:=J fuel _ h;refine⟨e,s',m,fun B G0 w0 g a w f Q j=>wp_loop_rounds fuel ?_⟩;obtain⟨g1,D⟩:=f.head mask;exact hl B G0 w0 g1 a w D Q j
 | .exit id,s,K,r,h=>⟨.exit id,s,h,fun B G0 w0 g a w f Q j=>wp_exit (j g a w f)⟩
 | .label l,s,K,r,h=>⟨.norm,s,h,fun B G0 w0 g a w f Q j=>wp_label (j g a w f)⟩
 | .ret,s,K,r,h=>⟨.ret,s,h,fun B G0 w0 g a w f Q j=>wp_ret (j g a w f)⟩
 | .rangeFunc ..,s,K,r,h=>by unfold ev at h;cases h
 | .scope _,s,K,r,h=>by unfold ev at h;cases h
 | .goto _,s,K,r,h=>by unfold ev at h;cases h
 | .refuse _,s,K,r,h=>by unfold ev at h;cases h
theorem JI (P:Program) (ops:Array Oper):p9 P ops [] (cZ P ops)∧(∀l∈cZ P ops,l<ops.size)∧(fA ops (cZ P ops)).Nodup∧(∀i,i∈fA ops (cZ P ops)↔i<ops.size∧i∉cZ P ops)∧(fA ops (cZ P ops)).length+(cZ P ops).length=ops.size:=by
 have c:=ou (P:=P) (ops:=ops) (List.range ops.size) [] trivial (by simpa using ZF);have d:mP P ops (List.range ops.size) []=cZ P ops:=rfl;rw[d] at c;generalize cZ P ops=L at c⊢;obtain⟨g,h,f⟩:=c;have a: ∀l∈L,l<ops.size:=fun l hl=>by simpa using f l hl
 refine⟨g,a,List.Sublist.nodup Z6 ZF,fun i=>by unfold fA;rw[Xk,ZI];simp,?_⟩;have b:(List.range ops.size).length=(fA ops L).length+((List.range ops.size).filter fun i=>L.contains i).length:=by
  unfold fA;have: ∀l:List Nat,l.length=(l.filter fun i=>!L.contains i).length+(l.filter fun i=>L.contains i).length:=by
   intro l;induction l with
   |nil=>rfl
   |cons x l j=>
    rw[ZE,ZE,fQ]
    cases L.contains x with
    |true=>simp only[acO,Qx,HV,if_true,fQ];omega
    |false=>simp only[acY,Qx,HV,if_true,fQ];omega
  exact this _
 have e:((List.range ops.size).filter fun i=>L.contains i).length=L.length:=by
  refine List.Perm.length_eq ?_;refine(List.perm_ext_iff_of_nodup (List.Sublist.nodup Z6 ZF) h).2 fun x=>?_
  rw[Xk,ZI];simp only[ZB];exact⟨fun q=>q.2,fun q=>⟨a x q,q⟩⟩
 rw[Z7] at b;omega
theorem Pb (hE:qy E) {ops:Array Oper} {Q:Exit→Act→World→Prop} (u:Region.noSelect ops=true) (j:Eg ops (fA ops (cZ E.P ops))=true) (J: ∀c a d v w,Q (.panic c) (a.put d v) w→Q (.panic c) a w) {g:Gh} {a:Act} {w x:World} {s G:St}
  (q:HT E ((cZ E.P ops).map fun i=>ops.getD i default) s G) (m:Inv E B G0 w0 s g a w)
  (A: ∀h,Inv E B G0 w0 G g h w→wpAny E.P .any (bV ops (fA ops (cZ E.P ops))) Q (bV ops (fA ops (cZ E.P ops))).size (Array.replicate (bV ops (fA ops (cZ E.P ops))).size false) h x):
  wpAny E.P .any ops Q ops.size (Array.replicate ops.size false) a x:=by
 obtain⟨t,z,o,e,D⟩:=JI E.P ops;rw[Cc] at A;generalize cZ E.P ops=L at*;generalize fA ops L=p at*;have y:ops.size=p.length+L.length:=by omega
 have F:wpAny E.P .any ops Q (p.length+L.length) (Array.replicate ops.size false) a x:=by
  refine yE hE u J (n:=p.length) (w:=w) L [] s a _ t (by simp) (fun i=>?_) (fun l hl=>nomatch hl) q m fun b h C I M=>?_
  ·simp only[pU,Oj,acQ,iff_false]
   split<;>simp
  ·refine Ng o (fun i m=>((e i).1 m).1) j p.length b (Array.replicate p.length false) h _ C (by simp) (fun i m r=>?_) (fun k f d=>?_) (A h M)
   ·refine(I i).2 ?_
    rw[Oo];exact Classical.byContradiction fun N=>r ((e i).2 ⟨m,N⟩)
   ·have K:p[k]<b.size:=by rw[C];exact((e _).1 (Hg f)).1
    have H: ¬b.getD p[k] false=true:=by rw[I,Oo];exact((e _).1 (Hg f)).2
    simp only[pU,qF K,qx,Oj,f,if_true] at H⊢;simpa using H
 rw[←y] at F;exact F
theorem Pf {α:Type} {a b:Option α} {r:α} (h:both a b=some r):a=some r∧b=some r:=by
 unfold both at h;by_cases e:a=b
 ·rw[if_pos e] at h
  exact⟨h,e▸h⟩
 ·rw[if_neg e] at h;cases h
theorem kI {α:Type} (a:Option α):both a a=a:=by unfold both;rw[if_pos rfl]
theorem su {α:Type} {f:Nat→Option α} {r:α}: ∀{l:List Nat},Q5 f l=some r→ ∀i∈l,f i=some r
 |[],h,i,a=>nomatch a
 |[x],h,i,a=>by
  rcases List.mem_singleton.1 a with rfl;exact h
 |x::y::l,h,i,a=>by
  have h:both (f x) (Q5 f (y::l))=some r:=h;obtain⟨c,b⟩:=Pf h;rcases List.mem_cons.1 a with rfl|a
  ·exact c
  ·exact su b i a
theorem Ni {ops:Array Oper} {a:Array Bool} {L:List Nat} (n:a.size=ops.size) (hl: ∀i,a.getD i false=true↔i∈L) (i:Nat):i∈Region.ready .any ops a↔i∈FV ops.toList L:=by
 unfold FV;rw[mem_ready,Xk,ZI,Ai];constructor
 ·rintro⟨m,o,d,l⟩
  have b:i<ops.size:=(Array.getElem?_eq_some_iff.1 d).1;have k:i<a.size:=by omega
  refine⟨b,?_⟩;have g:i∉L:=fun q=>by
   have:=(hl i).2 q;simp only[pU,qF k,qx] at m this;rw[m] at this;cases this
  have c:ops.toList[i]? =some o:=by simpa using d
  rw[c,bL];refine⟨by simpa using g,?_⟩;simp only[ko,ZB];intro x hx;obtain⟨e,j,f,rfl⟩:=gV hx;exact(hl _).1 (l e (by simpa using j) f)
 ·rintro⟨b,h⟩
  have k:i<a.size:=by omega
  have d:ops[i]? =some (ops[i]'b):=by simp[b]
  have c:ops.toList[i]? =some (ops[i]'b):=by simp[b]
  rw[c,bL] at h;simp only[ko,ZB] at h;have g:i∉L:=by simpa using h.1
  refine⟨?_,_,d,fun e j f=>(hl _).2 (h.2 e.on (by unfold fF;exact List.mem_map.2 ⟨e,List.mem_filter.2 ⟨by simpa using j,f⟩,rfl⟩))⟩;have: ¬a.getD i false=true:=fun q=>g ((hl i).1 q)
  simp only[pU,qF k,qx] at this⊢;simpa using this
theorem Pg (hE:qy E) {α:Type} {call:Caller α} (hc:gz E call) {ops:Array Oper} {Q:Exit→Act→World→Prop} {K:St→Option α} {r:α}: ∀(n:Nat) (L:List Nat) (s:St) (c:Array Bool) (g:Gh) (a:Act) (w:World),c.size=ops.size→
  (∀i,c.getD i false=true↔i∈L)→(c.toList.countP fun b=>!b)≤n→Eh E call ops.toList K (n+1) L s=some r→Inv E B G0 w0 s g a w→
  (∀s' g' k w',K s'=some r→Inv E B G0 w0 s' g' k w'→Q .normal k w')→wpAny E.P .any ops Q n c a w:=by
 have p: ∀(n:Nat) (L:List Nat) (s:St) (c:Array Bool),c.size=ops.size→(∀i,c.getD i false=true↔i∈L)→Eh E call ops.toList K (n+1) L s=some r→Region.ready .any ops c=[]→K s=some r:=by
  intro n L s c f hl h t;unfold Eh at h;have:FV ops.toList L=[]:=List.eq_nil_iff_forall_not_mem.2 fun i d=>by
   have:=(Ni f hl i).2 d;rw[t] at this;cases this
  rw[this] at h;exact h
 intro n;induction n with
 |zero=>
  intro L s c g a w f hl J h d I;have t:Region.ready .any ops c=[]:=List.eq_nil_iff_forall_not_mem.2 fun i d=>by
   obtain⟨H,o,G,_⟩:=mem_ready.1 d;have W:i<ops.size:=(Array.getElem?_eq_some_iff.1 G).1;have C:i<c.size:=by omega
   have Z:=List.countP_eq_zero.1 (Nat.le_zero.1 J) c[i] (by rw[ab1];exact Array.getElem_mem C);simp only[pU,qF C,qx] at H;rw[H] at Z;exact Z rfl
  exact⟨t,I s g a w (p 0 L s c f hl h t) d⟩
 |succ n ih=>
  intro L s c g a w f hl hcn h d I;refine⟨fun t=>I s g a w (p (n+1) L s c f hl h t) d,fun i F=>?_⟩;have m:=(Ni f hl i).1 F;unfold Eh at h;split at h
  ·rename_i z;rw[z] at m;cases m
  ·rename_i j l z
   rw[z] at m;have Y:=su h i m;obtain⟨H,o,G,_⟩:=mem_ready.1 F;have W:i<ops.size:=(Array.getElem?_eq_some_iff.1 G).1;have C:i<c.size:=by omega
   have U:ops.toList[i]? =some o:=by simpa using G
   simp only[U] at Y;rcases dB hc [o] s _ r Y with⟨s',N,X⟩|⟨_,v,s',_,X⟩
   rotate_left
   ·cases X
   have A: ∀x,(c.setIfInBounds i true).getD x false=true↔x∈i::L:=fun x=>by
    by_cases e:i=x
    ·subst e
     simp[C]
    ·rw[getD_set_ne false e,hl,ZK]
     exact⟨.inr,fun q=>q.resolve_left fun q=>e q.symm⟩
   have D:((c.setIfInBounds i true).toList.countP fun b=>!b)≤n:=by
    have T:c[i]=false:=by simpa only[pU,qF C,qx] using H
    rw[Zy,List.countP_set (by simpa using C)];simp only[Array.getElem_toList,T,acY,if_true,acO,Qx,HV,Oq];omega
   have next: ∀g' k w',Inv E B G0 w0 s' g' k w'→wpAny E.P .any ops Q n (c.setIfInBounds i true) k w':=fun g' k w' O=>
    ih (i::L) s' _ g' k w' (by simpa using f) A D X O I
   cases N with
   |cons S N=>
    cases N;unfold wpOp;rw[G];simp only;rcases S with⟨R,eff,V,_,t⟩|⟨R,rfl⟩
    ·rw[if_pos (dP d.fr R)]
     refine .inl ?_;have M:=iC (ac:=a) (B:=B) (w:=w) (g:=g) hE rfl d.gok d.own d.bxs d.hB d.m1 d.fB (fun y=>cr d.fr d.fB y) V;exact p8 d M (fun _ _ h=>h) (fun _=>rfl) t fun g' k w' h' _=>next g' k w' h'
    ·rw[if_neg (by rw[dP d.fr R];decide)]
     exact next g _ w (d.put o.dst (v:=.tup []) (u:=undef) ⟨[],rfl,.nil⟩)
theorem jX (hE:qy E) {α:Type} {call:Caller α} (z:gz E call) (tot:Rd) (fuel:Nat): ∀(c:Code) (s:St) (K:Ex→St→Option α) (r:α),ev E call tot fuel c s K=some r→ ∀(g:Gh) (a:Act) (w:World),Inv E B G0 w0 s g a w→
  ∀Q:Exit→Act→World→Prop,(∀e s' g' k w',K e s'=some r→Inv E B G0 w0 s' g' k w'→Q (qH e) k w')→c.wp E.P Q a w
 | .skip,s,K,r,h,g,a,w,m,Q,j=>wp_skip (j .norm s g a w h m)
 | .region id ops false,s,K,r,h,g,a,w,m,Q,j=>by
  obtain⟨e,s',o,hl⟩:=fJ hE z ⟨[],[],false⟩ rfl fuel (.region id ops false) s K r h;exact hl B G0 w0 g a w m Q fun g' k w' f=>j e s' g' k w' o f
 | .region id ops true,s,K,r,h,g0,a,w,F,Q,j=>by
  unfold ev at h;obtain⟨g,m⟩:=wm F E.P ops.toList;rcases EU (id:=id) hE z h with⟨e,s',o,hl⟩|⟨H,C,p,D,h⟩
  ·exact hl B G0 w0 g a w m Q fun g' k w' f=>j e s' g' k w' o f
  ·obtain⟨_,h⟩:=aC h
   refine Code.wp_mono (Q:=fun e a w=>match e with| .normal=>Q .normal a w|_=>False) (fun e a w q=>by cases e<;>first|exact q|exact q.elim) ?_;refine wp_region_any hE.mixed ?_;refine Pb hE H C (fun c a d v w q=>q.elim) D m fun k f=>?_
   refine Pg hE z (bV ops (fA ops (cZ E.P ops))).size [] p _ g k _ (by simp) (fun i=>?_) (Dy abW (by simp)) h f.drew fun s' g' k w' o f=>j .norm s' g' k w' o f
   simp only[pU,Oj,acQ,iff_false];split<;>simp
 | .seq x y,s,K,r,h,g,a,w,m,Q,j=>by
  unfold ev at h;refine wp_seq (jX hE z tot fuel x s _ r h g a w m _ fun e p g' k w' o f=>?_)
  cases e with
  |norm=>exact jX hE z tot fuel y p K r o g' k w' f Q j
  |exit id=>exact j (.exit id) p g' k w' o f
  |ret=>exact j .ret p g' k w' o f
  |ku v=>exact j (.ku v) p g' k w' o f
 | .cond c x y,s,K,r,h,g,a,w,m,Q,j=>by
  unfold ev at h;split at h
  ·rename_i t J
   have I:a.eval c=.bool t:=by
    have:=cr m.fr m.fB c;rw[J,bG] at this;exact this
   rcases jB h with⟨rfl,h⟩|⟨rfl,h⟩
   ·exact wp_cond I (jX hE z tot fuel x s K r h g a w m Q j)
   ·exact wp_cond I (jX hE z tot fuel y s K r h g a w m Q j)
  ·cases h
 | .block id b,s,K,r,h,g,a,w,m,Q,j=>by
  unfold ev at h;refine wp_block (jX hE z tot fuel b s _ r h g a w m _ fun e p g' k w' o f=>?_)
  cases e with
  |norm=>exact j .norm p g' k w' o f
  |ret=>exact j .ret p g' k w' o f
  |ku v=>exact j (.ku v) p g' k w' o f
  |exit i=>
   have o:(bif i==id then K .norm p else K (.exit i) p)=some r:=o;by_cases u:i=id
   ·have:(i==id)=true:=by simpa using u
    rw[this] at o;show(if i=id then Q .normal k w' else Q (.exit i) k w');rw[if_pos u];exact j .norm p g' k w' o f
   ·have:(i==id)=false:=by simpa using u
    rw[this] at o;show(if i=id then Q .normal k w' else Q (.exit i) k w');rw[if_neg u];exact j (.exit i) p g' k w' o f
 | .loop b,s,K,r,h,g,a,w,m,Q,j=>by
  unfold ev at h;generalize xP tot.tot tot.Xo s.fr.length b=mask at h;have G: ∀(n:Nat) (s:St),yX b (fun s K=>ev E call tot fuel b s K) mask K n s=some r→ ∀(g:Gh) (a:Act) (w:World),Inv E B G0 w0 s g a w→Code.rounds E.P b Q n a w:=by
   intro n;induction n with
   |zero=>intro s h;cases h
   |succ n L=>
    intro s h g a w m;unfold yX at h;simp only[Rl] at h;rw[rounds_succ];refine jX hE z tot fuel b _ _ r h g a w m _ fun e p g' k w' o f=>?_
    cases e with
    |norm=>
     obtain⟨g1,A⟩:=f.head mask;exact L _ o g1 k w' A
    |exit id=>exact j (.exit id) p g' k w' o f
    |ret=>exact j .ret p g' k w' o f
    |ku v=>exact j (.ku v) p g' k w' o f
  refine wp_loop_rounds fuel ?_;obtain⟨g1,A⟩:=m.head mask;exact G fuel _ h g1 a w A
 | .exit id,s,K,r,h,g,a,w,m,Q,j=>wp_exit (j (.exit id) s g a w h m)
 | .label l,s,K,r,h,g,a,w,m,Q,j=>wp_label (j .norm s g a w h m)
 | .ret,s,K,r,h,g,a,w,m,Q,j=>wp_ret (j .ret s g a w h m)
 | .rangeFunc ..,s,K,r,h,_,_,_,_,_,_=>by unfold ev at h;cases h
 | .scope _,s,K,r,h,_,_,_,_,_,_=>by unfold ev at h;cases h
 | .goto _,s,K,r,h,_,_,_,_,_,_=>by unfold ev at h;cases h
 | .refuse _,s,K,r,h,_,_,_,_,_,_=>by unfold ev at h;cases h
def lH:V→Bool
 | .tup _=>false
 | .fn _ _=>false
 | .box _ _=>false
 | .eptr _ _ _ _ _ _=>false
 | .slz _ _ _ _ _ _ _ _ _ _=>false
 | .epz _ _ _ _ _=>false
 | .old _=>false
 |_=>true
theorem wT {g:Gh} {w:World} {x:V} {v:Value} (z:Ho B g w) (hx:x.single=true) (d:lH x=true) (h:bA g x v):kz g.G w B.m x v:=by
 cases x with
 |sl e sh E xs=>
  cases E with
  |none=>exact h
  |some L=>
   obtain⟨hL,A⟩:=h;obtain⟨u,o⟩:=z.1 L v e _ hL;refine⟨u,?_⟩;rcases A with⟨j,hx⟩|⟨b,cap,l,j,i,H,hl,hE⟩
   ·exact .inl ⟨j,hx⟩
   ·rcases o with o|⟨I,n,t,q,K,a,r,C,J,p,s,y,D⟩
    ·rw[j] at o;cases o
    ·rw[j] at a
     simp only[Value.slice.injEq,aI,Addr.mk.injEq] at a;obtain⟨⟨rfl,_,_⟩,F,rfl⟩:=a;exact .inr ⟨b,cap,q,l,j,r.1,C,i,p,s,H,hl,hE⟩
 |box k off=>cases d
 |eptr _ _ _ _ _ _=>cases d
 |old _=>cases d
 |slz _ _ _ _ _ _ _ _ _ _=>cases d
 |epz _ _ _ _ _=>cases d
 |tup vs=>cases hx
 |fn f c=>cases hx
 |_=>exact h
theorem ny {x y:V} (h:x.Ih=some y):x.deep=some y∧lH y=true:=by
 cases x with
 |fn f c=>cases h
 |_=>refine⟨h,?_⟩;simp[V.Ih,V.deep] at h<;>subst h<;>rfl
def uF (a:Act):ResultVar→Sem Value
 | .tmp t=>pure (a.tmps.getD t undef)
 | .cell c t=>do loadVar t (←asAddr (a.tmps.getD c undef))
theorem wU {g:Gh} {x y:V} {v:Value} (h:aG g x v) (a:x.Ih=some y):bA g y v∧lH y=true:=by
 obtain⟨a,c⟩:=ny a;have b:=iV a;exact⟨aP (by cases y<;>first|rfl|cases c) (bI b (mg h a)),c⟩
theorem JJ {s:St} {g:Gh} {a:Act} {w w0:World} (z:Inv E B G0 w0 s g a w) {x:ResultVar} {y:V} (h:tJ E.P s x=some y): ∃u,(uF a x).run E.P w=.ok u w∧bA g y u∧lH y=true:=by
 cases x with
 |tmp t=>
  have d:aG g (slot s.fr t).yS (a.tmps.getD t undef):=uL (cr z.fr z.fB (.tmp t));refine⟨a.tmps.getD t undef,rfl,?_⟩;simp only[tJ] at h;split at h
  ·rename_i e sh X xs m
   simp only[aI] at h;subst h;rw[m] at d;exact⟨aP rfl d,rfl⟩
  ·exact wU d h
 |cell c t=>
  have d:aG g (slot s.fr c) (a.tmps.getD c undef):=cr z.fr z.fB (.tmp c);simp only[tJ] at h;split at h
  ·rename_i k off m
   rw[m] at d;obtain⟨b,Q,i⟩:=dH.1 d;have l:(uF a (.cell c t)).run E.P w=(loadVar t ⟨b,off,none⟩).run E.P w:=by
    simp only[uF,Sem.run_bind,i,Go.asAddr,Sem.run_pure,Result.andThen_ok]
   split at h
   ·rename_i cells hl
    obtain⟨W,F,e,p,_,S,q,_,_⟩:=z.bxs.1 k cells hl;rw[Q] at p;simp only[aI] at p;subst p;have f: ∀(j:Nat) v,F.toList[j]? =some v→w.cell? ⟨b,j,none⟩=some v:=by
     intro j v i;simp only[World.cell?,S];simpa using i
    split at h
    ·rename_i o
     split at h
     ·rename_i n T
      split at h
      ·rename_i R H
       simp only[aI] at h;subst h;obtain⟨N,D⟩:=Ep H q;have r:((F.toList.drop off).take n).length=n:=by rw[Dv,xB];omega
       obtain⟨U,O,C⟩:=yZ o;obtain⟨Y,L,J⟩:=jJ T;have:=run_loadVar_mid (P:=E.P) w b off t ((F.toList.drop off).take n) U (fun j v i=>by
        rw[Ki] at i;split at i
        ·rw[Hy] at i;exact f _ _ i
        ·cases i) O C (by rw[L,r];simp[J])
       refine⟨_,l.trans this,?_,rfl⟩;show aK g.G (.agg R) _;unfold aK;exact⟨_,rfl,(eD _ _).2 D⟩
      ·cases h
     ·cases h
    ·rename_i o
     obtain⟨N,D⟩:=aC h;have A:off<cells.length:=by simpa[A9] using N
     obtain⟨v,I,K⟩:=q.get (getD_some A);have M:(loadVar t ⟨b,off,none⟩).run E.P w=.ok v w:=by
      simp only[loadVar,Sem.run_bind,kL o,Result.andThen_ok,Qx,HV,run_load,f _ _ I]
     exact⟨v,l.trans M,wU K D⟩
    ·cases h
   ·cases h
  ·cases h
theorem zC {s:St} {x:ResultVar} {y:V} (h:tJ E.P s x=some y):y.plain=true∨(∃e sh o xs,y=.sl e sh o xs)∨ ∃b,y=.agg b:=by
 cases x with
 |tmp t=>
  simp only[tJ] at h;split at h
  ·simp only[aI] at h;exact .inr (.inl ⟨_,_,_,_,h.symm⟩)
  ·exact .inl (iV (ny h).1)
 |cell c t=>
  simp only[tJ] at h;split at h
  ·split at h
   ·split at h
    ·split at h
     ·split at h
      ·simp only[aI] at h;exact .inr (.inr ⟨_,h.symm⟩)
      ·cases h
     ·cases h
    ·obtain⟨_,a⟩:=aC h
     exact .inl (iV (ny a).1)
    ·cases h
   ·cases h
  ·cases h
theorem Ph {s:St} {x:ResultVar} {y:V} (h:tJ E.P s x=some y):lH y=true:=by
 cases x with
 |tmp t=>
  simp only[tJ] at h;split at h
  ·simp only[aI] at h;subst h;rfl
  ·exact(ny h).2
 |cell c t=>
  simp only[tJ] at h;split at h
  ·split at h
   ·split at h
    ·split at h
     ·split at h
      ·simp only[aI] at h;subst h;rfl
      ·cases h
     ·cases h
    ·obtain⟨_,a⟩:=aC h
     exact(ny a).2
    ·cases h
   ·cases h
  ·cases h
theorem oI {s:St} {g:Gh} {a:Act} {w w0:World} (d:Inv E B G0 w0 s g a w): ∀(c:List ResultVar) (vs:af),oW E.P s c=some vs→
  ∃us:List Value,(c.mapM (uF a)).run E.P w=.ok us w∧PW (fun x v=>bA g x v∧lH x=true) vs us
 |[],vs,h=>by
  simp only[oW,aI] at h;subst h;exact⟨[],rfl,.nil⟩
 |x::c,vs,h=>by
  simp only[oW] at h;split at h
  ·cases h
  ·rename_i y i
   split at h
   ·cases h
   ·rename_i b j
    simp only[aI] at h;subst h;obtain⟨us,k,e⟩:=oI d c b j;obtain⟨u,l,f⟩:=JJ d i;refine⟨u::us,?_,.cons f e⟩;rw[acF];simp only[Sem.run_bind,l,Sem.run_pure,Result.andThen_ok,k]
theorem pN {g:Gh} {w:World} (d:Ho B g w): ∀(vs:af) (us:List Value) (b:Bool),PW (fun x v=>bA g x v∧lH x=true) vs us→PW (kz g.G w B.m) (fP 0 b vs) us∧(fP 0 b vs).countP mD≤(if b then 1 else 0)
 |[],us,b,h=>by rw[h.bR];cases b<;>exact⟨.nil,by simp[fP]⟩
 |x::vs,us,b,h=>by
  obtain⟨u,t,rfl,⟨j,i⟩,h3⟩:=h.cons_inv;have a:x.single=true:=by cases x<;>first|rfl|cases i
  have f:=wT d a i j
  cases x with
  |sl e sh l xs=>
   cases l with
   |some L=>
    cases b with
    |true=>
     obtain⟨p,c⟩:=pN d vs t false h3;refine⟨.cons f p,?_⟩;show(V.sl e sh (some 0) xs::fP 0 false vs).countP mD≤1;rw[Qz];simp only[mD,if_true];simp at c;have:List.countP mD (fP 0 false vs)=0:=by
      rw[List.countP_eq_zero];intro y k;have:=c y k;simpa using this
     omega
    |false=>
     obtain⟨p,c⟩:=pN d vs t false h3;refine⟨.cons (show aK g.G (V.sl e sh none xs) u from jZ j.2) p,?_⟩;show(V.sl e sh none xs::fP 0 false vs).countP mD≤_;rw[Qz];simpa[mD] using c
   |none=>
    obtain⟨p,c⟩:=pN d vs t b h3;have n:fP 0 b (V.sl e sh none xs::vs)=V.sl e sh none xs::fP 0 b vs:=by cases b<;>rfl
    rw[n];refine⟨.cons f p,?_⟩;rw[Qz];simpa[mD] using c
  |_=>
   obtain⟨p,c⟩:=pN d vs t b h3
   cases b<;>exact⟨.cons f p,by simp only[fP];rw[Qz];simpa[mD] using c⟩
def vz:List Value→Value
 |[u]=>u
 |us=> .tuple us.toArray
theorem lC {fn:Func} {a:Act} {w:World} {us:List Value} (h:(fn.results.toList.mapM (uF a)).run E.P w=.ok us w):
  (results fn a.tmps).run E.P w=.ok (vz us) w:=by
 have b:results fn a.tmps=(do let vs←fn.results.mapM (uF a);pure (if h:vs.size=1 then vs[0] else .tuple vs)):=by
  unfold results;congr 1
 rw[b,Array.mapM_eq_mapM_toList];simp only[Sem.run_bind,Sem.run_map,h,Result.andThen_ok,Sem.run_pure];congr 1
 match us with
 |[]=>simp[vz]
 |[u]=>simp[vz]
 |u::v::l=>simp[vz]
theorem VI {g:Gh} {w:World} (e:Ho B g w) {vs:af} {us:List Value} (h:PW (fun x v=>bA g x v∧lH x=true) vs us):fo g.G w B.m (Ii vs) (vz us):=by
 have a: ∀(vs:af) (us:List Value),PW (fun x v=>bA g x v∧lH x=true) vs us→fo g.G w B.m (.tup (fP 0 true vs)) (.tuple us.toArray):=fun vs us h=>by
  obtain⟨p,c⟩:=pN e vs us true h;exact⟨us,rfl,p,by simpa using c⟩
 match vs,us,h with
 |[],us,h=>rw[h.bR];exact a [] [] .nil
 |[x],us,h=>
  obtain⟨u,t,rfl,⟨i,d⟩,h3⟩:=h.cons_inv;rw[h3.bR];have b:x.single=true:=by cases x<;>first|rfl|cases d
  have f:=wT e b d i;show fo g.G w B.m x u
  cases x with
  |tup _=>cases d
  |_=>exact f
 |x::y::vs,us,h=>
  have hl:=h.1;match us,hl with
  |u::v::us,_=>exact a _ _ h
end
end Nt.Ev
