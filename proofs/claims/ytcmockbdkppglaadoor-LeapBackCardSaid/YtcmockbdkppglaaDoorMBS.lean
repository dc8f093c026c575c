/-
  A region that draws its order, of whose operations some may be taken first: copies, and slicings of slices.
-/
import Derived.Test.YtcmockbdkppglaaDoorMB
set_option linter.all false
namespace Nt.Ev
open Go Go.RowKit
section
variable {P:Program} {ops:Array Oper} {Q:Exit→Act→World→Prop}
theorem Ai (p:List Nat):(bK ops p).size=p.length:=by unfold bK;simp
theorem yO {p:List Nat} {k:Nat} (a:k<p.length):(bK ops p)[k]? =some (Fu p (ops.getD p[k] default)):=by
 unfold bK;simp[a]
theorem nQ {i:Nat} {o:Oper} (h:ops[i]? =some o):ops.getD i default=o:=by
 rw[nX,h];rfl
theorem C6 {p:List Nat} {o:Oper} {e:Edge}:e∈(Fu p o).after↔ ∃a∈o.after,a.on∈p∧e={a with on:=p.idxOf a.on}:=by
 unfold Fu;constructor
 ·intro h
  simp only[List.mem_toArray,ZM,UN,Zz] at h;obtain⟨a,⟨c,b⟩,rfl⟩:=h;exact⟨a,c,by simpa using b,rfl⟩
 ·rintro⟨a,c,b,rfl⟩
  simp only[List.mem_toArray,ZM,UN,Zz];exact⟨a,⟨c,by simpa using b⟩,rfl⟩
theorem M3 (a:Region.Mode) (e:Edge) (n:Nat):Region.binds a {e with on:=n}=Region.binds a e:=rfl
theorem Ww (p:List Nat) (o:Oper) (a:Act) (w:World) (K:Act→World→Prop):(Fu p o).wp P a w K Q=o.wp P a w K Q:=rfl
theorem Qp (p:List Nat) (o:Oper) (a:Act) (w:World):(Fu p o).asks P a w=o.asks P a w:=rfl
theorem qm {p:List Nat} {i:Nat} (h:i∈p): ∃a:p.idxOf i<p.length,p[p.idxOf i]=i:=⟨List.idxOf_lt_length_of_mem h,List.getElem_idxOf _⟩
theorem A7 {p:List Nat} (h:Cj ops p=true) {i:Nat} {o:Oper} (c:ops[i]? =some o):(∀j b,o.guard=some (j,b)→j∈p)∧ ∀e∈o.after,e.on<ops.size:=by
 unfold Cj at h;rw[jJ] at h;have a:=h o (by rw[Zz];exact XI c);rw[bB,jJ] at a;refine⟨fun j b f=>?_,fun e d=>?_⟩
 ·have:=a.1
  rw[f] at this;simpa using this
 ·exact ig (a.2 e (by simpa using d))
theorem KS {p:List Nat} (V:p.Nodup) (A: ∀i∈p,i<ops.size) (R:Cj ops p=true): ∀(fuel:Nat) (f c:Array Bool) (a:Act) (w:World),f.size=ops.size→c.size=p.length→
  (∀i,i<ops.size→i∉p→f.getD i false=true)→(∀(k:Nat) (y:k<p.length) (d:Bool),f.getD p[k] d=c.getD k d)→wpAny P .any (bK ops p) Q fuel c a w→wpAny P .any ops Q fuel f a w:=by
 have C: ∀(f c:Array Bool),f.size=ops.size→c.size=p.length→(∀i,i<ops.size→i∉p→f.getD i false=true)→(∀(k:Nat) (y:k<p.length) (d:Bool),f.getD p[k] d=c.getD k d)→
   (∀i,i∈Region.ready .any ops f→i∈p∧p.idxOf i∈Region.ready .any (bK ops p) c)∧(Region.ready .any ops f=[]→Region.ready .any (bK ops p) c=[]):=by
  intro f c U J h3 z;refine⟨fun i O=>?_,fun hr=>?_⟩
  ·obtain⟨N,o,x,F⟩:=mem_ready.1 O
   have l:i<ops.size:=(Array.getElem?_eq_some_iff.1 x).1;have m:i∈p:=by
    refine Classical.byContradiction fun hn=>?_
    have:=h3 i l hn;have I:i<f.size:=by omega
    simp only[nX,o6 I,oQ] at N this;rw[N] at this;cases this
   obtain⟨y,r⟩:=qm m;refine⟨m,mem_ready.2 ⟨?_,_,yO y,fun e S X=>?_⟩⟩
   ·rw[←z _ y,r];exact N
   ·rw[r,nQ x] at S
    obtain⟨e0,W,u,rfl⟩:=C6.1 S;obtain⟨v,n⟩:=qm u;show c.getD (p.idxOf e0.on) false=true;rw[←z _ v,n];exact F e0 W (by rwa [M3] at X)
  ·refine List.eq_nil_iff_forall_not_mem.2 fun k y=>?_
   obtain⟨N,o',B,F⟩:=mem_ready.1 y;have s:k<p.length:=by have:=(Array.getElem?_eq_some_iff.1 B).1;rwa [Ai] at this
   rw[yO s] at B;simp only[aF] at B;subst B;have l:p[k]<ops.size:=A _ (Fg s);have x:ops[p[k]]? =some (ops[p[k]]'l):=by simp[l]
   have:p[k]∈Region.ready .any ops f:=by
    refine mem_ready.2 ⟨by rw[z k s];exact N,_,x,fun e S X=>?_⟩;by_cases u:e.on∈p
    ·obtain⟨v,n⟩:=qm u
     have:=F {e with on:=p.idxOf e.on} (by rw[nQ x];exact C6.2 ⟨e,S,u,rfl⟩) X;have I:=z _ v false;rw[n] at I;rw[I];exact this
    ·exact h3 _ ((A7 R x).2 e S) u
   rw[hr] at this
   cases this
 have M: ∀(i:Nat) (K K':Act→World→Prop) (a:Act) (w:World),i∈p→(∀a w,K' a w→K a w)→wpOp P (bK ops p) Q (p.idxOf i) K' a w→wpOp P ops Q i K a w:=by
  intro i K K' a w m hK h;obtain⟨y,r⟩:=qm m;have l:=A i m;have x:ops[i]? =some (ops[i]'l):=by simp[l]
  unfold wpOp at h⊢;rw[yO y,r,nQ x] at h;rw[x];simp only at h⊢;have hw:Region.wanted (Fu p (ops[i]'l)) (yielded (bK ops p) a.tmps)=Region.wanted (ops[i]'l) (yielded ops a.tmps):=by
   unfold Region.wanted;have hg:(Fu p (ops[i]'l)).guard=(ops[i]'l).guard.map fun g=>(p.idxOf g.1,g.2):=rfl
   rw[hg]
   cases Y:(ops[i]'l).guard with
   |none=>rfl
   |some g=>
    obtain⟨j,b⟩:=g;have t:=(A7 R x).1 j b Y;obtain⟨v,n⟩:=qm t;have L:=A j t;have T:ops[j]? =some (ops[j]'L):=by simp[L]
    have:yielded (bK ops p) a.tmps (p.idxOf j)=yielded ops a.tmps j:=by
     unfold yielded;rw[yO v,n,nQ T,T];rfl
    simp only[qJ,this]
  rw[hw] at h;split at h
  ·rename_i H
   rw[if_pos H];rw[Ww,Qp] at h;exact h.imp (Oper.wp_mono hK) id
  ·rename_i H
   rw[if_neg H];exact hK _ _ h
 intro fuel;induction fuel with
 |zero=>
  intro f c a w U J h3 z h;refine⟨?_,h.2⟩;refine List.eq_nil_iff_forall_not_mem.2 fun i O=>?_
  have:=((C f c U J h3 z).1 i O).2;rw[h.1] at this
  cases this
 |succ fuel ih=>
  intro f c a w U J h3 z h;obtain⟨r1,r2⟩:=C f c U J h3 z;refine⟨fun hr=>h.1 (r2 hr),fun i O=>?_⟩;obtain⟨m,y⟩:=r1 i O;obtain⟨s,r⟩:=qm m;refine M i _ _ a w m (fun a w hq=>?_) (h.2 _ y);refine ih _ _ a w (by simpa using U) (by simpa using J) (fun j hj t=>?_) (fun k E d=>?_) hq
  ·have D:i≠j:=fun e=>t (e▸m)
   rw[getD_set_ne false D];exact h3 j hj t
  ·by_cases e:p[k]=i
   ·have G:p.idxOf i=k:=by
     refine Classical.byContradiction fun D=>?_
     have h7:p[p.idxOf i]=p[k]:=by rw[r,e]
     rcases Nat.lt_or_gt_of_ne D with Z|Z
     ·exact List.pairwise_iff_getElem.1 V _ _ s E Z h7
     ·exact List.pairwise_iff_getElem.1 V _ _ E s Z h7.symm
    rw[e,G];have l:=A i m;have I:i<f.size:=by omega
    have h6:k<c.size:=by omega
    simp[I,h6]
   ·have G:p.idxOf i≠k:=fun e2=>e (by subst e2;exact r)
    rw[getD_set_ne d (fun q=>e q.symm),getD_set_ne d G];exact z k E d
def gZ {α:Type} (P:Program) (m:Sem α):Prop:=∀w v w',m.run P w=.ok v w'→w'=w∧ ∀a,m.run P a=.ok v a
theorem bS {α:Type} (v:α):gZ P (pure v:Sem α):=by
 intro w a w' h;simp only[Sem.run_pure,Result.ok.injEq] at h;obtain⟨rfl,rfl⟩:=h;exact⟨rfl,fun b=>by simp only[Sem.run_pure]⟩
theorem dG {α β:Type} {m:Sem α} {k:α→Sem β} (f:gZ P m) (d: ∀v,gZ P (k v)):gZ P (m>>= k):=by
 intro w v w' h;rw[Sem.run_bind] at h
 cases b:m.run P w with
 |ok u a=>
  rw[b,Result.andThen_ok] at h;obtain⟨rfl,h3⟩:=f w u a b;obtain⟨rfl,e⟩:=d u a v w' h;exact⟨rfl,fun c=>by rw[Sem.run_bind,h3 c,Result.andThen_ok];exact e c⟩
 |halt x a=>rw[b] at h;cases h
theorem mP {α:Type} {m:Sem α} (h: ∀w v w',m.run P w≠.ok v w'):gZ P m:=fun w v w' e=>absurd e (h w v w')
theorem Bt (t:TypeId):gZ P (typeInfo t):=by
 intro w v w' h
 cases a:P.info? t with
 |some d=>
  have e: ∀w,(typeInfo t).run P w=.ok d w:=fun w=>by simp[typeInfo,a]
  rw[e] at h;simp only[Result.ok.injEq] at h;obtain⟨rfl,rfl⟩:=h;exact⟨rfl,e⟩
 |none=>
  exfalso;unfold typeInfo at h;simp[a] at h
theorem EP (t:TypeId):gZ P (Go.sizeOf t):=by
 unfold Go.sizeOf;exact dG (Bt t) fun v=>bS _
theorem BS (x:Value):gZ P (asIntOf x):=by
 unfold asIntOf;split
 ·exact bS _
 ·exact mP fun w v w' h=>by simp[unsupported] at h
 ·exact mP fun w v w' h=>by simp[stuck] at h
theorem sF {α β:Type} {m:Sem α} {k:α→Sem β} (h: ∀u w v w',(k u).run P w≠.ok v w'): ∀w v w',(m>>= k).run P w≠.ok v w':=by
 intro w v w' e;rw[Sem.run_bind] at e
 cases a:m.run P w with
 |ok u b=>rw[a,Result.andThen_ok] at e;exact h u b v w' e
 |halt x b=>rw[a] at e;cases e
theorem EQ {α:Type} (k:IntKind) (x y:Int) (c:BoundsCode) (w:World) (v:α) (w':World):(boundsPanic k x y c:Sem α).run P w≠.ok v w':=by
 have a: ∀(s:Bool) (w:World) (v:α) (w':World),(runtimePanic (.bounds (IntKind.i64.wrap x) y s c):Sem α).run P w≠.ok v w':=fun s w v w'=>by
  unfold runtimePanic;exact sF (fun p w v w' h=>by simp[goPanic] at h) w v w'
 unfold boundsPanic;simp only;split
 ·exact sF (fun u w v w'=>a u w v w') w v w'
 ·exact sF (fun u w v w'=>a u w v w') w v w'
theorem xD (x:Value) (y:Nat) (c:BoundsCode):gZ P (Instr.sliceBound x y c):=by
 unfold Instr.sliceBound;refine dG (BS x) fun v=>?_
 obtain⟨k,i⟩:=v;simp only;split
 ·exact bS _
 ·exact mP (EQ k i y c)
theorem ER (b:Bool) (len cap:Nat) (a c:Option Value):gZ P (Instr.sliceBounds b len cap a c none):=by
 unfold Instr.sliceBounds;refine dG (bS _) fun m=>?_
 have hL: ∀h:Nat,gZ P (match a with
   |some v=>do let l←Instr.sliceBound v h (if(none:Option Value).isSome=true then BoundsCode.slice3C else BoundsCode.sliceB);pure (l,h,m)
   |none=>do let l←pure 0;pure (l,h,m):Sem (Nat×Nat×Nat)):=fun h=>by
  cases a with
  |none=>exact dG (bS _) fun l=>bS _
  |some v=>exact dG (xD _ _ _) fun l=>bS _
 cases c with
 |none=>exact dG (bS _) fun h=>hL h
 |some v=>exact dG (xD _ _ _) fun h=>hL h
theorem Hu {t e:TypeId} (f:P.underlying t=some (.slice e)) (x:Value) (d b:Option Value):gZ P (Instr.sliceAt t x d b none):=by
 have g: ∀w,(Instr.sliceAt t x d b none).run P w=(Instr.slice t x d b none).run P w:=fun w=>by simp[Instr.sliceAt,run_underlying f]
 have o:gZ P (Instr.slice t x d b none):=by
  unfold Instr.slice;intro w v w' h;simp only[Sem.run_bind,run_underlying f,Result.andThen_ok] at h⊢;split at h
  ·exact nomatch ‹TypeDesc.slice e=TypeDesc.string›
  ·rename_i c a len cap p
   have k:gZ P (do let (l,h,m)←Instr.sliceBounds true len cap d b none;let size←Go.sizeOf c;pure (Value.slice (if m=l then a else a.map (·.add (l*size))) (h-l) (m-l))):=
    dG (ER _ _ _ _ _) fun v=>dG (EP _) fun s=>bS _
   exact k w v w' h
  ·exact nomatch ‹TypeDesc.slice e=TypeDesc.pointer _›
  ·simp[stuck] at h
 intro w v w' h;rw[g] at h;obtain⟨j,i⟩:=o w v w' h;exact⟨j,fun n=>by rw[g];exact i n⟩
theorem JE (x:Value):gZ P (Instr.sureAddr x):=by
 unfold Instr.sureAddr;split
 ·exact bS _
 ·exact mP fun w v w' h=>by simp[stuck] at h
theorem Hw {t:TypeId} {f:Nat} (c:OI P t f=true) (x:Value):gZ P (Instr.fieldAt t x f):=by
 unfold OI at c;split at c
 ·rename_i r n
  split at c
  ·rename_i d k
   split at c
   ·rename_i i o
    have g:i.size≠0:=by simpa using c
    have e: ∀(a:Addr) w,(fieldPlace a d).run P w=.ok (a.add d.offset) w:=fun a w=>by
     simp[fieldPlace,Go.sizeOf,typeInfo,o,g]
    have q:gZ P (do let a←Instr.sureAddr x;pure (Value.pointer (some (←fieldPlace a d)))):=by
     refine dG (JE x) fun a=>dG ?_ fun b=>bS _
     intro w v w' h;rw[e a w] at h;simp only[Result.ok.injEq] at h;obtain⟨rfl,rfl⟩:=h;exact⟨rfl,fun j=>e a j⟩
    intro w v w' h;have l: ∀w,(Instr.fieldAt t x f).run P w=(do let a←Instr.sureAddr x;pure (Value.pointer (some (←fieldPlace a d))):Sem Value).run P w:=fun w=>by
     unfold Instr.fieldAt;simp only[Sem.run_bind,run_underlying n,Result.andThen_ok,k]
    rw[l] at h;obtain⟨p,m⟩:=q w v w' h;exact⟨p,fun j=>by rw[l];exact m j⟩
   ·cases c
  ·cases c
 ·cases c
def Pf:V→Bool
 | .eptr _ _ _ _ _ _=>true
 | .epz _ _ _ _ _=>true
 | .rptr _ _ _=>true
 | .box _ _=>true
 |_=>false
theorem Ei {g:Gh} {X:V} {u:Value} (d:Pf X=true) (h:aB g X u): ∃a,u=.pointer (some a):=by
 cases X with
 |eptr L e sh xs i off=>obtain⟨_,b,_,_,_,_,_,c⟩:=jV.1 h;exact⟨_,c⟩
 |epz L e f i off=>obtain⟨_,b,_,_,_,_,_,_,c⟩:=lN.1 h;exact⟨_,c⟩
 |rptr sh x off=>obtain⟨b,q,l,c,_⟩:=gz.1 h;exact⟨_,c⟩
 |box k off=>obtain⟨b,_,c⟩:=cu.1 h;exact⟨_,c⟩
 |_=>cases d
theorem Ej {P:Program} {r:Operand→V} {bx:List (Nat×af)} {o:Oper} {x:Operand} {a:Bool×Eff} (b:o.op=.nilCheck x) (h:ID P r bx o=some a):Pf (r x)=true:=by
 unfold ID at h;rw[b] at h;simp only at h
 cases hx:r x<;>rw[hx] at h<;>first|rfl|cases h
theorem Td {E:Env} {fr:af} {bx:List (Nat×af)} {o:Oper} {x:Operand} {b:Bool×Eff} {g:Gh} {ac:Act} (d:o.op=.nilCheck x) (e: ∀y,aB g (iD E fr y) (ac.eval y)) (h:yh E fr bx o=some b): ∃a,ac.eval x=.pointer (some a):=by
 have hl:wS E fr o=none:=by unfold wS;rw[d]
 unfold yh at h;rw[hl] at h;simp only at h
 cases i:o.op.operands.toList.any fun x=>(iD E fr x).FC with
 |false=>rw[i] at h;exact Ei (Ej d h) (e x)
 |true=>
  rw[i,gY] at h;have f:ID E.P (fun x=>(iD E fr x).wP) bx o=some b→ ∃a,ac.eval x=.pointer (some a):=fun h=>Ei (Ej d h) (rU (e x))
  split at h
  ·rename_i c v hx
   exact Ei (Ej d hx) (Ct (e x))
  ·exact f h
theorem Hy {o:Oper} (h:tK P o=true) {ρ:Operand→Value} (c: ∀x,o.op=.nilCheck x→ ∃a,ρ x=.pointer (some a)) {w w':World} {u:Value} (i:(execOp ρ o).run P w=.ok (.value u) w'): ∀g,(execOp ρ o).run P g=.ok (.value u) g:=by
 unfold tK at h;rw[bB,bB] at h;have b:=h.1.1;have k:gZ P (execOp ρ o):=by
  split at b
  ·rename_i x hx
   have:execOp ρ o=pure (.value (ρ x)):=by simp only[execOp,hx]
   rw[this];exact bS _
  ·rename_i x hx
   obtain⟨a,m⟩:=c x hx;have:execOp ρ o=pure (.value (.pointer (some a))):=by simp only[execOp,hx,m]
   rw[this];exact bS _
  ·rename_i t x n l hx
   have:execOp ρ o=(do pure (.value (←Instr.sliceAt t (ρ x) (n.map ρ) (l.map ρ) none))):=by simp only[execOp,hx,Option.map_none]
   rw[this];unfold U6 at b;split at b
   ·rename_i e j
    exact dG (Hu j _ _ _) fun v=>bS _
   ·cases b
  ·rename_i fn first d hx
   have:execOp ρ o=(do pure (.value (←Instr.makeFunc fn (first.map ρ) (d.map ρ)))):=by simp only[execOp,hx]
   rw[this];exact dG (by unfold Instr.makeFunc;exact bS _) fun v=>bS _
  ·rename_i t x f hx
   have:execOp ρ o=(do pure (.value (←Instr.fieldAt t (ρ x) f))):=by simp only[execOp,hx]
   rw[this];exact dG (Hw b _) fun v=>bS _
  ·cases b
 exact(k w _ w' i).2
end
section
variable {E:Env} {B:Own} {G0:aI} {w0:World}
theorem xE {n:Nat} {ops:List Oper} (h:kR n ops=true): ∀(i:Nat) o,ops[i]? =some o→(∃d,o.dst=some d∧d<n)∧(∀(j:Nat) o',ops[j]? =some o'→i≠j→o.dst≠o'.dst)∧(∀e∈o.after.toList,Region.binds .any e=true→e.on<i)∧
  (∀t∈pF o,∀(j:Nat) o',ops[j]? =some o'→o'.dst=some t→j<i∧ ∃e∈o.after.toList,Region.binds .any e=true∧e.on=j)∧(∀j a,o.guard=some (j,a)→j<i∧ ∃e∈o.after.toList,Region.binds .any e=true∧e.on=j):=by
 intro i o s;unfold kR at h;simp only at h;have h:=tN h i o s;simp only[bB] at h;obtain⟨⟨⟨⟨m,u⟩,h3⟩,r⟩,q⟩:=h;refine⟨?_,fun j o' l g=>?_,fun e b w=>?_,fun t v j o' l c=>?_,fun j a x=>?_⟩
 ·split at m
  ·rename_i d c;exact⟨d,c,by simpa[zm] using m⟩
  ·cases m
 ·have:=tN u j o' l
  simp only[yH,fT,Vz,ne_eq] at this;exact this.resolve_left g
 ·rw[jJ] at h3
  have:=h3 e b;rw[w] at this;simpa[zm] using this
 ·rw[jJ] at r
  have:=tN (r t v) j o' l;simp only[yH,Vz,ne_eq,bB,BF,fT,zm] at this;rcases this with h|⟨k,e,b,p,f⟩
  ·exact absurd c h
  ·exact⟨k,e,b,p,f⟩
 ·rw[x] at q
  simp only[bB,BF,fT,zm] at q;obtain⟨k,e,b,p,f⟩:=q;exact⟨k,e,b,p,f⟩
theorem xG {ops:List Oper} {s s':St} {o:Oper} (h: ∀j a b d,o.guard=some (j,a)→ops[j]? =some b→b.dst=some d→slot s.fr d=slot s'.fr d):ja ops s o=ja ops s' o:=by
 unfold ja;split
 ·rfl
 ·rename_i j a f
  split
  ·rfl
  ·rename_i b c
   split
   ·rfl
   ·rename_i d e
    rw[h j a b d f c e]
theorem F5 {l:List Oper} {m i:Nat} {o:Oper} (h:(l.take m)[i]? =some o):l[i]? =some o∧i<m:=by
 rw[Iw] at h;split at h
 ·exact⟨h,by assumption⟩
 ·cases h
theorem nJ {l:List Oper} {m i:Nat} {o:Oper} (h:l[i]? =some o) (a:i<m):(l.take m)[i]? =some o:=by
 rw[Iw,if_pos a];exact h
theorem uk: ∀(m l:List Nat) (x:Nat),x∈addN l m→x∈l∨x∈m
 |[],l,x,h=> .inl h
 |a::m,l,x,h=>by
  unfold addN at h
  cases b:l.contains a with
  |true=>rw[b,gY] at h;exact(uk m l x h).imp id (vg _)
  |false=>
   rw[b,fQ] at h;rcases uk m _ x h with h|h
   ·rcases List.mem_cons.1 h with rfl|h
    ·exact .inr sS
    ·exact .inl h
   ·exact .inr (vg _ h)
theorem gJ {o:Oper} {x:Nat} (h:x∈eH o): ∃e∈o.after.toList,Region.binds .any e=true∧e.on=x:=by
 unfold eH at h;obtain⟨e,a,rfl⟩:=List.mem_map.1 h;rw[UN] at a;exact⟨e,a.1,a.2,rfl⟩
theorem JF {c b:Bool} (h:(bif c then b else false)=true):c=true∧b=true:=by cases c<;>first|exact⟨rfl,h⟩|cases h
theorem nR: ∀(l:List Nat) (k:List Nat→Bool),rE l k=k l
 |[],_=>rfl
 |a::l,k=>by unfold rE;exact nR l _
theorem sG {ops:List Oper}: ∀(n j i k:Nat) (o:Oper),waits ops n j i=true→ops[i]? =some o→k∈eH o→ ∃b,waits ops b j k=true
 |0,j,i,k,o,h,_,_=>by cases h
 |n+1,j,i,k,o,h,f,l=>by
  unfold waits at h;split at h
  ·rename_i r a
   simp only[BF,bB,yH,fT] at h;obtain⟨e,m,g,h⟩:=h;rcases h with h|h
   ·obtain⟨q,c,d,rfl⟩:=gJ l
    refine⟨2,?_⟩;unfold waits;rw[a];simp only[BF,bB,yH,fT];refine⟨e,m,g,.inr ?_⟩;unfold waits;rw[h,f];simp only[BF,bB,yH,fT];exact⟨q,c,d,.inl rfl⟩
   ·obtain⟨b,p⟩:=sG n e.on i k o h f l
    refine⟨b+1,?_⟩;unfold waits;rw[a];simp only[BF,bB,yH,fT];exact⟨e,m,g,.inr p⟩
  ·cases h
theorem xH {ops:List Oper} {j:Nat}: ∀(n:Nat) (S:List Nat),DZ ops n S=true→(∀x∈S,∃k,waits ops k j x=true)→ ∀i,i<n→ ∃k,waits ops k j i=true
 |0,S,_,_,i,f=>by omega
 |n+1,S,h,c,i,f=>by
  unfold DZ at h;obtain⟨l,a⟩:=JF h;have b: ∃k,waits ops k j n=true:=c n (by simpa using l);rw[nR] at a;by_cases e:i=n
  ·subst e;exact b
  ·refine xH n _ a (fun x hx=>?_) i (by omega)
   rcases uk _ _ _ hx with hx|hx
   ·exact c x hx
   ·obtain⟨k,g⟩:=b
    split at hx
    ·rename_i o d;exact sG k j n x o g d hx
    ·cases hx
theorem xI {ops:List Oper}: ∀(n m:Nat),D4 ops m n=true→ ∀j,m≤j→j<m+n→tF ops j=true
 |0,m,_,j,b,a=>by omega
 |n+1,m,h,j,b,a=>by
  unfold D4 at h;rw[bB] at h;by_cases e:j=m
  ·subst e;exact h.1
  ·exact xI n (m+1) h.2 j (by omega) (by omega)
theorem l5 {ops:List Oper} {m:Nat} (h:jS ops m=true): ∀(j:Nat) o,ops[j]? =some o→m≤j→(∀e∈o.after.toList,Region.binds .any e=true→e.on<j)∧ ∀i,i<j→ ∃n,waits ops n j i=true:=by
 intro j o c l;unfold jS at h;have f:j<ops.length:=(List.getElem?_eq_some_iff.1 c).1;have a:=xI _ _ h j l (by omega);unfold tF at a;rw[c] at a;simp only[bB,jJ,nR] at a;refine⟨fun e k g=>ig (a.1 e.on ?_),xH j _ a.2 fun x hx=>?_⟩
 ·unfold eH
  exact List.mem_map.2 ⟨e,List.mem_filter.2 ⟨k,g⟩,rfl⟩
 ·obtain⟨q,b,d,rfl⟩:=gJ hx
  refine⟨1,?_⟩;unfold waits;rw[c];simp only[BF,bB,yH,fT];exact⟨q,b,d,.inl rfl⟩
theorem F6 {P:Program} {ops:Array Oper} {Q:Exit→Act→World→Prop} {m:Nat} (C: ∀(j:Nat) o,ops.toList[j]? =some o→m≤j→(∀e∈o.after.toList,Region.binds .any e=true→e.on<j)∧ ∀i,m≤i→i<j→ ∃n,waits ops.toList n j i=true) (N: ∀(j:Nat) o,ops.toList[j]? =some o→ ∀e∈o.after.toList,Region.binds .any e=true→e.on<j): ∀(n k:Nat) (fuel:Nat) (b:Array Bool) (a:Act) (w:World),k+n=ops.size→m≤k→b.size=ops.size→(∀i,i<ops.size→b.getD i false=decide (i<k))→n≤fuel→
  wpOps P ops Q (List.range' k n) a w→wpAny P .any ops Q fuel b a w:=by
 intro n;induction n with
 |zero=>
  intro k fuel b a w G s B hl U h;have F:Region.ready .any ops b=[]:=by
   rw[acm];intro i c;obtain⟨x,o,E,_⟩:=mem_ready.1 c;have J:i<ops.size:=(Array.getElem?_eq_some_iff.1 E).1;have q:i<b.size:=by omega
   have d:=hl i J;simp only[nX,o6 q,oQ] at x d;rw[x] at d;have:=acF d.symm;omega
  cases fuel with
  |zero=>exact⟨F,h⟩
  |succ fuel=>exact⟨fun _=>h,fun i c=>by rw[F] at c;cases c⟩
 |succ n W=>
  intro k fuel b a w G s B hl U h
  cases fuel with
  |zero=>omega
  |succ fuel=>
   have D:k<ops.size:=by omega
   have K:ops.toList[k]? =some ops[k]:=by simp[D]
   have g: ∀i,i∈Region.ready .any ops b→i=k:=by
    intro i c;obtain⟨x,o,E,l⟩:=mem_ready.1 c;have J:i<ops.size:=(Array.getElem?_eq_some_iff.1 E).1;have q:i<b.size:=by omega
    have d:=hl i J;simp only[nX,o6 q,oQ] at x d;rw[x] at d;have R:=acF d.symm;by_cases e:i=k
    ·exact e
    ·exfalso
     have A:ops.toList[i]? =some o:=by simpa using E
     obtain⟨_,S⟩:=C i o A (by omega);obtain⟨X,I⟩:=S k s (by omega);have M:Closed ops.toList (fun i=>b.getD i false):=by
      intro j T y f v r t;have f:b.getD j false=true:=f;have L:j<ops.size:=by have:=(List.getElem?_eq_some_iff.1 y).1;simpa using this
      rw[hl j L] at f;have p:=N j T y v (by simpa using r) t;have H:=B5 f;show b.getD v.on false=true;rw[hl v.on (by omega)];simp;omega
     have u: ∀(n:Nat),waits ops.toList n i k=true→b.getD k false=true:=by
      intro n z
      cases n with
      |zero=>cases z
      |succ n=>
       unfold waits at z;rw[A] at z;simp only[BF,bB,yH,fT] at z;obtain⟨v,r,t,p⟩:=z;have H:=l v (by simpa using r) t;rcases p with p|p
       ·rw[←p];exact H
       ·exact iY M n v.on k p H
     have:=u _ I;rw[hl k D] at this;have:=B5 this;omega
   refine⟨fun F=>?_,fun i c=>?_⟩
   ·exfalso
    have:k∈Region.ready .any ops b:=by
     have q:k<b.size:=by omega
     have d:=hl k D;refine mem_ready.2 ⟨?_,ops[k],by simp[D],fun e V O=>?_⟩
     ·simp only[nX,o6 q,oQ] at d⊢
      rw[d];simp
     ·have p:=(C k _ K s).1 e (by simpa using V) O
      rw[hl e.on (by omega)];simpa using p
    rw[F] at this;cases this
   ·obtain rfl:=g i c
    rw[ZE,wpOps_cons] at h;refine wpOp_mono (fun a w h=>?_) h;refine W (i+1) fuel _ a w (by omega) (by omega) (by simpa using B) (fun j L=>?_) (by omega) h;by_cases e:j=i
    ·subst e
     have q:j<b.size:=by omega
     simp[q]
    ·have:(b.setIfInBounds i true).getD j false=b.getD j false:=getD_set_ne false (fun h=>e h.symm)
     rw[this,hl j L];have:(j<i)↔(j<i+1):=by omega
     simp only[this]
theorem JG {P:Program} {Q:Exit→Act→World→Prop} {o:Oper} {a:Act} {w:World} {K:Act→World→Prop} {x:Operand} {i:Nat} (d:o.op=.extract x i) (h:o.wp P a w K Q):
  ∃v,(∀w,(execOp a.eval o).run P w=.ok (.value v) w)∧K (a.put o.dst v) w:=by
 have e:execOp a.eval o=(do pure (.value (←Instr.extract (a.eval x) i))):=by unfold execOp;simp only[d]
 unfold Oper.wp at h;rw[e] at h⊢;unfold Instr.extract at h⊢
 cases b:a.eval x with
 |tuple vs=>
  rw[b] at h;simp only at h⊢
  cases c:vs[i]? with
  |none=>rw[c] at h;exact False.elim h
  |some v=>rw[c] at h;exact⟨v,fun w=>rfl,h⟩
 |_=>rw[b] at h;exact False.elim h
theorem JH {ops:Array Oper} {l:Nat} (h:FE ops l=true): ∃o x i,ops[l]? =some o∧o.op=.extract x i∧o.guard=none∧ ∀(j:Nat) c,ops[j]? =some c→j≠l→(∀e∈o.after,Region.binds .any e=true→e.on≠j)→(∀e∈c.after,Region.binds .any e=true→e.on≠l)→o.apart ops c=true:=by
 unfold FE at h
 cases q:ops[l]? with
 |none=>rw[q] at h;cases h
 |some o=>
  rw[q] at h;simp only[bB] at h;obtain⟨⟨t,r⟩,h3⟩:=h;have hx: ∃x i,o.op=.extract x i:=by
   cases m:o.op with
   |extract x i=>exact⟨x,i,rfl⟩
   |_=>rw[m] at t;cases t
  obtain⟨x,i,hx⟩:=hx;have f:o.guard=none:=by
   cases f:o.guard with
   |none=>rfl
   |some _=>rw[f] at r;cases r
  refine⟨o,x,i,rfl,hx,f,fun j c s n d g=>?_⟩;rw[jJ] at h3;have a:=h3 j (List.mem_range.2 (Array.getElem?_eq_some_iff.1 s).1);rw[s] at a;simp only[yH,fT,n,false_or,Xj] at a;rcases a with(a|a)|a
  ·obtain⟨e,p,k,b⟩:=gJ a
   exact absurd b (d e (by simpa using p) k)
  ·obtain⟨e,p,k,b⟩:=gJ a
   exact absurd b (g e (by simpa using p) k)
  ·exact a
theorem oN {ops:List Oper} {late:Nat→Bool} {j:Nat}: ∀(n:Nat) (S:List Nat),tH ops late n S=true→(∀x∈S,∃k,waits ops k j x=true)→ ∀i,i<n→(∃k,waits ops k j i=true)∨late i=true
 |0,_,_,_,i,d=>absurd d (Sc i)
 |n+1,S,h,a,i,d=>by
  unfold tH at h
  cases c:S.contains n with
  |true=>
   rw[c,gY,nR] at h;have f:n∈S:=by simpa using c
   by_cases e:i=n
   ·subst e;exact .inl (a _ f)
   ·refine oN n _ h (fun x hx=>?_) i (by omega)
    rcases uk _ _ _ hx with hx|hx
    ·exact a x hx
    ·cases b:ops[n]? with
     |none=>rw[b] at hx;cases hx
     |some o=>
      rw[b] at hx;obtain⟨k,g⟩:=a n f;exact sG k j n x o g b hx
  |false=>
   rw[c,fQ,bB] at h;by_cases e:i=n
   ·subst e;exact .inr h.1
   ·exact oN n S h.2 a i (by omega)
theorem uO {ops:List Oper} {late:Nat→Bool}: ∀(n m:Nat),tJ ops late m n=true→ ∀j,m≤j→j<m+n→zZ ops late j=true
 |0,m,_,j,b,a=>by omega
 |n+1,m,h,j,b,a=>by
  unfold tJ at h;rw[bB] at h;by_cases e:j=m
  ·subst e;exact h.1
  ·exact uO n (m+1) h.2 j (by omega) (by omega)
theorem Hz {ops:Array Oper} {m:Nat} (h:tJ ops.toList (FF ops m) m (ops.toList.length-m)=true): ∀(j:Nat) o,ops.toList[j]? =some o→m≤j→(∀e∈o.after.toList,Region.binds .any e=true→e.on<j)∧ ∀i,i<j→(∃n,waits ops.toList n j i=true)∨FF ops m i=true:=by
 intro j o c l;have f:j<ops.toList.length:=(List.getElem?_eq_some_iff.1 c).1;have a:=uO _ _ h j l (by omega);unfold zZ at a;rw[c] at a;simp only[bB,jJ,nR] at a;refine⟨fun e k g=>ig (a.1 e.on ?_),oN j _ a.2 fun x hx=>?_⟩
 ·unfold eH
  exact List.mem_map.2 ⟨e,List.mem_filter.2 ⟨k,g⟩,rfl⟩
 ·obtain⟨q,b,d,rfl⟩:=gJ hx
  refine⟨1,?_⟩;unfold waits;rw[c];simp only[BF,bB,yH,fT];exact⟨q,b,d,.inl rfl⟩
theorem C8 (hE:oU E) {ops:Array Oper} {Q:Exit→Act→World→Prop} {q sN:St} {g:Gh} {a:Act} {w:World} {m:Nat} (hok:kR q.fr.length (ops.toList.take m)=true) {late:Nat→Bool}
  (hch: ∀(j:Nat) o,ops.toList[j]? =some o→m≤j→(∀e∈o.after.toList,Region.binds .any e=true→e.on<j)∧ ∀i,i<j→(∃n,waits ops.toList n j i=true)∨late i=true)
  (J: ∀l,late l=true→l<m∧FE ops l=true∧Region.noSelect ops=true∧ ∀c a d v w,Q (.panic c) (a.put d v) w→Q (.panic c) a w) (T:dh (ops.toList.take m) q=true) (hen:iT (ops.toList.take m) sN=true)
  (ht:Trace E ops.toList (some q.bx) (ops.toList.take m) q sN) (hm:m≤ops.size) (h:Inv E B G0 w0 q g a w) (hk: ∀g' a' w',Inv E B G0 w0 sN g' a' w'→wpOps E.P ops Q (List.range' m (ops.size-m)) a' w'):wpAny E.P .any ops Q ops.size (Array.replicate ops.size false) a {w with drawn:=w.drawn+1}:=by
 have V:=xE hok;have hlm:(ops.toList.take m).length=m:=by rw[B6];simp;omega
 have hdst: ∀o∈ops.toList.take m,∃d,o.dst=some d:=by
  intro o I;obtain⟨i,p⟩:=BD I;obtain⟨⟨d,hd,_⟩,_⟩:=V i o p;exact⟨d,hd⟩
 obtain⟨r,O,hcs,hfin⟩:=sD (ops.toList.take m) q sN hdst ht;subst hfin;have D: ∀(i:Nat) o c,(ops.toList.take m)[i]? =some o→r[i]? =some c→o.dst=some c.d:=fun i o c F Y=>(hcs i o c F Y).1
 have hnd:(r.map (·.d)).Nodup:=by
  refine List.pairwise_iff_getElem.2 fun i j p A hij e=>?_
  rw[vk] at p A;have Oq:i<(ops.toList.take m).length:=by omega
  have H:j<(ops.toList.take m).length:=by omega
  have F:=D i _ _ (gQ Oq) (gQ p);have Y:=D j _ _ (gQ H) (gQ A);simp only[ZF] at e;refine(V i _ (gQ Oq)).2.1 j _ (gQ H) (by omega) ?_;rw[F,Y,e]
 have hfr: ∀c∈r,c.d<q.fr.length:=by
  intro c hc;obtain⟨i,p⟩:=BD hc;have Oq:i<(ops.toList.take m).length:=by rw[←O];exact(List.getElem?_eq_some_iff.1 p).1
  obtain⟨⟨d,hd,hlt⟩,_⟩:=V i _ (gQ Oq);have:=D i _ c (gQ Oq) p;rw[this] at hd;simp only[aF] at hd;rw[hd];exact hlt
 have hsz:ops.toList.length=ops.size:=by simp
 let sel (f:Array Bool):Nat→Bool:=fun i=>f.getD i false
 have hed: ∀(j:Nat) o,ops.toList[j]? =some o→ ∀e∈o.after.toList,Region.binds .any e=true→e.on<j:=by
  intro j o A;by_cases hjm:j<m
  ·exact(V j o (nJ A hjm)).2.2.1
  ·exact(hch j o A (by omega)).1
 have key: ∀(fuel:Nat) (f:Array Bool) (g:Gh) (a:Act) (w:World),f.size=ops.size→(f.toList.countP fun b=>!b)≤fuel→(∀i,m≤i→f.getD i false=false)→Closed ops.toList (sel f)→Inv E B G0 w0 (aP (sel f) r 0 q) g a w→wpAny E.P .any ops Q fuel f a w:=by
  have full: ∀(fuel:Nat) (f:Array Bool) (g:Gh) (a:Act) (w:World),f.size=ops.size→(f.toList.countP fun b=>!b)≤fuel→(∀i,m≤i→f.getD i false=false)→(∀i,i<m→f.getD i false=true)→Inv E B G0 w0 (aP (sel f) r 0 q) g a w→wpAny E.P .any ops Q fuel f a w:=by
   intro fuel f g a w L hc M R p;have e1:aP (sel f) r 0 q=aP (fun _=>true) r 0 q:=iO _ _ r 0 q fun i _ p=>R i (by omega)
   rw[e1] at p;refine F6 (fun j o I A=>⟨(hch j o I A).1,fun i X0 hij=>((hch j o I A).2 i hij).resolve_right fun hl=>by have:=(J i hl).1;omega⟩) hed (ops.size-m) m fuel f a w (by omega) (iA _) L (fun i p=>?_) ?_ (hk g a w p)
   ·by_cases C:i<m
    ·rw[R i C];simp[C]
    ·rw[M i (by omega)];simp[C]
   ·refine zl ?_ hc
    have F:(f.toList.drop m).countP (fun b=>!b)=(f.toList.drop m).length:=by
     rw[List.countP_eq_length];intro b N;obtain⟨i,p⟩:=BD N;rw[IB] at p;have Y:=M (m+i) (by omega);have h3:f[m+i]? =some b:=by simpa using p
     rw[nX,h3,oQ] at Y;rw[Y];rfl
    have Y:(f.toList.drop m).countP (fun b=>!b)≤f.toList.countP fun b=>!b:=List.Sublist.countP_le (List.drop_sublist _ _)
    rw[F,zk,yG,L] at Y;exact Y
  intro fuel;induction fuel with
  |zero=>
   intro f g a w L hc M hcl p;refine full 0 f g a w L hc M (fun i C=>?_) p;have U:i<f.size:=by omega
   cases hq:f.getD i false with
   |true=>rfl
   |false=>
    exfalso;have h0:f[i]=false:=by
     simpa only[nX,o6 U,oQ] using hq
    have:0<f.toList.countP fun b=>!b:=List.countP_pos_iff.2 ⟨f[i],by simp,by rw[h0];rfl⟩
    omega
  |succ fuel ih=>
   intro f g a w L hc M hcl p;by_cases K: ∀i,i<m→f.getD i false=true
   ·exact full (fuel+1) f g a w L hc M K p
   have Ku: ∀i,i∈Region.ready .any ops f→i<m→ ∃o,ops[i]? =some o∧((Region.wanted o (yielded ops a.tmps)=true∧o.wp E.P a w (wpAny E.P .any ops Q fuel (f.setIfInBounds i true)) Q)∨(Region.wanted o (yielded ops a.tmps)=false∧wpAny E.P .any ops Q fuel (f.setIfInBounds i true) (a.put o.dst undef) w)):=by
    intro i C Z;obtain⟨h0,o,I,z⟩:=mem_ready.1 C;have hi':i<ops.size:=(Array.getElem?_eq_some_iff.1 I).1;have U:i<f.size:=by omega
    have h0':f[i]=false:=by
     simpa only[nX,o6 U,oQ] using h0
    have hsel:sel f i=false:=by
     show f.getD i false=false;simp only[nX,o6 U,oQ,h0']
    have Mf:ops.toList[i]? =some o:=by simpa using I
    have X3:=nJ Mf Z;have hiC:i<r.length:=by omega
    have hci:r[i]? =some r[i]:=gQ hiC;generalize r[i]=c at hci;obtain⟨hod,si,_,hsi,hstep⟩:=hcs i o c X3 hci;have IK:=V i o X3;have FL: ∀t,(∀(j:Nat) o',(ops.toList.take m)[j]? =some o'→o'.dst=some t→j<i∧ ∃e∈o.after.toList,Region.binds .any e=true∧e.on=j)→slot (aP (sel f) r 0 q).fr t=slot si.fr t:=by
     intro t htr;rw[hsi];by_cases hex: ∃X∈r,X.d=t
     ·obtain⟨X,hm,rfl⟩:=hex
      obtain⟨j,A⟩:=BD hm;have H:j<(ops.toList.take m).length:=by rw[←O];exact(List.getElem?_eq_some_iff.1 A).1
      have hdj:=D j _ X (gQ H) A;obtain⟨hlt,e,he,N,heq⟩:=htr j _ (gQ H) hdj;have W:sel f j=true:=by rw[←heq];exact z e (by simpa using he) N
      rw[jv (sel f) j r 0 q X (Ca _) (by simpa using A) hnd (hfr X hm),jv (fun k=>decide (k<i)) j r 0 q X (Ca _) (by simpa using A) hnd (hfr X hm),if_pos W,if_pos (by simpa using hlt)]
     ·rw[gI _ t r 0 q fun X hm e=>hex ⟨X,hm,e⟩,gI _ t r 0 q fun X hm e=>hex ⟨X,hm,e⟩]
    have V2:Closed (ops.toList.take m) (sel f):=fun j oj G=>hcl j oj (F5 G).1
    obtain⟨hnl,hnb⟩:=C5 O D hnd hfr T hen V2 hci hsel;have hst':=hstep (aP (sel f) r 0 q) (xG fun j want oj d hg G hd=>FL d fun j' o' hj' hd'=>by
      have:j'=j:=by
       by_cases e:j'=j
       ·exact e
       ·exact absurd (hd'.trans hd.symm) ((V j' o' hj').2.1 j oj (nJ G (by have:=(IK.2.2.2.2 j want hg).1;omega)) e)
      subst this;exact IK.2.2.2.2 j' want hg) (wz (sw fun t VD=>FL t (IK.2.2.2.1 t VD))) hnl hnb
    have I8:Alike (c.app (aP (sel f) r 0 q)) (aP (sel (f.setIfInBounds i true)) r 0 q):=by
     have F:=su (sel f) i r 0 q c (Ca _) (by simpa using hci) hsel hnd;have e1:aP (fun j=>if j=i then true else sel f j) r 0 q=aP (sel (f.setIfInBounds i true)) r 0 q:=iO _ _ r 0 q fun j _ _=>by
      show _=(f.setIfInBounds i true).getD j false;by_cases ej:j=i
      ·subst ej;simp[U]
      ·rw[if_neg ej,getD_set_ne false (fun h=>ej h.symm)]
     rw[e1] at F;exact F
    have V3:Closed ops.toList (sel (f.setIfInBounds i true)):=by
     intro j oj G W e he N;have W:(f.setIfInBounds i true).getD j false=true:=W;show(f.setIfInBounds i true).getD e.on false=true;by_cases ej:j=i
     ·subst ej
      rw[Mf] at G;simp only[aF] at G;subst G;exact getD_set_true (z e he N)
     ·rw[getD_set_ne false (fun h=>ej h.symm)] at W
      exact getD_set_true (hcl j oj G W e he N)
    have hcount:(((f.setIfInBounds i true).toList).countP fun b=>!b)≤fuel:=by
     have h5:((f.setIfInBounds i true).toList).countP (fun b=>!b)+1=f.toList.countP fun b=>!b:=by
      rw[Xg];have hil:i<f.toList.length:=by simpa using U
      have e1:f.toList=f.toList.take i++f.toList[i]::f.toList.drop (i+1):=by
       rw[List.getElem_cons_drop,acn]
      have e2:f.toList.set i true=f.toList.take i++true::f.toList.drop (i+1):=by
       rw[XF,if_pos hil]
      rw[e2];conv=>rhs;rw[e1]
      have e3:f.toList[i]=false:=by simpa using h0'
      rw[e3];simp only[List.countP_append,RO];simp;omega
     omega
    have next: ∀g' a' w',Inv E B G0 w0 (c.app (aP (sel f) r 0 q)) g' a' w'→wpAny E.P .any ops Q fuel (f.setIfInBounds i true) a' w':=fun g' a' w' hi'=>
     ih (f.setIfInBounds i true) g' a' w' (by simpa using L) hcount (fun j A=>by rw[getD_set_ne false (by omega)];exact M j A) V3 (hi'.alike I8)
    refine⟨o,I,?_⟩;rcases hst' with⟨S,eff,hor,_,hr⟩|⟨S,heq⟩
    ·refine .inl ⟨di p.fr S,?_⟩
     have hsub: ∀k ds,aj q.bx k=some ds→aj (aP (sel f) r 0 q).bx k=some ds:=by
      intro k ds hkd;have: ∀(l:List mD) (m:Nat) (s:St),(∀c∈l,∀x,c.bx=some x→c.d≠k)→aj s.bx k=some ds→aj (aP (sel f) l m s).bx k=some ds:=by
       intro l;induction l with
       |nil=>intro m s _ h;exact h
       |cons c l ih=>
        intro m s hne h;unfold aP;refine ih (m+1) _ (fun c' hc'=>hne c' (vg _ hc')) ?_;split
        ·unfold mD.app
         cases N:c.bx with
         |none=>exact h
         |some x=>
          unfold aj;have:(c.d==k)=false:=by rw[oZ];exact hne c sS x N
          rw[this,fQ];exact h
        ·exact h
      refine this r 0 q (fun X hcj x hx e=>?_) hkd;obtain⟨j,A⟩:=BD hcj;have H:j<(ops.toList.take m).length:=by rw[←O];exact(List.getElem?_eq_some_iff.1 A).1
      have hdj:=D j _ X (gQ H) A;unfold dh at T;rw[jJ] at T;have h6:=T _ (Fg H);rw[hdj] at h6;simp only[bB] at h6;exact(jI h6.2 k ds hkd).1 e.symm
     have hdo:=gV (ac:=a) (B:=B) (w:=w) (g:=g) (bx:=q.bx) hE rfl p.gok p.own (p.bxs.sub hsub) p.hB p.m1 p.eD (fun y=>bR p.fr p.eD y) hor;exact oq p hdo hsub (fun h=>by cases h) hr fun g' a' w' h' _=>next g' a' w' h'
    ·refine .inr ⟨di p.fr S,?_⟩
     refine next g _ w ?_;rw[heq];exact p.put o.dst (v:=.tup []) (u:=undef) ⟨[],rfl,.nil⟩
   by_cases hL: ∃l,l∈Region.ready .any ops f∧late l=true
   ·obtain⟨l,hlr,hll⟩:=hL
    obtain⟨Yr,hlb,hns,hQ⟩:=J l hll;obtain⟨ol,x,ix,hol,hox,hog,hap⟩:=JH hlb;obtain⟨o,I,T⟩:=Ku l hlr Yr;rw[hol] at I;simp only[aF] at I;subst I;rcases T with⟨_,hwp⟩|⟨S,_⟩
    rotate_left
    ·unfold Region.wanted at S;rw[hog] at S;cases S
    obtain⟨v,hv,hK⟩:=JG hox hwp;refine wpAny_first hol (Region.noSelect_spec hns) (fun c a w=>hQ c a ol.dst v w) fuel f a w (fun j oj A hjl hun hno=>?_) hlr (.inl ⟨by unfold Region.wanted;rw[hog],hv⟩) hK;refine hap j oj A hjl (fun e he N heq=>?_) hno;obtain⟨_,o2,ho2,hal⟩:=mem_ready.1 hlr;rw[hol] at ho2;simp only[aF] at ho2;subst ho2;have F:=hal e he N;rw[heq] at F;have hj4:j<f.size:=by have:=(Array.getElem?_eq_some_iff.1 A).1;omega
    simp only[nX,o6 hj4,oQ] at F hun;rw[F] at hun;cases hun
   refine⟨fun hr=>?_,fun i C=>?_⟩
   ·exfalso
    apply K
    have R: ∀i,i<ops.size→f.getD i true=true:=by
     intro i;induction i using Nat.strongRecOn with
     |_ i ih=>
      intro p
      cases hl:f.getD i true with
      |true=>rfl
      |false=>
       have hm:i∈Region.ready .any ops f:=by
        rw[mem_ready];refine⟨hl,ops[i],by simp[p],fun e he N=>?_⟩;have F:=hed i ops[i] (by simp[p]) e (by simpa using he) N;have Y:=ih e.on F (by omega);have U:e.on<f.size:=by omega
        simp only[nX,o6 U,oQ] at Y⊢;exact Y
       rw[hr] at hm
       cases hm
    intro i C;have F:=R i (by omega);have U:i<f.size:=by omega
    simp only[nX,o6 U,oQ] at F⊢;exact F
   obtain⟨h0,o,I,z⟩:=mem_ready.1 C;have hi':i<ops.size:=(Array.getElem?_eq_some_iff.1 I).1;have U:i<f.size:=by omega
   have h0':f[i]=false:=by
    simpa only[nX,o6 U,oQ] using h0
   have hsel:sel f i=false:=by
    show f.getD i false=false;simp only[nX,o6 U,oQ,h0']
   have Mf:ops.toList[i]? =some o:=by simpa using I
   have Z:i<m:=by
    refine N9 fun X0=>K fun i' hi'm=>?_
    have Yt: ∀(n:Nat) {i':Nat},waits ops.toList n i i'=true→f.getD i' false=true:=by
     intro n i' hn
     cases n with
     |zero=>cases hn
     |succ n=>
      unfold waits at hn;rw[Mf] at hn;simp only[BF,bB,yH,fT] at hn;obtain⟨e2,he2,hb2,h6⟩:=hn;have h7:=z e2 (by simpa using he2) hb2;rcases h6 with h6|h6
      ·rw[←h6];exact h7
      ·exact iY hcl n e2.on i' h6 h7
    obtain⟨_,S⟩:=hch i o Mf X0;have hlt: ∀l,late l=true→f.getD l false=true:=by
     intro l;induction l using Nat.strongRecOn with
     |_ l ihl=>
      intro hll
      cases hlq:f.getD l false with
      |true=>rfl
      |false=>
       exfalso;obtain⟨Yr,hlb,_,_⟩:=J l hll;have hl4:l<f.size:=by omega
       refine hL ⟨l,mem_ready.2 ⟨?_,ops[l]'(by omega),by simp,fun e he N=>?_⟩,hll⟩
       ·simp only[nX,o6 hl4,oQ] at hlq⊢
        exact hlq
       ·have F:=hed l (ops[l]'(by omega)) (by simp) e (by simpa using he) N
        rcases S e.on (by omega) with⟨n,hn⟩|hl2
        ·exact Yt _ hn
        ·exact ihl e.on F hl2
    rcases S i' (by omega) with⟨n0,hwk⟩|hl2;rotate_left
    ·exact hlt i' hl2
    exact Yt _ hwk
   obtain⟨o2,ho2,V4⟩:=Ku i C Z;unfold wpOp;rw[ho2];simp only;rcases V4 with⟨S,h⟩|⟨S,h⟩
   ·rw[if_pos S];exact .inl h
   ·rw[if_neg (by rw[S];decide)];exact h
 have hinit:Inv E B G0 w0 (aP (sel (Array.replicate ops.size false)) r 0 q) g a {w with drawn:=w.drawn+1}:=by
  have e1: ∀(l:List mD) (k:Nat),aP (sel (Array.replicate ops.size false)) l k q=q:=by
   intro l;induction l with
   |nil=>intro k;rfl
   |cons c l ih=>
    intro k;unfold aP;have:sel (Array.replicate ops.size false) k=false:=by
     show(Array.replicate ops.size false).getD k false=false;simp[Mb];split<;>rfl
    rw[this,if_neg (by decide)];exact ih (k+1)
  rw[e1];exact h.drew
 refine key ops.size (Array.replicate ops.size false) g a _ (by simp) ?_ (fun i _=>by simp[Mb];split<;>rfl) ?_ hinit
 ·exact zl Zx (by simp)
 ·intro j o A hs
  have hs:(Array.replicate ops.size false).getD j false=true:=hs;simp only[nX,Mb] at hs;exfalso;split at hs<;>cases hs
theorem Aj (hE:oU E) {ops:Array Oper} {id:Nat} {Q:Exit→Act→World→Prop} {f q:St} {g:Gh} {a:Act} {w:World} {m:Nat} (r:kR f.fr.length (ops.toList.take m)=true) {late:Nat→Bool}
  (s: ∀(j:Nat) o,ops.toList[j]? =some o→m≤j→(∀e∈o.after.toList,Region.binds .any e=true→e.on<j)∧ ∀i,i<j→(∃n,waits ops.toList n j i=true)∨late i=true)
  (b: ∀l,late l=true→l<m∧FE ops l=true∧Region.noSelect ops=true∧ ∀c a d v w,Q (.panic c) (a.put d v) w→Q (.panic c) a w) (k:dh (ops.toList.take m) f=true) (p:iT (ops.toList.take m) q=true)
  (u:Trace E ops.toList (some f.bx) (ops.toList.take m) f q) (y:m≤ops.size) (h:Inv E B G0 w0 f g a w) (x: ∀g' t w',Inv E B G0 w0 q g' t w'→wpOps E.P ops Q (List.range' m (ops.size-m)) t w'):(Code.region id ops true).wp E.P Q a w:=
 wp_region_any hE.mixed (C8 hE r s b k p u y h x)
theorem wB (sel:Nat→Bool) (k:Nat) (v:af): ∀(l:List mD) (n:Nat) (s:St),(∀c∈l,∀x,c.bx=some x→c.d≠k)→aP sel l n ⟨s.fr,fH s.bx k v⟩=⟨(aP sel l n s).fr,fH (aP sel l n s).bx k v⟩
 |[],_,_,_=>rfl
 |c::l,n,s,h=>by
  have a:c.app ⟨s.fr,fH s.bx k v⟩=⟨(c.app s).fr,fH (c.app s).bx k v⟩:=by
   unfold mD.app
   cases e:c.bx with
   |none=>rfl
   |some x=>
    have:(c.d==k)=false:=by rw[oZ];exact h c sS x e
    simp only[fH,this,fQ]
  unfold aP
  cases f:sel n with
  |true=>rw[if_pos rfl,if_pos rfl,a];exact wB sel k v l (n+1) _ fun c b=>h c (vg _ b)
  |false=>rw[if_neg (by decide),if_neg (by decide)];exact wB sel k v l (n+1) s fun c b=>h c (vg _ b)
theorem A8 (k:Nat) (v old:af): ∀(l:List (Nat×af)),aj l k=some old→fH (fH l k v) k old=l
 |[],h=>by cases h
 |(j,b)::l,h=>by
  have c: ∀(v:af) (b:af) (l:List (Nat×af)),fH ((j,b)::l) k v=bif j==k then(j,v)::l else(j,b)::fH l k v:=fun _ _ _=>rfl
  unfold aj at h;rw[c]
  cases a:j==k with
  |true=>
   rw[a,gY] at h;simp only[aF] at h;rw[gY,c,a,gY,h]
  |false=>
   rw[a,fQ] at h;rw[fQ,c,a,fQ,A8 k v old l h]
theorem p9 (k:Nat): ∀(l:List (Nat×af)) (j:Nat) (a:af),aj (pG l k) j=some a→j≠k∧aj l j=some a
 |[],j,a,h=>by cases h
 |(i,g)::l,j,a,h=>by
  unfold pG at h
  cases b:i==k with
  |true=>
   rw[b,gY] at h;obtain⟨d,f⟩:=p9 k l j a h;refine⟨d,?_⟩;unfold aj;have:(i==j)=false:=by rw[oZ];rw[fT] at b;intro e;exact d (e▸b)
   rw[this];exact f
  |false=>
   rw[b,fQ] at h;unfold aj at h⊢
   cases c:i==j with
   |true=>
    rw[c] at h;rw[fT] at c;subst c;exact⟨by rw[oZ] at b;exact b,h⟩
   |false=>
    rw[c] at h;exact p9 k l j a h
theorem xJ (k:Nat) (v:af): ∀(l:List (Nat×af)) (j:Nat),j≠k→aj (fH l k v) j=aj l j
 |[],_,_=>rfl
 |(i,b)::l,j,h=>by
  unfold fH
  cases a:i==k with
  |true=>
   rw[gY];rw[fT] at a;subst a;unfold aj;have:(i==j)=false:=by rw[oZ];exact fun e=>h e.symm
   rw[this,fQ,fQ]
  |false=>
   rw[fQ];unfold aj;rw[xJ k v l j h]
theorem xK (hE:oU E) {ops:Array Oper} {id:Nat} {Q:Exit→Act→World→Prop} {z G sN:St} {g:Gh} {a:Act} {w:World} {m:Nat} {p:Oper} {k off:Nat} {cells old:af} (hok:kR z.fr.length (ops.toList.take m)=true)
  (hp:ops.toList[m]? =some p) (ZS:D5 ops.toList m=true) (hop:yh E z.fr z.bx p=some (true,.put k off cells)) (hold:aj z.bx k=some old) (hbld:iF (over old off cells)=true→iF old=true) (hs1:G=⟨z.fr,fH z.bx k (over old off cells)⟩)
  (hch: ∀(j:Nat) o,ops.toList[j]? =some o→m+1≤j→(∀e∈o.after.toList,Region.binds .any e=true→e.on<j)∧ ∀i,i<j→ ∃n,waits ops.toList n j i=true)
  (I:dh (ops.toList.take m) z=true) (hst1:dh (ops.toList.take m) G=true) (hen1:iT (ops.toList.take m) sN=true) (SF:iT (ops.toList.take m) ⟨sN.fr,fH sN.bx k old⟩=true)
  (ht:Trace E ops.toList (some (pG z.bx k)) (ops.toList.take m) G sN) (hm:m+1≤ops.size) (h:Inv E B G0 w0 z g a w) (hk: ∀g' a' w',Inv E B G0 w0 sN g' a' w'→wpOps E.P ops Q (List.range' (m+1) (ops.size-(m+1))) a' w'):(Code.region id ops true).wp E.P Q a w:=by
 have hsp:=xE hok;have hlm:(ops.toList.take m).length=m:=by rw[B6];simp;omega
 have hdst: ∀o∈ops.toList.take m,∃d,o.dst=some d:=by
  intro o ho;obtain⟨i,r⟩:=BD ho;obtain⟨⟨d,hd,_⟩,_⟩:=hsp i o r;exact⟨d,hd⟩
 obtain⟨q,M,hcs,hfin⟩:=sD (ops.toList.take m) G sN hdst ht;subst hfin;have F: ∀(i:Nat) o c,(ops.toList.take m)[i]? =some o→q[i]? =some c→o.dst=some c.d:=fun i o c h1 X=>(hcs i o c h1 X).1
 have hnd:(q.map (·.d)).Nodup:=by
  refine List.pairwise_iff_getElem.2 fun i j r A hij e=>?_
  rw[vk] at r A;have Oq:i<(ops.toList.take m).length:=by omega
  have C:j<(ops.toList.take m).length:=by omega
  have h1:=F i _ _ (gQ Oq) (gQ r);have X:=F j _ _ (gQ C) (gQ A);simp only[ZF] at e;refine(hsp i _ (gQ Oq)).2.1 j _ (gQ C) (by omega) ?_;rw[h1,X,e]
 have hfr: ∀c∈q,c.d<z.fr.length:=by
  intro c hc;obtain⟨i,r⟩:=BD hc;have Oq:i<(ops.toList.take m).length:=by rw[←M];exact(List.getElem?_eq_some_iff.1 r).1
  obtain⟨⟨d,hd,hlt⟩,_⟩:=hsp i _ (gQ Oq);have:=F i _ c (gQ Oq) r;rw[this] at hd;simp only[aF] at hd;rw[hd];exact hlt
 have hsz:ops.toList.length=ops.size:=by simp
 have hpm:m<ops.toList.length:=by omega
 obtain⟨hpd,hpg,hpa,hpr⟩:p.dst=none∧p.guard=none∧(∀e∈p.after.toList,Region.binds .any e=false)∧ ∀t∈pF p,∀o∈ops.toList.take m,o.dst≠some t:=by
  unfold D5 at ZS;rw[hp] at ZS;simp only[bB,jJ,acL,Vz,ne_eq] at ZS;obtain⟨⟨⟨q1,q2⟩,q3⟩,q4⟩:=ZS;refine⟨?_,?_,q3,q4⟩
  ·cases hq:p.dst with
   |none=>rfl
   |some d=>rw[hq] at q1;cases q1
  ·cases hq:p.guard with
   |none=>rfl
   |some d=>rw[hq] at q2;cases q2
 have Yu: ∀c∈q,∀x,c.bx=some x→c.d≠k:=by
  intro W hcj x _ e;obtain⟨j,A⟩:=BD hcj;have C:j<(ops.toList.take m).length:=by rw[←M];exact(List.getElem?_eq_some_iff.1 A).1
  have hdj:=F j _ W (gQ C) A;unfold dh at I;rw[jJ] at I;have h6:=I _ (Fg C);rw[hdj] at h6;simp only[bB] at h6;exact(jI h6.2 k old hold).1 e.symm
 have hput: ∀sel:Nat→Bool,aP sel q 0 G=⟨(aP sel q 0 z).fr,fH (aP sel q 0 z).bx k (over old off cells)⟩:=fun sel=>by
  rw[hs1];exact wB sel k _ q 0 z Yu
 have OP: ∀(sel:Nat→Bool) (l:List mD) (n:Nat) (s:St) (j:Nat) (K:af),(∀c∈l,∀x,c.bx=some x→c.d≠j)→aj s.bx j=some K→aj (aP sel l n s).bx j=some K:=by
  intro sel l;induction l with
  |nil=>intro n s j K _ h;exact h
  |cons c l ih=>
   intro n s j K hne h;unfold aP;refine ih (n+1) _ j K (fun c' hc'=>hne c' (vg _ hc')) ?_;split
   ·unfold mD.app
    cases O:c.bx with
    |none=>exact h
    |some x=>
     unfold aj;have:(c.d==j)=false:=by rw[oZ];exact hne c sS x O
     rw[this,fQ];exact h
   ·exact h
 have Y4:iT (ops.toList.take m) (aP (fun _=>true) q 0 z)=true:=by
  have e:=hput (fun _=>true);rw[e] at SF;simp only at SF;rw[A8 k _ old _ (OP _ q 0 z k old Yu hold)] at SF;exact SF
 have hnew: ∀j K,aj z.bx j=some K→ ∀c∈q,∀x,c.bx=some x→c.d≠j:=by
  intro j K hkd W hcj x hx e;obtain⟨i,r⟩:=BD hcj;have C:i<(ops.toList.take m).length:=by rw[←M];exact(List.getElem?_eq_some_iff.1 r).1
  have hdj:=F i _ W (gQ C) r;unfold dh at I;rw[jJ] at I;have h6:=I _ (Fg C);rw[hdj] at h6;simp only[bB] at h6;exact(jI h6.2 j K hkd).1 e.symm
 refine wp_region_any hE.mixed ?_;let sel (f:Array Bool):Nat→Bool:=fun i=>f.getD i false
 let base (f:Array Bool):St:=if f.getD m false=true then G else z
 have hbase: ∀f,base f=z∨base f=G:=fun f=>by
  show(if f.getD m false=true then G else z)=z∨_;by_cases e:f.getD m false=true
  ·exact .inr (if_pos e)
  ·exact .inl (if_neg e)
 have Yv: ∀s',(s'=z∨s'=G)→s'.fr=z.fr:=by
  rintro s' (rfl|rfl)
  ·rfl
  ·rw[hs1]
 have Yw: ∀s',(s'=z∨s'=G)→dh (ops.toList.take m) s'=true∧iT (ops.toList.take m) (aP (fun _=>true) q 0 s')=true:=by
  rintro s' (rfl|rfl)
  ·exact⟨I,Y4⟩
  ·exact⟨hst1,hen1⟩
 have Y5: ∀s',(s'=z∨s'=G)→ ∀(sel:Nat→Bool) j K,aj (pG z.bx k) j=some K→aj (aP sel q 0 s').bx j=some K:=by
  rintro s' O sel j K A;obtain⟨h1,X⟩:=p9 k _ j K A;refine OP sel q 0 s' j K (hnew j K X) ?_;rcases O with rfl|rfl
  ·exact X
  ·rw[hs1];exact(xJ k _ _ j h1).trans X
 have hed: ∀(j:Nat) o,ops.toList[j]? =some o→ ∀e∈o.after.toList,Region.binds .any e=true→e.on<j:=by
  intro j o A;by_cases hjm:j<m
  ·exact(hsp j o (nJ A hjm)).2.2.1
  ·by_cases hje:j=m
   ·subst hje
    rw[hp] at A;simp only[aF] at A;subst A;intro e he O;rw[hpa e he] at O
    cases O
   ·exact(hch j o A (by omega)).1
 have key: ∀(fuel:Nat) (f:Array Bool) (g:Gh) (a:Act) (w:World),f.size=ops.size→(f.toList.countP fun b=>!b)≤fuel→(∀i,m+1≤i→f.getD i false=false)→Closed ops.toList (sel f)→Inv E B G0 w0 (aP (sel f) q 0 (base f)) g a w→wpAny E.P .any ops Q fuel f a w:=by
  have full: ∀(fuel:Nat) (f:Array Bool) (g:Gh) (a:Act) (w:World),f.size=ops.size→(f.toList.countP fun b=>!b)≤fuel→(∀i,m+1≤i→f.getD i false=false)→(∀i,i<m+1→f.getD i false=true)→Inv E B G0 w0 (aP (sel f) q 0 (base f)) g a w→wpAny E.P .any ops Q fuel f a w:=by
   intro fuel f g a w T hc U S r;have e1:aP (sel f) q 0 (base f)=aP (fun _=>true) q 0 G:=by
    have e0:base f=G:=if_pos (S m (by omega));rw[e0];exact iO _ _ q 0 G fun i _ r=>S i (by omega)
   rw[e1] at r;refine F6 (fun j o ho A=>⟨(hch j o ho A).1,fun i X0 hij=>(hch j o ho A).2 i hij⟩) hed (ops.size-(m+1)) (m+1) fuel f a w (by omega) (iA _) T (fun i r=>?_) ?_ (hk g a w r)
   ·by_cases L:i<m+1
    ·rw[S i L];simp[L]
    ·rw[U i (by omega)];simp[L]
   ·refine zl ?_ hc
    have h1:(f.toList.drop (m+1)).countP (fun b=>!b)=(f.toList.drop (m+1)).length:=by
     rw[List.countP_eq_length];intro b O;obtain⟨i,r⟩:=BD O;rw[IB] at r;have X:=U (m+1+i) (by omega);have h3:f[m+1+i]? =some b:=by simpa using r
     rw[nX,h3,oQ] at X;rw[X];rfl
    have X:(f.toList.drop (m+1)).countP (fun b=>!b)≤f.toList.countP fun b=>!b:=List.Sublist.countP_le (List.drop_sublist _ _)
    rw[h1,zk,yG,T] at X;exact X
  intro fuel;induction fuel with
  |zero=>
   intro f g a w T hc U hcl r;refine full 0 f g a w T hc U (fun i L=>?_) r;have Z:i<f.size:=by omega
   cases hq:f.getD i false with
   |true=>rfl
   |false=>
    exfalso;have h0:f[i]=false:=by
     simpa only[nX,o6 Z,oQ] using hq
    have:0<f.toList.countP fun b=>!b:=List.countP_pos_iff.2 ⟨f[i],by simp,by rw[h0];rfl⟩
    omega
  |succ fuel ih=>
   intro f g a w T hc U hcl r;by_cases OQ: ∀i,i<m+1→f.getD i false=true
   ·exact full (fuel+1) f g a w T hc U OQ r
   have Ku: ∀i,i∈Region.ready .any ops f→i<m→ ∃o,ops[i]? =some o∧((Region.wanted o (yielded ops a.tmps)=true∧o.wp E.P a w (wpAny E.P .any ops Q fuel (f.setIfInBounds i true)) Q)∨(Region.wanted o (yielded ops a.tmps)=false∧wpAny E.P .any ops Q fuel (f.setIfInBounds i true) (a.put o.dst undef) w)):=by
    intro i L SG;have r:=r;obtain⟨h0,o,ho,H⟩:=mem_ready.1 L;have hi':i<ops.size:=(Array.getElem?_eq_some_iff.1 ho).1;have Z:i<f.size:=by omega
    have h0':f[i]=false:=by
     simpa only[nX,o6 Z,oQ] using h0
    have hsel:sel f i=false:=by
     show f.getD i false=false;simp only[nX,o6 Z,oQ,h0']
    have Mf:ops.toList[i]? =some o:=by simpa using ho
    have X3:=nJ Mf SG;have hiC:i<q.length:=by omega
    have hci:q[i]? =some q[i]:=gQ hiC;generalize q[i]=c at hci;obtain⟨hod,si,_,hsi,hstep⟩:=hcs i o c X3 hci;have IK:=hsp i o X3;have Y:=hbase f;generalize hbe:base f=sb at r Y;have hfb:=Yv sb Y;have hf1:=Yv G (.inr rfl);have hfr1: ∀c∈q,c.d<G.fr.length:=fun c hc=>by rw[hf1];exact hfr c hc
    have Yx: ∀c∈q,c.d<sb.fr.length:=fun c hc=>by rw[hfb];exact hfr c hc
    have FL: ∀t,(∀(j:Nat) o',(ops.toList.take m)[j]? =some o'→o'.dst=some t→j<i∧ ∃e∈o.after.toList,Region.binds .any e=true∧e.on=j)→slot (aP (sel f) q 0 sb).fr t=slot si.fr t:=by
     intro t htr;rw[hsi];by_cases hex: ∃W∈q,W.d=t
     ·obtain⟨W,hm,rfl⟩:=hex
      obtain⟨j,A⟩:=BD hm;have C:j<(ops.toList.take m).length:=by rw[←M];exact(List.getElem?_eq_some_iff.1 A).1
      have hdj:=F j _ W (gQ C) A;obtain⟨hlt,e,he,O,heq⟩:=htr j _ (gQ C) hdj;have J:sel f j=true:=by rw[←heq];exact H e (by simpa using he) O
      rw[jv (sel f) j q 0 sb W (Ca _) (by simpa using A) hnd (Yx W hm),jv (fun k=>decide (k<i)) j q 0 G W (Ca _) (by simpa using A) hnd (hfr1 W hm),if_pos J,if_pos (by simpa using hlt)]
     ·rw[gI _ t q 0 sb fun W hm e=>hex ⟨W,hm,e⟩,gI _ t q 0 G fun W hm e=>hex ⟨W,hm,e⟩,hfb,hf1]
    have V2:Closed (ops.toList.take m) (sel f):=fun j oj D=>hcl j oj (F5 D).1
    obtain⟨hnl,hnb⟩:=C5 M F hnd Yx (Yw sb Y).1 (Yw sb Y).2 V2 hci hsel;have hst':=hstep (aP (sel f) q 0 sb) (xG fun j want oj d hg D hd=>FL d fun j' o' hj' hd'=>by
      have:j'=j:=by
       by_cases e:j'=j
       ·exact e
       ·exact absurd (hd'.trans hd.symm) ((hsp j' o' hj').2.1 j oj (nJ D (by have:=(IK.2.2.2.2 j want hg).1;omega)) e)
      subst this;exact IK.2.2.2.2 j' want hg) (wz (sw fun t VD=>FL t (IK.2.2.2.1 t VD))) hnl hnb
    have I8:Alike (c.app (aP (sel f) q 0 sb)) (aP (sel (f.setIfInBounds i true)) q 0 sb):=by
     have h1:=su (sel f) i q 0 sb c (Ca _) (by simpa using hci) hsel hnd;have e1:aP (fun j=>if j=i then true else sel f j) q 0 sb=aP (sel (f.setIfInBounds i true)) q 0 sb:=iO _ _ q 0 sb fun j _ _=>by
      show _=(f.setIfInBounds i true).getD j false;by_cases ej:j=i
      ·subst ej;simp[Z]
      ·rw[if_neg ej,getD_set_ne false (fun h=>ej h.symm)]
     rw[e1] at h1;exact h1
    have V3:Closed ops.toList (sel (f.setIfInBounds i true)):=by
     intro j oj D J e he O;have J:(f.setIfInBounds i true).getD j false=true:=J;show(f.setIfInBounds i true).getD e.on false=true;by_cases ej:j=i
     ·subst ej
      rw[Mf] at D;simp only[aF] at D;subst D;exact getD_set_true (H e he O)
     ·rw[getD_set_ne false (fun h=>ej h.symm)] at J
      exact getD_set_true (hcl j oj D J e he O)
    have R:(((f.setIfInBounds i true).toList).countP fun b=>!b)≤fuel:=by
     have h5:((f.setIfInBounds i true).toList).countP (fun b=>!b)+1=f.toList.countP fun b=>!b:=by
      rw[Xg];have hil:i<f.toList.length:=by simpa using Z
      have e1:f.toList=f.toList.take i++f.toList[i]::f.toList.drop (i+1):=by
       rw[List.getElem_cons_drop,acn]
      have e2:f.toList.set i true=f.toList.take i++true::f.toList.drop (i+1):=by
       rw[XF,if_pos hil]
      rw[e2];conv=>rhs;rw[e1]
      have e3:f.toList[i]=false:=by simpa using h0'
      rw[e3];simp only[List.countP_append,RO];simp;omega
     omega
    have hbl:base (f.setIfInBounds i true)=sb:=by
     show(if(f.setIfInBounds i true).getD m false=true then G else z)=sb;rw[getD_set_ne false (by omega)];exact hbe
    have next: ∀g' a' w',Inv E B G0 w0 (c.app (aP (sel f) q 0 sb)) g' a' w'→wpAny E.P .any ops Q fuel (f.setIfInBounds i true) a' w':=fun g' a' w' hi'=>
     ih (f.setIfInBounds i true) g' a' w' (by simpa using T) R (fun j A=>by rw[getD_set_ne false (by omega)];exact U j A) V3 (by rw[hbl];exact hi'.alike I8)
    refine⟨o,ho,?_⟩;rcases hst' with⟨hw,eff,hor,_,hr⟩|⟨hw,heq⟩
    ·refine .inl ⟨di r.fr hw,?_⟩
     have N:=Y5 sb Y (sel f);have hdo:=gV (ac:=a) (B:=B) (w:=w) (g:=g) (bx:=pG z.bx k) hE rfl r.gok r.own (r.bxs.sub N) r.hB r.m1 r.eD (fun y=>bR r.fr r.eD y) hor;exact oq r hdo N (fun h=>by cases h) hr fun g' a' w' h' _=>next g' a' w' h'
    ·refine .inr ⟨di r.fr hw,?_⟩
     refine next g _ w ?_;rw[heq];exact r.put o.dst (v:=.tup []) (u:=undef) ⟨[],rfl,.nil⟩
   refine⟨fun hr=>?_,fun i L=>?_⟩
   ·exfalso
    apply OQ
    have S: ∀i,i<ops.size→f.getD i true=true:=by
     intro i;induction i using Nat.strongRecOn with
     |_ i ih=>
      intro r
      cases hl:f.getD i true with
      |true=>rfl
      |false=>
       have hm:i∈Region.ready .any ops f:=by
        rw[mem_ready];refine⟨hl,ops[i],by simp[r],fun e he O=>?_⟩;have h1:=hed i ops[i] (by simp[r]) e (by simpa using he) O;have X:=ih e.on h1 (by omega);have Z:e.on<f.size:=by omega
        simp only[nX,o6 Z,oQ] at X⊢;exact X
       rw[hr] at hm
       cases hm
    intro i L;have h1:=S i (by omega);have Z:i<f.size:=by omega
    simp only[nX,o6 Z,oQ] at h1⊢;exact h1
   obtain⟨h0,o,ho,H⟩:=mem_ready.1 L;have hi':i<ops.size:=(Array.getElem?_eq_some_iff.1 ho).1;have Z:i<f.size:=by omega
   have h0':f[i]=false:=by
    simpa only[nX,o6 Z,oQ] using h0
   have hsel:sel f i=false:=by
    show f.getD i false=false;simp only[nX,o6 Z,oQ,h0']
   have Mf:ops.toList[i]? =some o:=by simpa using ho
   have SG:i<m+1:=by
    refine N9 fun X0=>OQ fun i' hi'm=>?_
    obtain⟨_,hw⟩:=hch i o Mf X0;obtain⟨n0,hwk⟩:=hw i' (by omega)
    cases n0 with
    |zero=>cases hwk
    |succ n=>
     unfold waits at hwk;rw[Mf] at hwk;simp only[BF,bB,yH,fT] at hwk;obtain⟨e2,he2,hb2,h6⟩:=hwk;have h7:=H e2 (by simpa using he2) hb2;rcases h6 with h6|h6
     ·rw[←h6];exact h7
     ·exact iY hcl n e2.on i' h6 h7
   by_cases him2:i=m
   ·
    subst him2;have hoP:o=p:=by rw[Mf] at hp;simpa using hp
    subst hoP;unfold wpOp;rw[ho];simp only;have hwt:Region.wanted o (yielded ops a.tmps)=true:=by unfold Region.wanted;rw[hpg]
    rw[if_pos hwt];refine .inl ?_;have Y:base f=z:=if_neg (by
     have:=hsel;show¬f.getD i false=true;rw[show f.getD i false=false from this];decide)
    rw[Y] at r;have hop2:yh E (aP (sel f) q 0 z).fr z.bx o=some (true,.put k off cells):=by
     rw[wz (fr':=z.fr) (sw fun t VD=>gI _ t q 0 z fun W hm2 e=>?_)]
     ·exact hop
     ·obtain⟨j,A⟩:=BD hm2
      have C:j<(ops.toList.take i).length:=by rw[←M];exact(List.getElem?_eq_some_iff.1 A).1
      have hdj:=F j _ W (gQ C) A;exact hpr t VD _ (Fg C) (by rw[hdj,e])
    have N: ∀j K,aj z.bx j=some K→aj (aP (sel f) q 0 z).bx j=some K:=fun j K A=>OP _ q 0 z j K (hnew j K A) A
    have hdo:=gV (ac:=a) (B:=B) (w:=w) (g:=g) (bx:=z.bx) hE rfl r.gok r.own (r.bxs.sub N) r.hB r.m1 r.eD (fun y=>bR r.fr r.eD y) hop2;refine oq (dr:=true) r hdo N (fun h=>by cases h) (s':=St.put ⟨(aP (sel f) q 0 z).fr,fH (aP (sel f) q 0 z).bx k (over old off cells)⟩ o.dst (.tup [])) ⟨old,N k old hold,hbld,rfl⟩ fun g' a' w' h' _=>?_
    rw[hpd] at h';have h':Inv E B G0 w0 ⟨(aP (sel f) q 0 z).fr,fH (aP (sel f) q 0 z).bx k (over old off cells)⟩ g' a' w':=h';rw[←hput] at h';have R:(((f.setIfInBounds i true).toList).countP fun b=>!b)≤fuel:=by
     have h5:((f.setIfInBounds i true).toList).countP (fun b=>!b)+1=f.toList.countP fun b=>!b:=by
      rw[Xg];have hil:i<f.toList.length:=by simpa using Z
      have e1:f.toList=f.toList.take i++f.toList[i]::f.toList.drop (i+1):=by
       rw[List.getElem_cons_drop,acn]
      have e2:f.toList.set i true=f.toList.take i++true::f.toList.drop (i+1):=by
       rw[XF,if_pos hil]
      rw[e2];conv=>rhs;rw[e1]
      have e3:f.toList[i]=false:=by simpa using h0'
      rw[e3];simp only[List.countP_append,RO];simp;omega
     omega
    have hbl:base (f.setIfInBounds i true)=G:=by
     show(if(f.setIfInBounds i true).getD i false=true then G else z)=G;rw[if_pos];simp[Z]
    have hse:aP (sel (f.setIfInBounds i true)) q 0 G=aP (sel f) q 0 G:=iO _ _ q 0 G fun j _ A=>by
     show(f.setIfInBounds i true).getD j false=f.getD j false;exact getD_set_ne false (by omega)
    refine ih (f.setIfInBounds i true) g' a' w' (by simpa using T) R (fun j A=>by rw[getD_set_ne false (by omega)];exact U j A) ?_ (by rw[hbl,hse];exact h');intro j oj D J e he O;have J:(f.setIfInBounds i true).getD j false=true:=J;show(f.setIfInBounds i true).getD e.on false=true;by_cases ej:j=i
    ·subst ej
     rw[Mf] at D;simp only[aF] at D;subst D;rw[hpa e (by simpa using he)] at O;cases O
    ·rw[getD_set_ne false (fun h=>ej h.symm)] at J
     exact getD_set_true (hcl j oj D J e he O)
   have SG:i<m:=by omega
   obtain⟨o2,ho2,V4⟩:=Ku i L SG;unfold wpOp;rw[ho2];simp only;rcases V4 with⟨hw,h⟩|⟨hw,h⟩
   ·rw[if_pos hw];exact .inl h
   ·rw[if_neg (by rw[hw];decide)];exact h
 have hb00:base (Array.replicate ops.size false)=z:=if_neg (by simp[Mb];split<;>decide);have hinit:Inv E B G0 w0 (aP (sel (Array.replicate ops.size false)) q 0 (base (Array.replicate ops.size false))) g a {w with drawn:=w.drawn+1}:=by
  rw[hb00];have e1: ∀(l:List mD) (k:Nat),aP (sel (Array.replicate ops.size false)) l k z=z:=by
   intro l;induction l with
   |nil=>intro k;rfl
   |cons c l ih=>
    intro k;unfold aP;have:sel (Array.replicate ops.size false) k=false:=by
     show(Array.replicate ops.size false).getD k false=false;simp[Mb];split<;>rfl
    rw[this,if_neg (by decide)];exact ih (k+1)
  rw[e1];exact h.drew
 refine key ops.size (Array.replicate ops.size false) g a _ (by simp) ?_ (fun i _=>by simp[Mb];split<;>rfl) ?_ hinit
 ·exact zl Zx (by simp)
 ·intro j o A hs
  have hs:(Array.replicate ops.size false).getD j false=true:=hs;simp only[nX,Mb] at hs;exfalso;split at hs<;>cases hs
theorem C9 (ops:Array Oper):dQ ops.toList≤ops.size:=by
 have c: ∀l:List Oper,jD l≤l.length:=by
  intro l;induction l with
  |nil=>exact iA 0
  |cons o l a=>
   unfold jD
   cases o.dst with
   |none=>exact Ca _
   |some d=>exact Nat.succ_le_succ a
 have b: ∀(l:List Oper) (k:Nat),D3 l k≤k:=by
  intro l k;induction k with
  |zero=>exact iA 0
  |succ k a=>
   unfold D3
   cases tF l k with
   |true=>exact Nat.le_succ_of_le a
   |false=>exact iA _
 have:=zl (b ops.toList (jD ops.toList)) (c ops.toList);exact zl this (by simp)
def HT (E:Env):List Oper→St→St→Prop
 |[],s,s'=>s'=s
 |o::l,s,s'=>∃v,yh E s.fr s.bx o=some (true,.val v)∧HT E l (s.put o.dst v) s'
theorem KT {α:Type} {E:Env}: ∀(l:List Oper) (s:St) (K:St→Option α) (r:α),ZQ E l s K=some r→ ∃s',HT E l s s'∧K s'=some r
 |[],s,K,r,h=>⟨s,rfl,h⟩
 |o::l,s,K,r,h=>by
  unfold ZQ at h;split at h
  ·rename_i c v a
   rcases jg h with⟨rfl,h⟩|⟨_,h⟩
   ·obtain⟨s',d,b⟩:=KT l _ K r h
    exact⟨s',⟨v,a,d⟩,b⟩
   ·cases h
  ·cases h
theorem ES {P:Program} {ops:Array Oper} {L:List Nat} {l:Nat} (h:qh P ops L l=true): ∃o,ops[l]? =some o∧tK P o=true∧(∀e∈o.after,Region.binds .any e=true→e.on∈L)∧
  ∀(j:Nat) f,ops[j]? =some f→j≠l→(∀e∈o.after,Region.binds .any e=true→e.on≠j)→(∀e∈f.after,Region.binds .any e=true→e.on≠l)→o.apart ops f=true:=by
 unfold qh at h
 cases m:ops[l]? with
 |none=>rw[m] at h;cases h
 |some o=>
  rw[m] at h;simp only[bB] at h;obtain⟨⟨q,n⟩,h3⟩:=h;rw[jJ] at n h3;refine⟨o,rfl,q,fun e d c=>?_,fun j f p k g i=>?_⟩
  ·have:=n e.on (by unfold eH;exact List.mem_map.2 ⟨e,List.mem_filter.2 ⟨by simpa using d,c⟩,rfl⟩)
   simpa using this
  ·have a:=h3 j (List.mem_range.2 (Array.getElem?_eq_some_iff.1 p).1)
   rw[p] at a;simp only[yH,fT,k,false_or,Xj] at a;rcases a with(a|a)|a
   ·obtain⟨e,d,c,b⟩:=gJ a
    exact absurd b (g e (by simpa using d) c)
   ·obtain⟨e,d,c,b⟩:=gJ a
    exact absurd b (i e (by simpa using d) c)
   ·exact a
def ou (P:Program) (ops:Array Oper):List Nat→List Nat→Prop
 |_,[]=>True
 |L,l::r=>l∉L∧qh P ops L l=true∧ou P ops (L++[l]) r
theorem xM {P:Program} {ops:Array Oper}: ∀(r L:List Nat) (l:Nat),ou P ops L r→l∉L++r→qh P ops (L++r) l=true→ou P ops L (r++[l])
 |[],L,l,_,b,a=>by
  rw[Oa] at b a;exact⟨b,a,trivial⟩
 |x::r,L,l,h,b,a=>by
  refine⟨h.1,h.2.1,xM r (L++[x]) l h.2.2 ?_ ?_⟩
  ·rw[Iz];exact b
  ·rw[Iz];exact a
theorem mQ {P:Program} {ops:Array Oper}: ∀(r L:List Nat),ou P ops [] L→(L++r).Nodup→ou P ops [] (lK P ops r L)∧(lK P ops r L).Nodup∧ ∀x∈lK P ops r L,x∈L++r
 |[],L,h,b=>⟨h,by simpa[lK] using b,fun x hx=>by simpa[lK] using hx⟩
 |l::r,L,h,b=>by
  have a:(L++[l]++r).Nodup:=by simpa using b
  unfold lK
  cases i:qh P ops L l with
  |true=>
   rw[gY];have hl:l∉L:=by
    rw[List.nodup_append] at b;intro g;exact b.2.2 l g l sS rfl
   obtain⟨d,f,e⟩:=mQ r (L++[l]) (xM L [] l h (by simpa using hl) (by simpa using i)) a;exact⟨d,f,fun x hx=>by simpa using e x hx⟩
  |false=>
   rw[fQ];have c:(L++r).Nodup:=by
    rw[Iz] at a;exact List.Sublist.nodup (List.Sublist.append_left (List.sublist_append_right [l] r) L) a
   obtain⟨d,f,e⟩:=mQ r L h c;refine⟨d,f,fun x hx=>?_⟩;have:=e x hx;simp only[R9,Xr] at this⊢;rcases this with h|h
   ·exact .inl h
   ·exact .inr (.inr h)
theorem wC (hE:oU E) {ops:Array Oper} {Q:Exit→Act→World→Prop} (G:Region.noSelect ops=true) (hQ: ∀c a d v w,Q (.panic c) (a.put d v) w→Q (.panic c) a w) {g:Gh} {w w2:World} {s':St} {n:Nat}: ∀(r L:List Nat) (s:St) (a:Act) (b:Array Bool),ou E.P ops L r→b.size=ops.size→
  (∀i,b.getD i false=true↔i∈L)→(∀l∈L,l<ops.size)→HT E (r.map fun i=>ops.getD i default) s s'→Inv E B G0 w0 s g a w→
  (∀(f:Array Bool) I,f.size=ops.size→(∀i,f.getD i false=true↔i∈L++r)→Inv E B G0 w0 s' g I w→wpAny E.P .any ops Q n f I w2)→wpAny E.P .any ops Q (n+r.length) b a w2
 |[],L,s,a,b,hh,p,hl,F,t,h,Y=>by
  have e:s'=s:=t;subst e;exact Y b a p (fun i=>by rw[hl,Oa]) h
 |l::r,L,s,a,b,hh,p,hl,F,t,h,Y=>by
  obtain⟨h1,h2,h3⟩:=hh;obtain⟨o,J,m,D,R⟩:=ES h2;rw[yJ,nQ J] at t;obtain⟨v,hv,t⟩:=t;have K:=gV (ac:=a) (B:=B) (w:=w) (g:=g) (bx:=s.bx) hE rfl h.gok h.own h.bxs h.hB h.m1 h.eD (fun y=>bR h.fr h.eD y) hv;obtain⟨u,C,H⟩:=K;have X:=Hy m (fun x hx=>Td hx (fun y=>bR h.fr h.eD y) hv) C;have W:o.guard=none:=by
   unfold tK at m;rw[bB,bB] at m;have:=m.1.2
   cases W:o.guard with
   |none=>rfl
   |some _=>rw[W] at this;cases this
  have U:l<ops.size:=(Array.getElem?_eq_some_iff.1 J).1;have A:l<b.size:=by omega
  have hun:b.getD l true=false:=by
   have: ¬b.getD l false=true:=fun q=>h1 ((hl l).1 q)
   simp only[nX,o6 A,oQ] at this⊢;simpa using this
  have hr:l∈Region.ready .any ops b:=mem_ready.2 ⟨hun,o,J,fun e S M=>(hl _).2 (D e S M)⟩;have z:n+(l::r).length=(n+r.length)+1:=rfl;rw[z];refine wpAny_first J (Region.noSelect_spec G) (fun c a w=>hQ c a o.dst u w) (n+r.length) b a w2 (fun j oj hj O k T=>?_) hr (.inl ⟨by unfold Region.wanted;rw[W],X⟩) ?_
  ·refine R j oj hj O (fun e S M N=>?_) T
   have Z:=(hl e.on).2 (D e S M);rw[N] at Z;have V:j<b.size:=by have:=(Array.getElem?_eq_some_iff.1 hj).1;omega
   simp only[nX,o6 V,oQ] at Z k;rw[Z] at k;cases k
  ·refine wC hE G hQ r (L++[l]) (s.put o.dst v) _ _ h3 (by simpa using p) (fun i=>?_) (fun x hx=>?_) t (h.put o.dst H) (fun f I q1 q2 q3=>Y f I q1 (fun i=>by rw[q2];simp) q3)
   ·by_cases e:l=i
    ·subst e
     simp[A]
    ·rw[getD_set_ne false e,hl]
     simp[e];exact fun q=>absurd q.symm e
   ·simp only[R9,N7] at hx
    rcases hx with hx|rfl
    ·exact F x hx
    ·exact U
def o7:Ex→Exit
 | .norm=> .normal
 | .exit id=> .exit id
 | .ret=> .ret
 | .jN v=> .panic [{v:=(bG v).getD undef,recovered:=false}]
def OT (E:Env) (c:Code) (s:St) (e:Ex) (s':St):Prop:=∀(B:Own) (G0:aI) (w0:World) (g:Gh) (a:Act) (w:World),Inv E B G0 w0 s g a w→ ∀Q:Exit→Act→World→Prop,(∀g' b w',Inv E B G0 w0 s' g' b w'→Q (o7 e) b w')→c.wp E.P Q a w
theorem Da (hE:oU E) {α:Type} {call:Caller α} (V:fM E call) {id:Nat} {ops:Array Oper} {s:St} {K:Ex→St→Option α} {FB:St→Option α} {r:α} (h:OJ E call ops s K FB=some r):
  (∃e s',K e s'=some r∧OT E (.region id ops true) s e s')∨(Region.noSelect ops=true∧Cj ops (eB ops (bU E.P ops))=true∧ ∃s1,HT E ((bU E.P ops).map fun i=>ops.getD i default) s s1∧FB s1=some r):=by
 unfold OJ at h;have hm:dQ ops.toList≤ops.size:=C9 ops;generalize dQ ops.toList=m at h hm
 cases N:(zO s (ops.toList.take m)&&(kR s.fr.length (ops.toList.take m)&&jS ops.toList m&&dh (ops.toList.take m) s)) with
 |false=>
  rw[N,fQ] at h;rcases acM (zO s (ops.toList.take m)&&(kR s.fr.length (ops.toList.take m)&&rT ops m&&dh (ops.toList.take m) s)) with T|T
  ·rw[T,gY] at h
   have C:=(Bool.and_eq_true_iff.1 T).2;have h2:=h;rw[bB,bB] at C;rcases bX V (ops.toList.take m) s _ r h2 with⟨s',R,hs⟩|⟨X,_⟩
   rotate_left
   ·cases X
   obtain⟨h3,h4⟩:=au hs;have hl:(ops.toList.drop m).length=ops.size-m:=by simp
   obtain⟨U,hcl⟩:=by have:=C.1.2;unfold rT at this;rw[bB] at this;exact this
   rcases bX V (ops.toList.drop m) s' _ r h4 with⟨t,y,b⟩|⟨_,v,t,y,b⟩
   ·refine .inl ⟨.norm,t,b,fun B G0 w0 g a w F Q M=>?_⟩
    refine Code.wp_mono (Q:=fun e a w=>match e with| .normal=>Q .normal a w|_=>False) (fun e a w q=>by cases e<;>first|exact q|exact q.elim) ?_;refine Aj hE C.1.1 (late:=FF ops m) (Hz hcl) (fun l hl=>?_) C.2 h3 R hm F fun g' H w' z=>?_
    ·unfold FF at hl
     rw[bB] at hl;exact⟨ig hl.1,hl.2,U,fun c a d v w q=>q.elim⟩
    ·have:=kG hE (Q:=fun e a w=>match e with| .normal=>Q .normal a w|_=>False) (ops.toList.drop m) m s' t g' H w' rfl y z M
     rw[hl] at this;exact this
   ·cases b
  rw[T,fQ] at h;rcases acM (D5 ops.toList (jD ops.toList)&&kR s.fr.length (ops.toList.take (jD ops.toList))&&jS ops.toList (jD ops.toList+1)) with S|S
  ·rw[S,gY] at h
   have C:=S;rw[bB,bB] at C;generalize jD ops.toList=m2 at h C;split at h
   ·rename_i p hp
    split at h
    ·rename_i c k off cs hop
     rcases jg h with⟨rfl,h⟩|⟨_,h⟩
     ·split at h
      ·rename_i old J
       obtain⟨W,h⟩:=au h;rw[bB,bB] at W;rcases bX V (ops.toList.take m2) _ _ r h with⟨s',R,hs⟩|⟨X,_⟩
       rotate_left
       ·cases X
       obtain⟨h3,h4⟩:=au hs;rw[bB] at h3;have hl:(ops.toList.drop (m2+1)).length=ops.size-(m2+1):=by simp
       have O:m2+1≤ops.size:=by
        have:=(List.getElem?_eq_some_iff.1 hp).1;rw[yG] at this;omega
       have hbl:iF (over old off cs)=true→iF old=true:=fun hq=>by
        have:=W.1.1;rw[hq] at this;exact this
       have D: ∀(j:Nat) o,ops.toList[j]? =some o→m2+1≤j→(∀e∈o.after.toList,Region.binds .any e=true→e.on<j)∧ ∀i,i<j→ ∃n,waits ops.toList n j i=true:=fun j o ho hj=>l5 C.2 j o ho hj
       rcases bX V (ops.toList.drop (m2+1)) s' _ r h4 with⟨t,y,b⟩|⟨_,v,t,y,b⟩
       ·refine .inl ⟨.norm,t,b,fun B G0 w0 g a w F Q M=>xK hE C.1.2 hp C.1.1 hop J hbl rfl D W.1.2 W.2 h3.1 h3.2 R O F fun g' H w' z=>?_⟩
        have:=kG hE (Q:=Q) (ops.toList.drop (m2+1)) (m2+1) s' t g' H w' rfl y z M;rw[hl] at this;exact this
       ·refine .inl ⟨.jN v,t,b,fun B G0 w0 g a w F Q M=>xK hE C.1.2 hp C.1.1 hop J hbl rfl D W.1.2 W.2 h3.1 h3.2 R O F fun g' H w' z=>?_⟩
        have:=nP hE (Q:=Q) (ops.toList.drop (m2+1)) (m2+1) s' t g' H w' rfl y z (fun g2 a2 w2 u Z hu=>by
         have:=M g2 a2 w2 Z;simp only[o7,hu,oQ] at this;exact this)
        rw[hl] at this;exact this
      ·cases h
     ·cases h
    ·cases h
   ·cases h
  rw[S,fQ] at h;obtain⟨C,h⟩:=au h;rw[bB] at C;obtain⟨U,G⟩:=C;obtain⟨s1,hht,h⟩:=KT _ s _ r h
  cases f:IZ s1.fr.length (bK ops (eB ops (bU E.P ops))).toList s1 with
  |false=>rw[f,fQ] at h;exact .inr ⟨U,G,s1,hht,h⟩
  |true=>
  rw[f,gY] at h;have hg:=mQ (P:=E.P) (ops:=ops) (List.range ops.size) [] trivial (by simpa using Xn);have hHL:lK E.P ops (List.range ops.size) []=bU E.P ops:=rfl;rw[hHL] at hg;generalize bU E.P ops=L at h hht f G hg;obtain⟨hg1,hg2,hg3⟩:=hg;have hLlt: ∀l∈L,l<ops.size:=fun l hl=>by simpa using hg3 l hl
  have hp1:(eB ops L).Nodup:=List.Sublist.nodup XM Xn;have I: ∀i,i∈eB ops L↔i<ops.size∧i∉L:=fun i=>by unfold eB;rw[UN,Xp];simp
  have hlenL:(eB ops L).length+L.length=ops.size:=by
   have hfl:(List.range ops.size).length=(eB ops L).length+((List.range ops.size).filter fun i=>L.contains i).length:=by
    unfold eB;have: ∀l:List Nat,l.length=(l.filter fun i=>!L.contains i).length+(l.filter fun i=>L.contains i).length:=by
     intro l;induction l with
     |nil=>rfl
     |cons x l ih=>
      rw[Xm,Xm,iy]
      cases L.contains x with
      |true=>simp only[ZK,N6,Fj,if_true,iy];omega
      |false=>simp only[acZ,N6,Fj,if_true,iy];omega
    exact this _
   have hperm:((List.range ops.size).filter fun i=>L.contains i).length=L.length:=by
    refine List.Perm.length_eq ?_;refine(List.perm_ext_iff_of_nodup (List.Sublist.nodup XM Xn) hg2).2 fun x=>?_
    rw[UN,Xp];simp only[Xj];exact⟨fun q=>q.2,fun q=>⟨hLlt x q,q⟩⟩
   rw[XO] at hfl;omega
  generalize eB ops L=p at h f G hp1 I hlenL;have hss:(bK ops p).size=p.length:=Ai p;unfold IZ at f;have O:dQ (bK ops p).toList≤(bK ops p).size:=C9 _;generalize dQ (bK ops p).toList=m2 at h f O;rw[bB,bB,bB] at f;replace f:=And.intro (And.intro f.1.1.2 f.1.2) f.2
  have D: ∀(j:Nat) o,(bK ops p).toList[j]? =some o→m2≤j→(∀e∈o.after.toList,Region.binds .any e=true→e.on<j)∧ ∀i,i<j→(∃n,waits (bK ops p).toList n j i=true)∨(fun _:Nat=>false) i=true:=fun j o ho hj=>⟨(l5 f.1.2 j o ho hj).1,fun i F=> .inl ((l5 f.1.2 j o ho hj).2 i F)⟩
  rcases bX V ((bK ops p).toList.take m2) s1 _ r h with⟨s2,R,hs⟩|⟨X,_⟩
  rotate_left
  ·cases X
  obtain⟨h3,h4⟩:=au hs;have hl:((bK ops p).toList.drop m2).length=(bK ops p).size-m2:=by simp
  rcases bX V ((bK ops p).toList.drop m2) s2 _ r h4 with⟨s3,y,b⟩|⟨_,v,s3,y,b⟩
  ·refine .inl ⟨.norm,s3,b,fun B G0 w0 g a w F Q M=>?_⟩
   refine Code.wp_mono (Q:=fun e a w=>match e with| .normal=>Q .normal a w|_=>False) (fun e a w q=>by cases e<;>first|exact q|exact q.elim) ?_;refine wp_region_any hE.mixed ?_;have hfu:ops.size=p.length+L.length:=by omega
   have hz:wpAny E.P .any ops (fun e a w=>match e with| .normal=>Q .normal a w|_=>False) (p.length+L.length) (Array.replicate ops.size false) a {w with drawn:=w.drawn+1}:=by
    refine wC hE U (fun c a d v w q=>q.elim) (n:=p.length) (w:=w) L [] s a _ hg1 (by simp) (fun i=>?_) (fun l hl=>nomatch hl) hht F fun A H q1 q2 q3=>?_
    ·simp only[nX,Mb,acS,iff_false]
     split<;>simp
    ·refine KS hp1 (fun i F=>((I i).1 F).1) G p.length A (Array.replicate p.length false) H _ q1 (by simp) (fun i F hip=>?_) (fun k Y d=>?_) ?_
     ·refine(q2 i).2 ?_
      rw[IA];exact Classical.byContradiction fun hn=>hip ((I i).2 ⟨F,hn⟩)
     ·have W:p[k]<A.size:=by rw[q1];exact((I _).1 (Fg Y)).1
      have h6: ¬A.getD p[k] false=true:=by rw[q2,IA];exact((I _).1 (Fg Y)).2
      simp only[nX,o6 W,oQ,Mb,Y,if_true] at h6⊢;simpa using h6
     ·have hq:=C8 hE (Q:=fun e a w=>match e with| .normal=>Q .normal a w|_=>False) f.1.1 (late:=fun _=>false) D (fun l hl=>by cases hl) f.2 h3 R O q3 fun g' H w' z=>by
       have:=kG hE (Q:=fun e a w=>match e with| .normal=>Q .normal a w|_=>False) ((bK ops p).toList.drop m2) m2 s2 s3 g' H w' rfl y z M;rw[hl] at this;exact this
      rw[hss] at hq;exact hq
   rw[←hfu] at hz;exact hz
  ·cases b
 |true=>
 rw[N,gY] at h;have C:=(Bool.and_eq_true_iff.1 N).2;have h2:=h;rw[bB,bB] at C;have D: ∀(j:Nat) o,ops.toList[j]? =some o→m≤j→(∀e∈o.after.toList,Region.binds .any e=true→e.on<j)∧ ∀i,i<j→(∃n,waits ops.toList n j i=true)∨(fun _:Nat=>false) i=true:=fun j o ho hj=>⟨(l5 C.1.2 j o ho hj).1,fun i F=> .inl ((l5 C.1.2 j o ho hj).2 i F)⟩
 rcases bX V (ops.toList.take m) s _ r h2 with⟨s',R,hs⟩|⟨X,_⟩
 rotate_left
 ·cases X
 obtain⟨h3,h4⟩:=au hs;have hl:(ops.toList.drop m).length=ops.size-m:=by simp
 rcases bX V (ops.toList.drop m) s' _ r h4 with⟨t,y,b⟩|⟨_,v,t,y,b⟩
 ·refine .inl ⟨.norm,t,b,fun B G0 w0 g a w F Q M=>Aj hE C.1.1 (late:=fun _=>false) D (fun l hl=>by cases hl) C.2 h3 R hm F fun g' H w' z=>?_⟩
  have:=kG hE (Q:=Q) (ops.toList.drop m) m s' t g' H w' rfl y z M;rw[hl] at this;exact this
 ·refine .inl ⟨.jN v,t,b,fun B G0 w0 g a w F Q M=>Aj hE C.1.1 (late:=fun _=>false) D (fun l hl=>by cases hl) C.2 h3 R hm F fun g' H w' z=>?_⟩
  have:=nP hE (Q:=Q) (ops.toList.drop m) m s' t g' H w' rfl y z (fun g2 a2 w2 u Z hu=>by
   have:=M g2 a2 w2 Z;simp only[o7,hu,oQ] at this;exact this)
  rw[hl] at this;exact this
theorem eZ (hE:oU E) {α:Type} {call:Caller α} (z:fM E call) (tot:Rd) (C:tot.ord=false) (fuel:Nat): ∀(c:Code) (s:St) (K:Ex→St→Option α) (r:α),ev E call tot fuel c s K=some r→ ∃e s',K e s'=some r∧OT E c s e s'
 | .skip,s,K,r,h=>⟨.norm,s,h,fun B G0 w0 g a w f Q j=>wp_skip (j g a w f)⟩
 | .region id ops false,s,K,r,h=>by
  unfold ev at h;rcases bX z ops.toList (Ox E.P ops.toList s) _ r h with⟨s',G,L⟩|⟨_,v,s',G,L⟩
  ·refine⟨.norm,s',L,fun B G0 w0 g0 a w p Q j=>?_⟩
   obtain⟨g,f⟩:=uj p E.P ops.toList;have:=kG hE (Q:=Q) ops.toList 0 _ s' g a w (by simp) G f j;refine wp_region ?_;rw[acs];simpa using this
  ·refine⟨.jN v,s',L,fun B G0 w0 g0 a w p Q j=>?_⟩
   obtain⟨g,f⟩:=uj p E.P ops.toList;have:=nP hE (Q:=Q) ops.toList 0 _ s' g a w (by simp) G f (fun g' k w' u d O=>by
    have:=j g' k w' d;simp only[o7,O,oQ] at this;exact this)
   refine wp_region ?_;rw[acs];simpa using this
 | .region id ops true,s,K,r,h=>by
  unfold ev at h;rcases Da (id:=id) hE z h with⟨e,s',S,N⟩|⟨_,_,_,_,h⟩
  ·refine⟨e,s',S,fun B G0 w0 g0 a w p Q j=>?_⟩
   obtain⟨g,f⟩:=uj p E.P ops.toList;exact N B G0 w0 g a w f Q j
  ·rw[C] at h;cases h
 | .seq x y,s,K,r,h=>by
  unfold ev at h;obtain⟨e,o,m,hl⟩:=eZ hE z tot C fuel x s _ r h
  cases e with
  |norm=>
   obtain⟨H,I,F,A⟩:=eZ hE z tot C fuel y o K r m;exact⟨H,I,F,fun B G0 w0 g a w f Q j=>wp_seq (hl B G0 w0 g a w f _ fun g' k w' d=>A B G0 w0 g' k w' d Q j)⟩
  |exit id=>exact⟨.exit id,o,m,fun B G0 w0 g a w f Q j=>wp_seq (hl B G0 w0 g a w f _ fun g' k w' d=>j g' k w' d)⟩
  |ret=>exact⟨.ret,o,m,fun B G0 w0 g a w f Q j=>wp_seq (hl B G0 w0 g a w f _ fun g' k w' d=>j g' k w' d)⟩
  |jN v=>exact⟨.jN v,o,m,fun B G0 w0 g a w f Q j=>wp_seq (hl B G0 w0 g a w f _ fun g' k w' d=>j g' k w' d)⟩
 | .cond c x y,s,K,r,h=>by
  unfold ev at h;split at h
  ·rename_i t G
   have M: ∀{B G0 w0 g a w},Inv E B G0 w0 s g a w→a.eval c=.bool t:=fun {B G0 w0 g a w} f=>by
    have:=bR f.fr f.eD c;rw[G,bn] at this;exact this
   rcases jg h with⟨rfl,h⟩|⟨rfl,h⟩
   ·obtain⟨e,o,m,hl⟩:=eZ hE z tot C fuel x s K r h
    exact⟨e,o,m,fun B G0 w0 g a w f Q j=>wp_cond (M f) (hl B G0 w0 g a w f Q j)⟩
   ·obtain⟨e,o,m,hl⟩:=eZ hE z tot C fuel y s K r h
    exact⟨e,o,m,fun B G0 w0 g a w f Q j=>wp_cond (M f) (hl B G0 w0 g a w f Q j)⟩
  ·cases h
 | .block id b,s,K,r,h=>by
  unfold ev at h;obtain⟨e,o,m,hl⟩:=eZ hE z tot C fuel b s _ r h
  cases e with
  |norm=>exact⟨.norm,o,m,fun B G0 w0 g a w f Q j=>wp_block (hl B G0 w0 g a w f _ fun g' k w' d=>j g' k w' d)⟩
  |ret=>exact⟨.ret,o,m,fun B G0 w0 g a w f Q j=>wp_block (hl B G0 w0 g a w f _ fun g' k w' d=>j g' k w' d)⟩
  |jN v=>exact⟨.jN v,o,m,fun B G0 w0 g a w f Q j=>wp_block (hl B G0 w0 g a w f _ fun g' k w' d=>j g' k w' d)⟩
  |exit i=>
   have m:(bif i==id then K .norm o else K (.exit i) o)=some r:=m;by_cases q:i=id
   ·have:(i==id)=true:=by simpa using q
    rw[this] at m;refine⟨.norm,o,m,fun B G0 w0 g a w f Q j=>wp_block (hl B G0 w0 g a w f _ fun g' k w' d=>?_)⟩;show(if i=id then Q .normal k w' else Q (.exit i) k w');rw[if_pos q];exact j g' k w' d
   ·have:(i==id)=false:=by simpa using q
    rw[this] at m;refine⟨.exit i,o,m,fun B G0 w0 g a w f Q j=>wp_block (hl B G0 w0 g a w f _ fun g' k w' d=>?_)⟩;show(if i=id then Q .normal k w' else Q (.exit i) k w');rw[if_neg q];exact j g' k w' d
 | .loop b,s,K,r,h=>by
  unfold ev at h;generalize vI tot.tot tot.US s.fr.length b=mask at h;have J: ∀(n:Nat) (s:St),wT b (fun s K=>ev E call tot fuel b s K) mask K n s=some r→ ∃e s',K e s'=some r∧ ∀(B:Own) (G0:aI) (w0:World) (g:Gh) (a:Act) (w:World),Inv E B G0 w0 s g a w→ ∀Q:Exit→Act→World→Prop,(∀g' k w',Inv E B G0 w0 s' g' k w'→Q (o7 e) k w')→Code.rounds E.P b Q n a w:=by
   intro n;induction n with
   |zero=>intro s h;cases h
   |succ n R=>
    intro s h;unfold wT at h;simp only[OO] at h;obtain⟨e,o,m,hl⟩:=eZ hE z tot C fuel b _ _ r h
    cases e with
    |norm=>
     obtain⟨H,I,F,A⟩:=R _ m;refine⟨H,I,F,fun B G0 w0 g a w f Q j=>?_⟩;rw[rounds_succ];refine hl B G0 w0 g a w f _ fun g' k w' d=>?_
     obtain⟨g1,D⟩:=d.head mask;exact A B G0 w0 g1 k w' D Q j
    |exit id=>
     refine⟨.exit id,o,m,fun B G0 w0 g a w f Q j=>?_⟩;rw[rounds_succ];exact hl B G0 w0 g a w f _ fun g' k w' d=>j g' k w' d
    |ret=>
     refine⟨.ret,o,m,fun B G0 w0 g a w f Q j=>?_⟩;rw[rounds_succ];exact hl B G0 w0 g a w f _ fun g' k w' d=>j g' k w' d
    |jN v=>
     refine⟨.jN v,o,m,fun B G0 w0 g a w f Q j=>?_⟩;rw[rounds_succ];exact hl B G0 w0 g a w f _ fun g' k w' d=>j g' k w' d
  obtain⟨e,s',m,hl⟩:=J fuel _ h;refine⟨e,s',m,fun B G0 w0 g a w f Q j=>wp_loop_rounds fuel ?_⟩;obtain⟨g1,D⟩:=f.head mask;exact hl B G0 w0 g1 a w D Q j
 | .exit id,s,K,r,h=>⟨.exit id,s,h,fun B G0 w0 g a w f Q j=>wp_exit (j g a w f)⟩
 | .label l,s,K,r,h=>⟨.norm,s,h,fun B G0 w0 g a w f Q j=>wp_label (j g a w f)⟩
 | .ret,s,K,r,h=>⟨.ret,s,h,fun B G0 w0 g a w f Q j=>wp_ret (j g a w f)⟩
 | .rangeFunc ..,s,K,r,h=>by unfold ev at h;cases h
 | .scope _,s,K,r,h=>by unfold ev at h;cases h
 | .goto _,s,K,r,h=>by unfold ev at h;cases h
 | .refuse _,s,K,r,h=>by unfold ev at h;cases h
theorem HV (P:Program) (ops:Array Oper):ou P ops [] (bU P ops)∧(∀l∈bU P ops,l<ops.size)∧(eB ops (bU P ops)).Nodup∧(∀i,i∈eB ops (bU P ops)↔i<ops.size∧i∉bU P ops)∧(eB ops (bU P ops)).length+(bU P ops).length=ops.size:=by
 have c:=mQ (P:=P) (ops:=ops) (List.range ops.size) [] trivial (by simpa using Xn);have d:lK P ops (List.range ops.size) []=bU P ops:=rfl;rw[d] at c;generalize bU P ops=L at c⊢;obtain⟨g,h,f⟩:=c;have a: ∀l∈L,l<ops.size:=fun l hl=>by simpa using f l hl
 refine⟨g,a,List.Sublist.nodup XM Xn,fun i=>by unfold eB;rw[UN,Xp];simp,?_⟩;have b:(List.range ops.size).length=(eB ops L).length+((List.range ops.size).filter fun i=>L.contains i).length:=by
  unfold eB;have: ∀l:List Nat,l.length=(l.filter fun i=>!L.contains i).length+(l.filter fun i=>L.contains i).length:=by
   intro l;induction l with
   |nil=>rfl
   |cons x l j=>
    rw[Xm,Xm,iy]
    cases L.contains x with
    |true=>simp only[ZK,N6,Fj,if_true,iy];omega
    |false=>simp only[acZ,N6,Fj,if_true,iy];omega
  exact this _
 have e:((List.range ops.size).filter fun i=>L.contains i).length=L.length:=by
  refine List.Perm.length_eq ?_;refine(List.perm_ext_iff_of_nodup (List.Sublist.nodup XM Xn) h).2 fun x=>?_
  rw[UN,Xp];simp only[Xj];exact⟨fun q=>q.2,fun q=>⟨a x q,q⟩⟩
 rw[XO] at b;omega
theorem M4 (hE:oU E) {ops:Array Oper} {Q:Exit→Act→World→Prop} (u:Region.noSelect ops=true) (j:Cj ops (eB ops (bU E.P ops))=true) (J: ∀c a d v w,Q (.panic c) (a.put d v) w→Q (.panic c) a w) {g:Gh} {a:Act} {w x:World} {s G:St}
  (q:HT E ((bU E.P ops).map fun i=>ops.getD i default) s G) (m:Inv E B G0 w0 s g a w)
  (A: ∀h,Inv E B G0 w0 G g h w→wpAny E.P .any (bK ops (eB ops (bU E.P ops))) Q (bK ops (eB ops (bU E.P ops))).size (Array.replicate (bK ops (eB ops (bU E.P ops))).size false) h x):
  wpAny E.P .any ops Q ops.size (Array.replicate ops.size false) a x:=by
 obtain⟨t,z,o,e,D⟩:=HV E.P ops;rw[Ai] at A;generalize bU E.P ops=L at*;generalize eB ops L=p at*;have y:ops.size=p.length+L.length:=by omega
 have F:wpAny E.P .any ops Q (p.length+L.length) (Array.replicate ops.size false) a x:=by
  refine wC hE u J (n:=p.length) (w:=w) L [] s a _ t (by simp) (fun i=>?_) (fun l hl=>nomatch hl) q m fun b h C I M=>?_
  ·simp only[nX,Mb,acS,iff_false]
   split<;>simp
  ·refine KS o (fun i m=>((e i).1 m).1) j p.length b (Array.replicate p.length false) h _ C (by simp) (fun i m r=>?_) (fun k f d=>?_) (A h M)
   ·refine(I i).2 ?_
    rw[IA];exact Classical.byContradiction fun N=>r ((e i).2 ⟨m,N⟩)
   ·have K:p[k]<b.size:=by rw[C];exact((e _).1 (Fg f)).1
    have H: ¬b.getD p[k] false=true:=by rw[I,IA];exact((e _).1 (Fg f)).2
    simp only[nX,o6 K,oQ,Mb,f,if_true] at H⊢;simpa using H
 rw[←y] at F;exact F
theorem M5 {α:Type} {a b:Option α} {r:α} (h:both a b=some r):a=some r∧b=some r:=by
 unfold both at h;by_cases e:a=b
 ·rw[if_pos e] at h
  exact⟨h,e▸h⟩
 ·rw[if_neg e] at h;cases h
theorem jX {α:Type} (a:Option α):both a a=a:=by unfold both;rw[if_pos rfl]
theorem qA {α:Type} {f:Nat→Option α} {r:α}: ∀{l:List Nat},Oz f l=some r→ ∀i∈l,f i=some r
 |[],h,i,a=>nomatch a
 |[x],h,i,a=>by
  rcases List.mem_singleton.1 a with rfl;exact h
 |x::y::l,h,i,a=>by
  have h:both (f x) (Oz f (y::l))=some r:=h;obtain⟨c,b⟩:=M5 h;rcases List.mem_cons.1 a with rfl|a
  ·exact c
  ·exact qA b i a
theorem KU {ops:Array Oper} {a:Array Bool} {L:List Nat} (n:a.size=ops.size) (hl: ∀i,a.getD i false=true↔i∈L) (i:Nat):i∈Region.ready .any ops a↔i∈D6 ops.toList L:=by
 unfold D6;rw[mem_ready,UN,Xp,yG];constructor
 ·rintro⟨m,o,d,l⟩
  have b:i<ops.size:=(Array.getElem?_eq_some_iff.1 d).1;have k:i<a.size:=by omega
  refine⟨b,?_⟩;have g:i∉L:=fun q=>by
   have:=(hl i).2 q;simp only[nX,o6 k,oQ] at m this;rw[m] at this;cases this
  have c:ops.toList[i]? =some o:=by simpa using d
  rw[c,bB];refine⟨by simpa using g,?_⟩;simp only[jJ,Xj];intro x hx;obtain⟨e,j,f,rfl⟩:=gJ hx;exact(hl _).1 (l e (by simpa using j) f)
 ·rintro⟨b,h⟩
  have k:i<a.size:=by omega
  have d:ops[i]? =some (ops[i]'b):=by simp[b]
  have c:ops.toList[i]? =some (ops[i]'b):=by simp[b]
  rw[c,bB] at h;simp only[jJ,Xj] at h;have g:i∉L:=by simpa using h.1
  refine⟨?_,_,d,fun e j f=>(hl _).2 (h.2 e.on (by unfold eH;exact List.mem_map.2 ⟨e,List.mem_filter.2 ⟨by simpa using j,f⟩,rfl⟩))⟩;have: ¬a.getD i false=true:=fun q=>g ((hl i).1 q)
  simp only[nX,o6 k,oQ] at this⊢;simpa using this
theorem M6 (hE:oU E) {α:Type} {call:Caller α} (hc:fM E call) {ops:Array Oper} {Q:Exit→Act→World→Prop} {K:St→Option α} {r:α}: ∀(n:Nat) (L:List Nat) (s:St) (c:Array Bool) (g:Gh) (a:Act) (w:World),c.size=ops.size→
  (∀i,c.getD i false=true↔i∈L)→(c.toList.countP fun b=>!b)≤n→Ck E call ops.toList K (n+1) L s=some r→Inv E B G0 w0 s g a w→
  (∀s' g' k w',K s'=some r→Inv E B G0 w0 s' g' k w'→Q .normal k w')→wpAny E.P .any ops Q n c a w:=by
 have p: ∀(n:Nat) (L:List Nat) (s:St) (c:Array Bool),c.size=ops.size→(∀i,c.getD i false=true↔i∈L)→Ck E call ops.toList K (n+1) L s=some r→Region.ready .any ops c=[]→K s=some r:=by
  intro n L s c f hl h t;unfold Ck at h;have:D6 ops.toList L=[]:=List.eq_nil_iff_forall_not_mem.2 fun i d=>by
   have:=(KU f hl i).2 d;rw[t] at this;cases this
  rw[this] at h;exact h
 intro n;induction n with
 |zero=>
  intro L s c g a w f hl J h d I;have t:Region.ready .any ops c=[]:=List.eq_nil_iff_forall_not_mem.2 fun i d=>by
   obtain⟨H,o,G,_⟩:=mem_ready.1 d;have W:i<ops.size:=(Array.getElem?_eq_some_iff.1 G).1;have C:i<c.size:=by omega
   have Z:=List.countP_eq_zero.1 (Nat.le_zero.1 J) c[i] (by rw[Zz];exact Array.getElem_mem C);simp only[nX,o6 C,oQ] at H;rw[H] at Z;exact Z rfl
  exact⟨t,I s g a w (p 0 L s c f hl h t) d⟩
 |succ n ih=>
  intro L s c g a w f hl hcn h d I;refine⟨fun t=>I s g a w (p (n+1) L s c f hl h t) d,fun i F=>?_⟩;have m:=(KU f hl i).1 F;unfold Ck at h;split at h
  ·rename_i z;rw[z] at m;cases m
  ·rename_i j l z
   rw[z] at m;have Y:=qA h i m;obtain⟨H,o,G,_⟩:=mem_ready.1 F;have W:i<ops.size:=(Array.getElem?_eq_some_iff.1 G).1;have C:i<c.size:=by omega
   have U:ops.toList[i]? =some o:=by simpa using G
   simp only[U] at Y;rcases bX hc [o] s _ r Y with⟨s',N,X⟩|⟨_,v,s',_,X⟩
   rotate_left
   ·cases X
   have A: ∀x,(c.setIfInBounds i true).getD x false=true↔x∈i::L:=fun x=>by
    by_cases e:i=x
    ·subst e
     simp[C]
    ·rw[getD_set_ne false e,hl,Xr]
     exact⟨.inr,fun q=>q.resolve_left fun q=>e q.symm⟩
   have D:((c.setIfInBounds i true).toList.countP fun b=>!b)≤n:=by
    have T:c[i]=false:=by simpa only[nX,o6 C,oQ] using H
    rw[Xg,List.countP_set (by simpa using C)];simp only[Array.getElem_toList,T,acZ,if_true,ZK,N6,Fj,Ob];omega
   have next: ∀g' k w',Inv E B G0 w0 s' g' k w'→wpAny E.P .any ops Q n (c.setIfInBounds i true) k w':=fun g' k w' O=>
    ih (i::L) s' _ g' k w' (by simpa using f) A D X O I
   cases N with
   |cons S N=>
    cases N;unfold wpOp;rw[G];simp only;rcases S with⟨R,eff,V,_,t⟩|⟨R,rfl⟩
    ·rw[if_pos (di d.fr R)]
     refine .inl ?_;have M:=gV (ac:=a) (B:=B) (w:=w) (g:=g) hE rfl d.gok d.own d.bxs d.hB d.m1 d.eD (fun y=>bR d.fr d.eD y) V;exact oq d M (fun _ _ h=>h) (fun _=>rfl) t fun g' k w' h' _=>next g' k w' h'
    ·rw[if_neg (by rw[di d.fr R];decide)]
     exact next g _ w (d.put o.dst (v:=.tup []) (u:=undef) ⟨[],rfl,.nil⟩)
theorem jF (hE:oU E) {α:Type} {call:Caller α} (z:fM E call) (tot:Rd) (fuel:Nat): ∀(c:Code) (s:St) (K:Ex→St→Option α) (r:α),ev E call tot fuel c s K=some r→ ∀(g:Gh) (a:Act) (w:World),Inv E B G0 w0 s g a w→
  ∀Q:Exit→Act→World→Prop,(∀e s' g' k w',K e s'=some r→Inv E B G0 w0 s' g' k w'→Q (o7 e) k w')→c.wp E.P Q a w
 | .skip,s,K,r,h,g,a,w,m,Q,j=>wp_skip (j .norm s g a w h m)
 | .region id ops false,s,K,r,h,g,a,w,m,Q,j=>by
  obtain⟨e,s',o,hl⟩:=eZ hE z ⟨[],[],false⟩ rfl fuel (.region id ops false) s K r h;exact hl B G0 w0 g a w m Q fun g' k w' f=>j e s' g' k w' o f
 | .region id ops true,s,K,r,h,g0,a,w,F,Q,j=>by
  unfold ev at h;obtain⟨g,m⟩:=uj F E.P ops.toList;rcases Da (id:=id) hE z h with⟨e,s',o,hl⟩|⟨H,C,p,D,h⟩
  ·exact hl B G0 w0 g a w m Q fun g' k w' f=>j e s' g' k w' o f
  ·obtain⟨_,h⟩:=au h
   refine Code.wp_mono (Q:=fun e a w=>match e with| .normal=>Q .normal a w|_=>False) (fun e a w q=>by cases e<;>first|exact q|exact q.elim) ?_;refine wp_region_any hE.mixed ?_;refine M4 hE H C (fun c a d v w q=>q.elim) D m fun k f=>?_
   refine M6 hE z (bK ops (eB ops (bU E.P ops))).size [] p _ g k _ (by simp) (fun i=>?_) (zl Zx (by simp)) h f.drew fun s' g' k w' o f=>j .norm s' g' k w' o f
   simp only[nX,Mb,acS,iff_false];split<;>simp
 | .seq x y,s,K,r,h,g,a,w,m,Q,j=>by
  unfold ev at h;refine wp_seq (jF hE z tot fuel x s _ r h g a w m _ fun e p g' k w' o f=>?_)
  cases e with
  |norm=>exact jF hE z tot fuel y p K r o g' k w' f Q j
  |exit id=>exact j (.exit id) p g' k w' o f
  |ret=>exact j .ret p g' k w' o f
  |jN v=>exact j (.jN v) p g' k w' o f
 | .cond c x y,s,K,r,h,g,a,w,m,Q,j=>by
  unfold ev at h;split at h
  ·rename_i t J
   have I:a.eval c=.bool t:=by
    have:=bR m.fr m.eD c;rw[J,bn] at this;exact this
   rcases jg h with⟨rfl,h⟩|⟨rfl,h⟩
   ·exact wp_cond I (jF hE z tot fuel x s K r h g a w m Q j)
   ·exact wp_cond I (jF hE z tot fuel y s K r h g a w m Q j)
  ·cases h
 | .block id b,s,K,r,h,g,a,w,m,Q,j=>by
  unfold ev at h;refine wp_block (jF hE z tot fuel b s _ r h g a w m _ fun e p g' k w' o f=>?_)
  cases e with
  |norm=>exact j .norm p g' k w' o f
  |ret=>exact j .ret p g' k w' o f
  |jN v=>exact j (.jN v) p g' k w' o f
  |exit i=>
   have o:(bif i==id then K .norm p else K (.exit i) p)=some r:=o;by_cases u:i=id
   ·have:(i==id)=true:=by simpa using u
    rw[this] at o;show(if i=id then Q .normal k w' else Q (.exit i) k w');rw[if_pos u];exact j .norm p g' k w' o f
   ·have:(i==id)=false:=by simpa using u
    rw[this] at o;show(if i=id then Q .normal k w' else Q (.exit i) k w');rw[if_neg u];exact j (.exit i) p g' k w' o f
 | .loop b,s,K,r,h,g,a,w,m,Q,j=>by
  unfold ev at h;generalize vI tot.tot tot.US s.fr.length b=mask at h;have G: ∀(n:Nat) (s:St),wT b (fun s K=>ev E call tot fuel b s K) mask K n s=some r→ ∀(g:Gh) (a:Act) (w:World),Inv E B G0 w0 s g a w→Code.rounds E.P b Q n a w:=by
   intro n;induction n with
   |zero=>intro s h;cases h
   |succ n L=>
    intro s h g a w m;unfold wT at h;simp only[OO] at h;rw[rounds_succ];refine jF hE z tot fuel b _ _ r h g a w m _ fun e p g' k w' o f=>?_
    cases e with
    |norm=>
     obtain⟨g1,A⟩:=f.head mask;exact L _ o g1 k w' A
    |exit id=>exact j (.exit id) p g' k w' o f
    |ret=>exact j .ret p g' k w' o f
    |jN v=>exact j (.jN v) p g' k w' o f
  refine wp_loop_rounds fuel ?_;obtain⟨g1,A⟩:=m.head mask;exact G fuel _ h g1 a w A
 | .exit id,s,K,r,h,g,a,w,m,Q,j=>wp_exit (j (.exit id) s g a w h m)
 | .label l,s,K,r,h,g,a,w,m,Q,j=>wp_label (j .norm s g a w h m)
 | .ret,s,K,r,h,g,a,w,m,Q,j=>wp_ret (j .ret s g a w h m)
 | .rangeFunc ..,s,K,r,h,_,_,_,_,_,_=>by unfold ev at h;cases h
 | .scope _,s,K,r,h,_,_,_,_,_,_=>by unfold ev at h;cases h
 | .goto _,s,K,r,h,_,_,_,_,_,_=>by unfold ev at h;cases h
 | .refuse _,s,K,r,h,_,_,_,_,_,_=>by unfold ev at h;cases h
def kS:V→Bool
 | .tup _=>false
 | .fn _ _=>false
 | .box _ _=>false
 | .eptr _ _ _ _ _ _=>false
 | .slz _ _ _ _ _ _ _ _ _ _=>false
 | .epz _ _ _ _ _=>false
 | .old _=>false
 |_=>true
theorem uP {g:Gh} {w:World} {x:V} {v:Value} (z:E9 B g w) (hx:x.single=true) (d:kS x=true) (h:aX g x v):jO g.G w B.m x v:=by
 cases x with
 |sl e sh E xs=>
  cases E with
  |none=>exact h
  |some L=>
   obtain⟨hL,A⟩:=h;obtain⟨u,o⟩:=z.1 L v e _ hL;refine⟨u,?_⟩;rcases A with⟨j,hx⟩|⟨b,cap,l,j,i,H,hl,hE⟩
   ·exact .inl ⟨j,hx⟩
   ·rcases o with o|⟨I,n,t,q,K,a,r,C,J,p,s,y,D⟩
    ·rw[j] at o;cases o
    ·rw[j] at a
     simp only[Value.slice.injEq,aF,Addr.mk.injEq] at a;obtain⟨⟨rfl,_,_⟩,F,rfl⟩:=a;exact .inr ⟨b,cap,q,l,j,r.1,C,i,p,s,H,hl,hE⟩
 |box k off=>cases d
 |eptr _ _ _ _ _ _=>cases d
 |old _=>cases d
 |slz _ _ _ _ _ _ _ _ _ _=>cases d
 |epz _ _ _ _ _=>cases d
 |tup vs=>cases hx
 |fn f c=>cases hx
 |_=>exact h
theorem l6 {x y:V} (h:x.FH=some y):x.deep=some y∧kS y=true:=by
 cases x with
 |fn f c=>cases h
 |_=>refine⟨h,?_⟩;simp[V.FH,V.deep] at h<;>subst h<;>rfl
def rJ (a:Act):ResultVar→Sem Value
 | .tmp t=>pure (a.tmps.getD t undef)
 | .cell c t=>do loadVar t (←asAddr (a.tmps.getD c undef))
theorem uQ {g:Gh} {x y:V} {v:Value} (h:aB g x v) (a:x.FH=some y):aX g y v∧kS y=true:=by
 obtain⟨a,c⟩:=l6 a;have b:=iI a;exact⟨aL (by cases y<;>first|rfl|cases c) (bA b (lq h a)),c⟩
theorem HY {s:St} {g:Gh} {a:Act} {w w0:World} (z:Inv E B G0 w0 s g a w) {x:ResultVar} {y:V} (h:qR E.P s x=some y): ∃u,(rJ a x).run E.P w=.ok u w∧aX g y u∧kS y=true:=by
 cases x with
 |tmp t=>
  have d:aB g (slot s.fr t).wP (a.tmps.getD t undef):=rU (bR z.fr z.eD (.tmp t));refine⟨a.tmps.getD t undef,rfl,?_⟩;simp only[qR] at h;split at h
  ·rename_i e sh X xs m
   simp only[aF] at h;subst h;rw[m] at d;exact⟨aL rfl d,rfl⟩
  ·exact uQ d h
 |cell c t=>
  have d:aB g (slot s.fr c) (a.tmps.getD c undef):=bR z.fr z.eD (.tmp c);simp only[qR] at h;split at h
  ·rename_i k off m
   rw[m] at d;obtain⟨b,Q,i⟩:=cu.1 d;have l:(rJ a (.cell c t)).run E.P w=(loadVar t ⟨b,off,none⟩).run E.P w:=by
    simp only[rJ,Sem.run_bind,i,Go.asAddr,Sem.run_pure,Result.andThen_ok]
   split at h
   ·rename_i cells hl
    obtain⟨W,F,e,p,_,S,q,_,_⟩:=z.bxs.1 k cells hl;rw[Q] at p;simp only[aF] at p;subst p;have f: ∀(j:Nat) v,F.toList[j]? =some v→w.cell? ⟨b,j,none⟩=some v:=by
     intro j v i;simp only[World.cell?,S];simpa using i
    split at h
    ·rename_i o
     split at h
     ·rename_i n T
      split at h
      ·rename_i R H
       simp only[aF] at h;subst h;obtain⟨N,D⟩:=Cu H q;have r:((F.toList.drop off).take n).length=n:=by rw[B6,zk];omega
       obtain⟨U,O,C⟩:=wW o;obtain⟨Y,L,J⟩:=jr T;have:=run_loadVar_mid (P:=E.P) w b off t ((F.toList.drop off).take n) U (fun j v i=>by
        rw[Iw] at i;split at i
        ·rw[IB] at i;exact f _ _ i
        ·cases i) O C (by rw[L,r];simp[J])
       refine⟨_,l.trans this,?_,rfl⟩;show aJ g.G (.agg R) _;unfold aJ;exact⟨_,rfl,(dI _ _).2 D⟩
      ·cases h
     ·cases h
    ·rename_i o
     obtain⟨N,D⟩:=au h;have A:off<cells.length:=by simpa[zm] using N
     obtain⟨v,I,K⟩:=q.get (getD_some A);have M:(loadVar t ⟨b,off,none⟩).run E.P w=.ok v w:=by
      simp only[loadVar,Sem.run_bind,j4 o,Result.andThen_ok,N6,Fj,run_load,f _ _ I]
     exact⟨v,l.trans M,uQ K D⟩
    ·cases h
   ·cases h
  ·cases h
theorem xN {s:St} {x:ResultVar} {y:V} (h:qR E.P s x=some y):y.plain=true∨(∃e sh o xs,y=.sl e sh o xs)∨ ∃b,y=.agg b:=by
 cases x with
 |tmp t=>
  simp only[qR] at h;split at h
  ·simp only[aF] at h;exact .inr (.inl ⟨_,_,_,_,h.symm⟩)
  ·exact .inl (iI (l6 h).1)
 |cell c t=>
  simp only[qR] at h;split at h
  ·split at h
   ·split at h
    ·split at h
     ·split at h
      ·simp only[aF] at h;exact .inr (.inr ⟨_,h.symm⟩)
      ·cases h
     ·cases h
    ·obtain⟨_,a⟩:=au h
     exact .inl (iI (l6 a).1)
    ·cases h
   ·cases h
  ·cases h
theorem M7 {s:St} {x:ResultVar} {y:V} (h:qR E.P s x=some y):kS y=true:=by
 cases x with
 |tmp t=>
  simp only[qR] at h;split at h
  ·simp only[aF] at h;subst h;rfl
  ·exact(l6 h).2
 |cell c t=>
  simp only[qR] at h;split at h
  ·split at h
   ·split at h
    ·split at h
     ·split at h
      ·simp only[aF] at h;subst h;rfl
      ·cases h
     ·cases h
    ·obtain⟨_,a⟩:=au h
     exact(l6 a).2
    ·cases h
   ·cases h
  ·cases h
theorem nk {s:St} {g:Gh} {a:Act} {w w0:World} (d:Inv E B G0 w0 s g a w): ∀(c:List ResultVar) (vs:af),nD E.P s c=some vs→
  ∃us:List Value,(c.mapM (rJ a)).run E.P w=.ok us w∧PW (fun x v=>aX g x v∧kS x=true) vs us
 |[],vs,h=>by
  simp only[nD,aF] at h;subst h;exact⟨[],rfl,.nil⟩
 |x::c,vs,h=>by
  simp only[nD] at h;split at h
  ·cases h
  ·rename_i y i
   split at h
   ·cases h
   ·rename_i b j
    simp only[aF] at h;subst h;obtain⟨us,k,e⟩:=nk d c b j;obtain⟨u,l,f⟩:=HY d i;refine⟨u::us,?_,.cons f e⟩;rw[ZI];simp only[Sem.run_bind,l,Sem.run_pure,Result.andThen_ok,k]
theorem nS {g:Gh} {w:World} (d:E9 B g w): ∀(vs:af) (us:List Value) (b:Bool),PW (fun x v=>aX g x v∧kS x=true) vs us→PW (jO g.G w B.m) (fC 0 b vs) us∧(fC 0 b vs).countP nZ≤(if b then 1 else 0)
 |[],us,b,h=>by rw[h.bH];cases b<;>exact⟨.nil,by simp[fC]⟩
 |x::vs,us,b,h=>by
  obtain⟨u,t,rfl,⟨j,i⟩,h3⟩:=h.cons_inv;have a:x.single=true:=by cases x<;>first|rfl|cases i
  have f:=uP d a i j
  cases x with
  |sl e sh l xs=>
   cases l with
   |some L=>
    cases b with
    |true=>
     obtain⟨p,c⟩:=nS d vs t false h3;refine⟨.cons f p,?_⟩;show(V.sl e sh (some 0) xs::fC 0 false vs).countP nZ≤1;rw[RO];simp only[nZ,if_true];simp at c;have:List.countP nZ (fC 0 false vs)=0:=by
      rw[List.countP_eq_zero];intro y k;have:=c y k;simpa using this
     omega
    |false=>
     obtain⟨p,c⟩:=nS d vs t false h3;refine⟨.cons (show aJ g.G (V.sl e sh none xs) u from lM j.2) p,?_⟩;show(V.sl e sh none xs::fC 0 false vs).countP nZ≤_;rw[RO];simpa[nZ] using c
   |none=>
    obtain⟨p,c⟩:=nS d vs t b h3;have n:fC 0 b (V.sl e sh none xs::vs)=V.sl e sh none xs::fC 0 b vs:=by cases b<;>rfl
    rw[n];refine⟨.cons f p,?_⟩;rw[RO];simpa[nZ] using c
  |_=>
   obtain⟨p,c⟩:=nS d vs t b h3
   cases b<;>exact⟨.cons f p,by simp only[fC];rw[RO];simpa[nZ] using c⟩
def tq:List Value→Value
 |[u]=>u
 |us=> .tuple us.toArray
theorem kK {fn:Func} {a:Act} {w:World} {us:List Value} (h:(fn.results.toList.mapM (rJ a)).run E.P w=.ok us w):
  (results fn a.tmps).run E.P w=.ok (tq us) w:=by
 have b:results fn a.tmps=(do let vs←fn.results.mapM (rJ a);pure (if h:vs.size=1 then vs[0] else .tuple vs)):=by
  unfold results;congr 1
 rw[b,Array.mapM_eq_mapM_toList];simp only[Sem.run_bind,Sem.run_map,h,Result.andThen_ok,Sem.run_pure];congr 1
 match us with
 |[]=>simp[tq]
 |[u]=>simp[tq]
 |u::v::l=>simp[tq]
theorem Te {g:Gh} {w:World} (e:E9 B g w) {vs:af} {us:List Value} (h:PW (fun x v=>aX g x v∧kS x=true) vs us):d9 g.G w B.m (FI vs) (tq us):=by
 have a: ∀(vs:af) (us:List Value),PW (fun x v=>aX g x v∧kS x=true) vs us→d9 g.G w B.m (.tup (fC 0 true vs)) (.tuple us.toArray):=fun vs us h=>by
  obtain⟨p,c⟩:=nS e vs us true h;exact⟨us,rfl,p,by simpa using c⟩
 match vs,us,h with
 |[],us,h=>rw[h.bH];exact a [] [] .nil
 |[x],us,h=>
  obtain⟨u,t,rfl,⟨i,d⟩,h3⟩:=h.cons_inv;rw[h3.bH];have b:x.single=true:=by cases x<;>first|rfl|cases d
  have f:=uP e b d i;show d9 g.G w B.m x u
  cases x with
  |tup _=>cases d
  |_=>exact f
 |x::y::vs,us,h=>
  have hl:=h.1;match us,hl with
  |u::v::us,_=>exact a _ _ h
end
end Nt.Ev
