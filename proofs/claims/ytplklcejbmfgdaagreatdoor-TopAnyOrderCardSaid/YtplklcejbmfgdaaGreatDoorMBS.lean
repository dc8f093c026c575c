/-
  A region that draws its order, of whose operations some may be taken first: copies, and slicings of slices. The evaluator is right: what it answers of a function's code, the model does.
-/
import Derived.Test.YtplklcejbmfgdaaGreatDoorMB
set_option linter.unusedVariables false
set_option linter.unusedSimpArgs false
set_option linter.unusedSectionVars false
namespace Nt.Ev
open Go Go.RowKit
section
variable {P:Program} {ops:Array Oper} {Q:Exit→Act→World→Prop}
theorem GV (p:List Nat):(dm ops p).size=p.length:=by unfold dm;simp
theorem Ff {p:List Nat} {k:Nat} (hk:k<p.length):(dm ops p)[k]? =some (OD p (ops.getD p[k] default)):=by
 unfold dm;simp[hk]
theorem rU {i:Nat} {o:Oper} (h:ops[i]? =some o):ops.getD i default=o:=by
 rw[Array.getD_eq_getD_getElem?,h];rfl
theorem KQ {p:List Nat} {o:Oper} {e:Edge}:e∈(OD p o).after↔ ∃e0∈o.after,e0.on∈p∧e={e0 with on:=p.idxOf e0.on}:=by
 unfold OD;constructor
 ·intro h
  simp only[List.mem_toArray,List.mem_map,List.mem_filter,Array.mem_toList_iff] at h;obtain⟨e0,⟨h1,h2⟩,rfl⟩:=h;exact⟨e0,h1,by simpa using h2,rfl⟩
 ·rintro⟨e0,h1,h2,rfl⟩
  simp only[List.mem_toArray,List.mem_map,List.mem_filter,Array.mem_toList_iff];exact⟨e0,⟨h1,by simpa using h2⟩,rfl⟩
theorem X7 (md:Region.Mode) (e:Edge) (n:Nat):Region.binds md {e with on:=n}=Region.binds md e:=rfl
theorem sub_wp (p:List Nat) (o:Oper) (a:Act) (w:World) (K:Act→World→Prop):(OD p o).wp P a w K Q=o.wp P a w K Q:=rfl
theorem sub_asks (p:List Nat) (o:Oper) (a:Act) (w:World):(OD p o).asks P a w=o.asks P a w:=rfl
theorem wF {p:List Nat} {i:Nat} (h:i∈p): ∃hk:p.idxOf i<p.length,p[p.idxOf i]=i:=⟨List.idxOf_lt_length_of_mem h,List.getElem_idxOf _⟩
theorem Io {p:List Nat} (h:J7 ops p=true) {i:Nat} {o:Oper} (ho:ops[i]? =some o):(∀j b,o.guard=some (j,b)→j∈p)∧ ∀e∈o.after,e.on<ops.size:=by
 unfold J7 at h;rw[List.all_eq_true] at h;have h1:=h o (by rw[Array.mem_toList_iff];exact Array.mem_of_getElem? ho);rw[Bool.and_eq_true,List.all_eq_true] at h1;refine⟨fun j b hg=>?_,fun e he=>?_⟩
 ·have:=h1.1
  rw[hg] at this;simpa using this
 ·exact jk (h1.2 e (by simpa using he))
theorem VH {p:List Nat} (hnd:p.Nodup) (hlt: ∀i∈p,i<ops.size) (hok:J7 ops p=true): ∀(fuel:Nat) (listed listed':Array Bool) (a:Act) (w:World),listed.size=ops.size→listed'.size=p.length→
  (∀i,i<ops.size→i∉p→listed.getD i false=true)→(∀(k:Nat) (hk:k<p.length) (d:Bool),listed.getD p[k] d=listed'.getD k d)→wpAny P .any (dm ops p) Q fuel listed' a w→wpAny P .any ops Q fuel listed a w:=by
 have keyR: ∀(listed listed':Array Bool),listed.size=ops.size→listed'.size=p.length→(∀i,i<ops.size→i∉p→listed.getD i false=true)→(∀(k:Nat) (hk:k<p.length) (d:Bool),listed.getD p[k] d=listed'.getD k d)→
   (∀i,i∈Region.ready .any ops listed→i∈p∧p.idxOf i∈Region.ready .any (dm ops p) listed')∧(Region.ready .any ops listed=[]→Region.ready .any (dm ops p) listed'=[]):=by
  intro listed listed' h1 h2 h3 h4;refine⟨fun i hi=>?_,fun hr=>?_⟩
  ·obtain⟨hu,o,ho,hal⟩:=mem_ready.1 hi
   have hil:i<ops.size:=(Array.getElem?_eq_some_iff.1 ho).1;have UU:i∈p:=by
    refine Classical.byContradiction fun hn=>?_
    have:=h3 i hil hn;have h5:i<listed.size:=by omega
    simp only[Array.getD_eq_getD_getElem?,Array.getElem?_eq_getElem h5,Option.getD_some] at hu this;rw[hu] at this;cases this
   obtain⟨hk,hpk⟩:=wF UU;refine⟨UU,mem_ready.2 ⟨?_,_,Ff hk,fun e he hb=>?_⟩⟩
   ·rw[←h4 _ hk,hpk];exact hu
   ·rw[hpk,rU ho] at he
    obtain⟨e0,he0,hep,rfl⟩:=KQ.1 he;obtain⟨hk2,hpk2⟩:=wF hep;show listed'.getD (p.idxOf e0.on) false=true;rw[←h4 _ hk2,hpk2];exact hal e0 he0 (by rwa [X7] at hb)
  ·refine List.eq_nil_iff_forall_not_mem.2 fun k hk=>?_
   obtain⟨hu,o',ho',hal⟩:=mem_ready.1 hk;have hkl:k<p.length:=by have:=(Array.getElem?_eq_some_iff.1 ho').1;rwa [GV] at this
   rw[Ff hkl] at ho';simp only[Option.some.injEq] at ho';subst ho';have hil:p[k]<ops.size:=hlt _ (List.getElem_mem hkl);have ho:ops[p[k]]? =some (ops[p[k]]'hil):=by simp[hil]
   have:p[k]∈Region.ready .any ops listed:=by
    refine mem_ready.2 ⟨by rw[h4 k hkl];exact hu,_,ho,fun e he hb=>?_⟩;by_cases hep:e.on∈p
    ·obtain⟨hk2,hpk2⟩:=wF hep
     have:=hal {e with on:=p.idxOf e.on} (by rw[rU ho];exact KQ.2 ⟨e,he,hep,rfl⟩) hb;have h5:=h4 _ hk2 false;rw[hpk2] at h5;rw[h5];exact this
    ·exact h3 _ ((Io hok ho).2 e he) hep
   rw[hr] at this
   cases this
 have keyO: ∀(i:Nat) (K K':Act→World→Prop) (a:Act) (w:World),i∈p→(∀a w,K' a w→K a w)→wpOp P (dm ops p) Q (p.idxOf i) K' a w→wpOp P ops Q i K a w:=by
  intro i K K' a w UU hK h;obtain⟨hk,hpk⟩:=wF UU;have hil:=hlt i UU;have ho:ops[i]? =some (ops[i]'hil):=by simp[hil]
  unfold wpOp at h⊢;rw[Ff hk,hpk,rU ho] at h;rw[ho];simp only at h⊢;have hw:Region.wanted (OD p (ops[i]'hil)) (yielded (dm ops p) a.tmps)=Region.wanted (ops[i]'hil) (yielded ops a.tmps):=by
   unfold Region.wanted;have hg:(OD p (ops[i]'hil)).guard=(ops[i]'hil).guard.map fun g=>(p.idxOf g.1,g.2):=rfl
   rw[hg]
   cases hgq:(ops[i]'hil).guard with
   |none=>rfl
   |some g=>
    obtain⟨j,b⟩:=g;have hjp:=(Io hok ho).1 j b hgq;obtain⟨hk2,hpk2⟩:=wF hjp;have hjl:=hlt j hjp;have hoj:ops[j]? =some (ops[j]'hjl):=by simp[hjl]
    have:yielded (dm ops p) a.tmps (p.idxOf j)=yielded ops a.tmps j:=by
     unfold yielded;rw[Ff hk2,hpk2,rU hoj,hoj];rfl
    simp only[Option.map_some,this]
  rw[hw] at h;split at h
  ·rename_i hww
   rw[if_pos hww];rw[sub_wp,sub_asks] at h;exact h.imp (Oper.wp_mono hK) id
  ·rename_i hww
   rw[if_neg hww];exact hK _ _ h
 intro fuel;induction fuel with
 |zero=>
  intro listed listed' a w h1 h2 h3 h4 h;refine⟨?_,h.2⟩;refine List.eq_nil_iff_forall_not_mem.2 fun i hi=>?_
  have:=((keyR listed listed' h1 h2 h3 h4).1 i hi).2;rw[h.1] at this
  cases this
 |succ fuel ih=>
  intro listed listed' a w h1 h2 h3 h4 h;obtain⟨r1,r2⟩:=keyR listed listed' h1 h2 h3 h4;refine⟨fun hr=>h.1 (r2 hr),fun i hi=>?_⟩;obtain⟨UU,hk⟩:=r1 i hi;obtain⟨hkl,hpk⟩:=wF UU;refine keyO i _ _ a w UU (fun a w hq=>?_) (h.2 _ hk);refine ih _ _ a w (by simpa using h1) (by simpa using h2) (fun j hj hjp=>?_) (fun k hk' d=>?_) hq
  ·have hne:i≠j:=fun e=>hjp (e▸UU)
   rw[getD_set_ne false hne];exact h3 j hj hjp
  ·by_cases e:p[k]=i
   ·have hki:p.idxOf i=k:=by
     refine Classical.byContradiction fun hne=>?_
     have h7:p[p.idxOf i]=p[k]:=by rw[hpk,e]
     rcases Nat.lt_or_gt_of_ne hne with h8|h8
     ·exact List.pairwise_iff_getElem.1 hnd _ _ hkl hk' h8 h7
     ·exact List.pairwise_iff_getElem.1 hnd _ _ hk' hkl h8 h7.symm
    rw[e,hki];have hil:=hlt i UU;have h5:i<listed.size:=by omega
    have h6:k<listed'.size:=by omega
    simp[h5,h6]
   ·have hki:p.idxOf i≠k:=fun e2=>e (by subst e2;exact hpk)
    rw[getD_set_ne d (fun q=>e q.symm),getD_set_ne d hki];exact h4 k hk' d
def jh {α:Type} (P:Program) (m:Sem α):Prop:=∀w v w',m.run P w=.ok v w'→w'=w∧ ∀w2,m.run P w2=.ok v w2
theorem dB {α:Type} (v:α):jh P (pure v:Sem α):=by
 intro w v' w' h;simp only[Sem.run_pure,Result.ok.injEq] at h;obtain⟨rfl,rfl⟩:=h;exact⟨rfl,fun w2=>by simp only[Sem.run_pure]⟩
theorem dW {α β:Type} {m:Sem α} {k:α→Sem β} (h1:jh P m) (h2: ∀v,jh P (k v)):jh P (m>>= k):=by
 intro w v w' h;rw[Sem.run_bind] at h
 cases hm:m.run P w with
 |ok u w1=>
  rw[hm,Result.andThen_ok] at h;obtain⟨rfl,h3⟩:=h1 w u w1 hm;obtain⟨rfl,h4⟩:=h2 u w1 v w' h;exact⟨rfl,fun w2=>by rw[Sem.run_bind,h3 w2,Result.andThen_ok];exact h4 w2⟩
 |halt x w1=>rw[hm] at h;cases h
theorem qH {α:Type} {m:Sem α} (h: ∀w v w',m.run P w≠.ok v w'):jh P m:=fun w v w' e=>absurd e (h w v w')
theorem IV (t:TypeId):jh P (typeInfo t):=by
 intro w v w' h
 cases hu:P.info? t with
 |some d=>
  have e: ∀w,(typeInfo t).run P w=.ok d w:=fun w=>by simp[typeInfo,hu]
  rw[e] at h;simp only[Result.ok.injEq] at h;obtain⟨rfl,rfl⟩:=h;exact⟨rfl,e⟩
 |none=>
  exfalso;unfold typeInfo at h;simp[hu] at h
theorem NT (t:TypeId):jh P (Go.sizeOf t):=by
 unfold Go.sizeOf;exact dW (IV t) fun v=>dB _
theorem JG (x:Value):jh P (asIntOf x):=by
 unfold asIntOf;split
 ·exact dB _
 ·exact qH fun w v w' h=>by simp[unsupported] at h
 ·exact qH fun w v w' h=>by simp[stuck] at h
theorem zN {α β:Type} {m:Sem α} {k:α→Sem β} (h: ∀u w v w',(k u).run P w≠.ok v w'): ∀w v w',(m>>= k).run P w≠.ok v w':=by
 intro w v w' e;rw[Sem.run_bind] at e
 cases hm:m.run P w with
 |ok u w1=>rw[hm,Result.andThen_ok] at e;exact h u w1 v w' e
 |halt x w1=>rw[hm] at e;cases e
theorem NU {α:Type} (k:IntKind) (x y:Int) (c:BoundsCode) (w:World) (v:α) (w':World):(boundsPanic k x y c:Sem α).run P w≠.ok v w':=by
 have h0: ∀(s:Bool) (w:World) (v:α) (w':World),(runtimePanic (.bounds (IntKind.i64.wrap x) y s c):Sem α).run P w≠.ok v w':=fun s w v w'=>by
  unfold runtimePanic;exact zN (fun p w v w' h=>by simp[goPanic] at h) w v w'
 unfold boundsPanic;simp only;split
 ·exact zN (fun u w v w'=>h0 u w v w') w v w'
 ·exact zN (fun u w v w'=>h0 u w v w') w v w'
theorem DY (x:Value) (y:Nat) (c:BoundsCode):jh P (Instr.sliceBound x y c):=by
 unfold Instr.sliceBound;refine dW (JG x) fun v=>?_
 obtain⟨k,i⟩:=v;simp only;split
 ·exact dB _
 ·exact qH (NU k i y c)
theorem NV (b:Bool) (len cap:Nat) (lo hi:Option Value):jh P (Instr.sliceBounds b len cap lo hi none):=by
 unfold Instr.sliceBounds;refine dW (dB _) fun m=>?_
 have hL: ∀h:Nat,jh P (match lo with
   |some v=>do let l←Instr.sliceBound v h (if(none:Option Value).isSome=true then BoundsCode.slice3C else BoundsCode.sliceB);pure (l,h,m)
   |none=>do let l←pure 0;pure (l,h,m):Sem (Nat×Nat×Nat)):=fun h=>by
  cases lo with
  |none=>exact dW (dB _) fun l=>dB _
  |some v=>exact dW (DY _ _ _) fun l=>dB _
 cases hi with
 |none=>exact dW (dB _) fun h=>hL h
 |some v=>exact dW (DY _ _ _) fun h=>hL h
theorem QT {t e:TypeId} (hu:P.underlying t=some (.slice e)) (x:Value) (lo hi:Option Value):jh P (Instr.sliceAt t x lo hi none):=by
 have e1: ∀w,(Instr.sliceAt t x lo hi none).run P w=(Instr.slice t x lo hi none).run P w:=fun w=>by simp[Instr.sliceAt,run_underlying hu]
 have e2:jh P (Instr.slice t x lo hi none):=by
  unfold Instr.slice;intro w v w' h;simp only[Sem.run_bind,run_underlying hu,Result.andThen_ok] at h⊢;split at h
  ·exact nomatch ‹TypeDesc.slice e=TypeDesc.string›
  ·rename_i elem a len cap he
   have h5:jh P (do let (l,h,m)←Instr.sliceBounds true len cap lo hi none;let size←Go.sizeOf elem;pure (Value.slice (if m=l then a else a.map (·.add (l*size))) (h-l) (m-l))):=
    dW (NV _ _ _ _ _) fun v=>dW (NT _) fun s=>dB _
   exact h5 w v w' h
  ·exact nomatch ‹TypeDesc.slice e=TypeDesc.pointer _›
  ·simp[stuck] at h
 intro w v w' h;rw[e1] at h;obtain⟨h1,h2⟩:=e2 w v w' h;exact⟨h1,fun w2=>by rw[e1];exact h2 w2⟩
theorem TY (x:Value):jh P (Instr.sureAddr x):=by
 unfold Instr.sureAddr;split
 ·exact dB _
 ·exact qH fun w v w' h=>by simp[stuck] at h
theorem QU {t:TypeId} {f:Nat} (hf:fldNZ P t f=true) (x:Value):jh P (Instr.fieldAt t x f):=by
 unfold fldNZ at hf;split at hf
 ·rename_i fs hu
  split at hf
  ·rename_i fd hfd
   split at hf
   ·rename_i i hi
    have hne:i.size≠0:=by simpa using hf
    have e: ∀(a:Addr) w,(fieldPlace a fd).run P w=.ok (a.add fd.offset) w:=fun a w=>by
     simp[fieldPlace,Go.sizeOf,typeInfo,hi,hne]
    have h5:jh P (do let a←Instr.sureAddr x;pure (Value.pointer (some (←fieldPlace a fd)))):=by
     refine dW (TY x) fun a=>dW ?_ fun b=>dB _
     intro w v w' h;rw[e a w] at h;simp only[Result.ok.injEq] at h;obtain⟨rfl,rfl⟩:=h;exact⟨rfl,fun w2=>e a w2⟩
    intro w v w' h;have e2: ∀w,(Instr.fieldAt t x f).run P w=(do let a←Instr.sureAddr x;pure (Value.pointer (some (←fieldPlace a fd))):Sem Value).run P w:=fun w=>by
     unfold Instr.fieldAt;simp only[Sem.run_bind,run_underlying hu,Result.andThen_ok,hfd]
    rw[e2] at h;obtain⟨h1,h2⟩:=h5 w v w' h;exact⟨h1,fun w2=>by rw[e2];exact h2 w2⟩
   ·cases hf
  ·cases hf
 ·cases hf
def nilOkV:V→Bool
 | .eptr _ _ _ _ _ _=>true
 | .epz _ _ _ _ _=>true
 | .rptr _ _ _=>true
 | .box _ _=>true
 |_=>false
theorem MW {g:Gh} {X:V} {u:Value} (hX:nilOkV X=true) (h:aN g X u): ∃a,u=.pointer (some a):=by
 cases X with
 |eptr L e sh xs i off=>obtain⟨_,b,_,_,_,_,_,hp⟩:=mI.1 h;exact⟨_,hp⟩
 |epz L e sz i off=>obtain⟨_,b,_,_,_,_,_,_,hp⟩:=pE.1 h;exact⟨_,hp⟩
 |rptr sh x off=>obtain⟨b,q,l,hp,_⟩:=iK.1 h;exact⟨_,hp⟩
 |box k off=>obtain⟨b,_,hp⟩:=dM.1 h;exact⟨_,hp⟩
 |_=>cases hX
theorem MX {P:Program} {r:Operand→V} {bx:List (Nat×List V)} {o:Oper} {x:Operand} {res:Bool×Eff} (ho:o.op=.nilCheck x) (h:RU P r bx o=some res):nilOkV (r x)=true:=by
 unfold RU at h;rw[ho] at h;simp only at h
 cases hx:r x<;>rw[hx] at h<;>first|rfl|cases h
theorem opR_nil {E:Env} {fr:List V} {bx:List (Nat×List V)} {o:Oper} {x:Operand} {res:Bool×Eff} {g:Gh} {ac:Act} (ho:o.op=.nilCheck x) (hr: ∀y,aN g (nu E fr y) (ac.eval y)) (h:EA E fr bx o=some res): ∃a,ac.eval x=.pointer (some a):=by
 unfold EA at h;simp only at h
 cases ha:o.op.operands.toList.any fun x=>(nu E fr x).OX with
 |false=>rw[ha] at h;exact MW (MX ho h) (hr x)
 |true=>
  rw[ha,cond_true] at h;have hun:RU E.P (fun x=>(nu E fr x).Dk) bx o=some res→ ∃a,ac.eval x=.pointer (some a):=fun h=>MW (MX ho h) (zA (hr x))
  split at h
  ·rename_i c v hx
   exact MW (MX ho hx) (Km (hr x))
  ·exact hun h
theorem QV {o:Oper} (h:AP P o=true) {ρ:Operand→Value} (hnil: ∀x,o.op=.nilCheck x→ ∃a,ρ x=.pointer (some a)) {w w':World} {u:Value} (hr:(execOp ρ o).run P w=.ok (.value u) w'): ∀w2,(execOp ρ o).run P w2=.ok (.value u) w2:=by
 unfold AP at h;rw[Bool.and_eq_true,Bool.and_eq_true] at h;have h1:=h.1.1;have hs:jh P (execOp ρ o):=by
  split at h1
  ·rename_i x hx
   have:execOp ρ o=pure (.value (ρ x)):=by simp only[execOp,hx]
   rw[this];exact dB _
  ·rename_i x hx
   obtain⟨a,ha⟩:=hnil x hx;have:execOp ρ o=pure (.value (.pointer (some a))):=by simp only[execOp,hx,ha]
   rw[this];exact dB _
  ·rename_i t x lo hi hx
   have:execOp ρ o=(do pure (.value (←Instr.sliceAt t (ρ x) (lo.map ρ) (hi.map ρ) none))):=by simp only[execOp,hx,Option.map_none]
   rw[this];unfold isSlT at h1;split at h1
   ·rename_i e hu
    exact dW (QT hu _ _ _) fun v=>dB _
   ·cases h1
  ·rename_i fn first bJ hx
   have:execOp ρ o=(do pure (.value (←Instr.makeFunc fn (first.map ρ) (bJ.map ρ)))):=by simp only[execOp,hx]
   rw[this];exact dW (by unfold Instr.makeFunc;exact dB _) fun v=>dB _
  ·rename_i t x f hx
   have:execOp ρ o=(do pure (.value (←Instr.fieldAt t (ρ x) f))):=by simp only[execOp,hx]
   rw[this];exact dW (QU h1 _) fun v=>dB _
  ·cases h1
 exact(hs w _ w' hr).2
end
section
variable {E:Env} {B:Own} {G0:aP} {w0:World}
theorem DZ {n:Nat} {ops:List Oper} (h:nV n ops=true): ∀(i:Nat) o,ops[i]? =some o→(∃d,o.dst=some d∧d<n)∧(∀(j:Nat) o',ops[j]? =some o'→i≠j→o.dst≠o'.dst)∧(∀e∈o.after.toList,Region.binds .any e=true→e.on<i)∧
  (∀t∈u6 o,∀(j:Nat) o',ops[j]? =some o'→o'.dst=some t→j<i∧ ∃e∈o.after.toList,Region.binds .any e=true∧e.on=j)∧(∀j want,o.guard=some (j,want)→j<i∧ ∃e∈o.after.toList,Region.binds .any e=true∧e.on=j):=by
 intro i o ho;unfold nV at h;simp only at h;have h:=AU h i o ho;simp only[Bool.and_eq_true] at h;obtain⟨⟨⟨⟨h1,h2⟩,h3⟩,h4⟩,h5⟩:=h;refine⟨?_,fun j o' hj hne=>?_,fun e he hb=>?_,fun t ht j o' hj hd=>?_,fun j want hg=>?_⟩
 ·split at h1
  ·rename_i d hd;exact⟨d,hd,by simpa[Nat.blt_eq] using h1⟩
  ·cases h1
 ·have:=AU h2 j o' hj
  simp only[Bool.or_eq_true,beq_iff_eq,bne_iff_ne,ne_eq] at this;exact this.resolve_left hne
 ·rw[List.all_eq_true] at h3
  have:=h3 e he;rw[hb] at this;simpa[Nat.blt_eq] using this
 ·rw[List.all_eq_true] at h4
  have:=AU (h4 t ht) j o' hj;simp only[Bool.or_eq_true,bne_iff_ne,ne_eq,Bool.and_eq_true,List.any_eq_true,beq_iff_eq,Nat.blt_eq] at this;rcases this with h|⟨h6,e,he,h7,h8⟩
  ·exact absurd hd h
  ·exact⟨h6,e,he,h7,h8⟩
 ·rw[hg] at h5
  simp only[Bool.and_eq_true,List.any_eq_true,beq_iff_eq,Nat.blt_eq] at h5;obtain⟨h6,e,he,h7,h8⟩:=h5;exact⟨h6,e,he,h7,h8⟩
theorem D3 {ops:List Oper} {s s':St} {o:Oper} (h: ∀j want oj d,o.guard=some (j,want)→ops[j]? =some oj→oj.dst=some d→slot s.fr d=slot s'.fr d):jZ ops s o=jZ ops s' o:=by
 unfold jZ;split
 ·rfl
 ·rename_i j want hg
  split
  ·rfl
  ·rename_i oj hoj
   split
   ·rfl
   ·rename_i d hd
    rw[h j want oj d hg hoj hd]
theorem Px {l:List Oper} {m i:Nat} {o:Oper} (h:(l.take m)[i]? =some o):l[i]? =some o∧i<m:=by
 rw[List.getElem?_take] at h;split at h
 ·exact⟨h,by assumption⟩
 ·cases h
theorem rF {l:List Oper} {m i:Nat} {o:Oper} (h:l[i]? =some o) (hi:i<m):(l.take m)[i]? =some o:=by
 rw[List.getElem?_take,if_pos hi];exact h
theorem Bf: ∀(m l:List Nat) (x:Nat),x∈addN l m→x∈l∨x∈m
 |[],l,x,h=> .inl h
 |a::m,l,x,h=>by
  unfold addN at h
  cases hc:l.contains a with
  |true=>rw[hc,cond_true] at h;exact(Bf m l x h).imp id (List.mem_cons_of_mem _)
  |false=>
   rw[hc,cond_false] at h;rcases Bf m _ x h with h|h
   ·rcases List.mem_cons.1 h with rfl|h
    ·exact .inr List.mem_cons_self
    ·exact .inl h
   ·exact .inr (List.mem_cons_of_mem _ h)
theorem iQ {o:Oper} {x:Nat} (h:x∈fM o): ∃e∈o.after.toList,Region.binds .any e=true∧e.on=x:=by
 unfold fM at h;obtain⟨e,he,rfl⟩:=List.mem_map.1 h;rw[List.mem_filter] at he;exact⟨e,he.1,he.2,rfl⟩
theorem T3 {c b:Bool} (h:(bif c then b else false)=true):c=true∧b=true:=by cases c<;>first|exact⟨rfl,h⟩|cases h
theorem rV: ∀(l:List Nat) (k:List Nat→Bool),zi l k=k l
 |[],_=>rfl
 |a::l,k=>by unfold zi;exact rV l _
theorem zO {ops:List Oper}: ∀(n j i k:Nat) (o:Oper),waits ops n j i=true→ops[i]? =some o→k∈fM o→ ∃n',waits ops n' j k=true
 |0,j,i,k,o,h,_,_=>by cases h
 |n+1,j,i,k,o,h,ho,hk=>by
  unfold waits at h;split at h
  ·rename_i oj hoj
   simp only[List.any_eq_true,Bool.and_eq_true,Bool.or_eq_true,beq_iff_eq] at h;obtain⟨e,he,hb,h⟩:=h;rcases h with h|h
   ·obtain⟨q,hq1,hq2,rfl⟩:=iQ hk
    refine⟨2,?_⟩;unfold waits;rw[hoj];simp only[List.any_eq_true,Bool.and_eq_true,Bool.or_eq_true,beq_iff_eq];refine⟨e,he,hb,.inr ?_⟩;unfold waits;rw[h,ho];simp only[List.any_eq_true,Bool.and_eq_true,Bool.or_eq_true,beq_iff_eq];exact⟨q,hq1,hq2,.inl rfl⟩
   ·obtain⟨n',hn⟩:=zO n e.on i k o h ho hk
    refine⟨n'+1,?_⟩;unfold waits;rw[hoj];simp only[List.any_eq_true,Bool.and_eq_true,Bool.or_eq_true,beq_iff_eq];exact⟨e,he,hb,.inr hn⟩
  ·cases h
theorem D4 {ops:List Oper} {j:Nat}: ∀(n:Nat) (S:List Nat),Mc ops n S=true→(∀x∈S,∃k,waits ops k j x=true)→ ∀i,i<n→ ∃k,waits ops k j i=true
 |0,S,_,_,i,hi=>by omega
 |n+1,S,h,hS,i,hi=>by
  unfold Mc at h;obtain⟨h1,h2⟩:=T3 h;have hn: ∃k,waits ops k j n=true:=hS n (by simpa using h1);rw[rV] at h2;by_cases e:i=n
  ·subst e;exact hn
  ·refine D4 n _ h2 (fun x hx=>?_) i (by omega)
   rcases Bf _ _ _ hx with hx|hx
   ·exact hS x hx
   ·obtain⟨k,hk⟩:=hn
    split at hx
    ·rename_i o ho;exact zO k j n x o hk ho hx
    ·cases hx
theorem D5 {ops:List Oper}: ∀(n m:Nat),Me ops m n=true→ ∀j,m≤j→j<m+n→AJ ops j=true
 |0,m,_,j,h1,h2=>by omega
 |n+1,m,h,j,h1,h2=>by
  unfold Me at h;rw[Bool.and_eq_true] at h;by_cases e:j=m
  ·subst e;exact h.1
  ·exact D5 n (m+1) h.2 j (by omega) (by omega)
theorem pX {ops:List Oper} {m:Nat} (h:mG ops m=true): ∀(j:Nat) o,ops[j]? =some o→m≤j→(∀e∈o.after.toList,Region.binds .any e=true→e.on<j)∧ ∀i,i<j→ ∃n,waits ops n j i=true:=by
 intro j o ho hj;unfold mG at h;have hlt:j<ops.length:=(List.getElem?_eq_some_iff.1 ho).1;have h1:=D5 _ _ h j hj (by omega);unfold AJ at h1;rw[ho] at h1;simp only[Bool.and_eq_true,List.all_eq_true,rV] at h1;refine⟨fun e he hb=>jk (h1.1 e.on ?_),D4 j _ h1.2 fun x hx=>?_⟩
 ·unfold fM
  exact List.mem_map.2 ⟨e,List.mem_filter.2 ⟨he,hb⟩,rfl⟩
 ·obtain⟨q,hq1,hq2,rfl⟩:=iQ hx
  refine⟨1,?_⟩;unfold waits;rw[ho];simp only[List.any_eq_true,Bool.and_eq_true,Bool.or_eq_true,beq_iff_eq];exact⟨q,hq1,hq2,.inl rfl⟩
theorem Py {P:Program} {ops:Array Oper} {Q:Exit→Act→World→Prop} {m:Nat} (hch: ∀(j:Nat) o,ops.toList[j]? =some o→m≤j→(∀e∈o.after.toList,Region.binds .any e=true→e.on<j)∧ ∀i,m≤i→i<j→ ∃n,waits ops.toList n j i=true) (hed: ∀(j:Nat) o,ops.toList[j]? =some o→ ∀e∈o.after.toList,Region.binds .any e=true→e.on<j): ∀(n k:Nat) (fuel:Nat) (listed:Array Bool) (a:Act) (w:World),k+n=ops.size→m≤k→listed.size=ops.size→(∀i,i<ops.size→listed.getD i false=decide (i<k))→n≤fuel→
  wpOps P ops Q (List.range' k n) a w→wpAny P .any ops Q fuel listed a w:=by
 intro n;induction n with
 |zero=>
  intro k fuel listed a w hkn hmk hls hl hf h;have hr:Region.ready .any ops listed=[]:=by
   rw[List.eq_nil_iff_forall_not_mem];intro i him;obtain⟨h0,o,ho,_⟩:=mem_ready.1 him;have hi:i<ops.size:=(Array.getElem?_eq_some_iff.1 ho).1;have h4:i<listed.size:=by omega
   have h5:=hl i hi;simp only[Array.getD_eq_getD_getElem?,Array.getElem?_eq_getElem h4,Option.getD_some] at h0 h5;rw[h0] at h5;have:=of_decide_eq_false h5.symm;omega
  cases fuel with
  |zero=>exact⟨hr,h⟩
  |succ fuel=>exact⟨fun _=>h,fun i him=>by rw[hr] at him;cases him⟩
 |succ n ih=>
  intro k fuel listed a w hkn hmk hls hl hf h
  cases fuel with
  |zero=>omega
  |succ fuel=>
   have hk:k<ops.size:=by omega
   have hko:ops.toList[k]? =some ops[k]:=by simp[hk]
   have hready: ∀i,i∈Region.ready .any ops listed→i=k:=by
    intro i him;obtain⟨h0,o,ho,hafter⟩:=mem_ready.1 him;have hi:i<ops.size:=(Array.getElem?_eq_some_iff.1 ho).1;have h4:i<listed.size:=by omega
    have h5:=hl i hi;simp only[Array.getD_eq_getD_getElem?,Array.getElem?_eq_getElem h4,Option.getD_some] at h0 h5;rw[h0] at h5;have hik:=of_decide_eq_false h5.symm;by_cases e:i=k
    ·exact e
    ·exfalso
     have RE:ops.toList[i]? =some o:=by simpa using ho
     obtain⟨_,hw⟩:=hch i o RE (by omega);obtain⟨n0,hwk⟩:=hw k hmk (by omega);have hcl:Closed ops.toList (fun i=>listed.getD i false):=by
      intro j oj hoj hjs e2 he2 hb2;have hjs:listed.getD j false=true:=hjs;have hj:j<ops.size:=by have:=(List.getElem?_eq_some_iff.1 hoj).1;simpa using this
      rw[hl j hj] at hjs;have h6:=hed j oj hoj e2 (by simpa using he2) hb2;have h7:=of_decide_eq_true hjs;show listed.getD e2.on false=true;rw[hl e2.on (by omega)];simp;omega
     have Vd: ∀(n:Nat),waits ops.toList n i k=true→listed.getD k false=true:=by
      intro n hn
      cases n with
      |zero=>cases hn
      |succ n=>
       unfold waits at hn;rw[RE] at hn;simp only[List.any_eq_true,Bool.and_eq_true,Bool.or_eq_true,beq_iff_eq] at hn;obtain⟨e2,he2,hb2,h6⟩:=hn;have h7:=hafter e2 (by simpa using he2) hb2;rcases h6 with h6|h6
       ·rw[←h6];exact h7
       ·exact jW hcl n e2.on k h6 h7
     have:=Vd _ hwk;rw[hl k hk] at this;have:=of_decide_eq_true this;omega
   refine⟨fun hr=>?_,fun i him=>?_⟩
   ·exfalso
    have:k∈Region.ready .any ops listed:=by
     have h4:k<listed.size:=by omega
     have h5:=hl k hk;refine mem_ready.2 ⟨?_,ops[k],by simp[hk],fun e he hb=>?_⟩
     ·simp only[Array.getD_eq_getD_getElem?,Array.getElem?_eq_getElem h4,Option.getD_some] at h5⊢
      rw[h5];simp
     ·have h6:=(hch k _ hko hmk).1 e (by simpa using he) hb
      rw[hl e.on (by omega)];simpa using h6
    rw[hr] at this;cases this
   ·obtain rfl:=hready i him
    rw[List.range'_succ,wpOps_cons] at h;refine wpOp_mono (fun a w h=>?_) h;refine ih (i+1) fuel _ a w (by omega) (by omega) (by simpa using hls) (fun j hj=>?_) (by omega) h;by_cases e:j=i
    ·subst e
     have h4:j<listed.size:=by omega
     simp[h4]
    ·have:(listed.setIfInBounds i true).getD j false=listed.getD j false:=getD_set_ne false (fun h=>e h.symm)
     rw[this,hl j hj];have:(j<i)↔(j<i+1):=by omega
     simp only[this]
theorem T4 {P:Program} {Q:Exit→Act→World→Prop} {o:Oper} {a:Act} {w:World} {K:Act→World→Prop} {x:Operand} {i:Nat} (ho:o.op=.extract x i) (h:o.wp P a w K Q):
  ∃v,(∀w,(execOp a.eval o).run P w=.ok (.value v) w)∧K (a.put o.dst v) w:=by
 have e:execOp a.eval o=(do pure (.value (←Instr.extract (a.eval x) i))):=by unfold execOp;simp only[ho]
 unfold Oper.wp at h;rw[e] at h⊢;unfold Instr.extract at h⊢
 cases hv:a.eval x with
 |tuple vs=>
  rw[hv] at h;simp only at h⊢
  cases hi:vs[i]? with
  |none=>rw[hi] at h;exact False.elim h
  |some v=>rw[hi] at h;exact⟨v,fun w=>rfl,h⟩
 |_=>rw[hv] at h;exact False.elim h
theorem T7 {ops:Array Oper} {l:Nat} (h:OZ ops l=true): ∃o x i,ops[l]? =some o∧o.op=.extract x i∧o.guard=none∧ ∀(j:Nat) oj,ops[j]? =some oj→j≠l→(∀e∈o.after,Region.binds .any e=true→e.on≠j)→(∀e∈oj.after,Region.binds .any e=true→e.on≠l)→o.apart ops oj=true:=by
 unfold OZ at h
 cases ho:ops[l]? with
 |none=>rw[ho] at h;cases h
 |some o=>
  rw[ho] at h;simp only[Bool.and_eq_true] at h;obtain⟨⟨h1,h2⟩,h3⟩:=h;have hx: ∃x i,o.op=.extract x i:=by
   cases hop:o.op with
   |extract x i=>exact⟨x,i,rfl⟩
   |_=>rw[hop] at h1;cases h1
  obtain⟨x,i,hx⟩:=hx;have hg:o.guard=none:=by
   cases hg:o.guard with
   |none=>rfl
   |some _=>rw[hg] at h2;cases h2
  refine⟨o,x,i,rfl,hx,hg,fun j oj hj hjl hn1 hn2=>?_⟩;rw[List.all_eq_true] at h3;have h4:=h3 j (List.mem_range.2 (Array.getElem?_eq_some_iff.1 hj).1);rw[hj] at h4;simp only[Bool.or_eq_true,beq_iff_eq,hjl,false_or,List.contains_iff_mem] at h4;rcases h4 with(h4|h4)|h4
  ·obtain⟨e,he,hb,heq⟩:=iQ h4
   exact absurd heq (hn1 e (by simpa using he) hb)
  ·obtain⟨e,he,hb,heq⟩:=iQ h4
   exact absurd heq (hn2 e (by simpa using he) hb)
  ·exact h4
theorem tJ {ops:List Oper} {late:Nat→Bool} {j:Nat}: ∀(n:Nat) (S:List Nat),AL ops late n S=true→(∀x∈S,∃k,waits ops k j x=true)→ ∀i,i<n→(∃k,waits ops k j i=true)∨late i=true
 |0,_,_,_,i,hi=>absurd hi (Nat.not_lt_zero i)
 |n+1,S,h,hS,i,hi=>by
  unfold AL at h
  cases hc:S.contains n with
  |true=>
   rw[hc,cond_true,rV] at h;have hn:n∈S:=by simpa using hc
   by_cases e:i=n
   ·subst e;exact .inl (hS _ hn)
   ·refine tJ n _ h (fun x hx=>?_) i (by omega)
    rcases Bf _ _ _ hx with hx|hx
    ·exact hS x hx
    ·cases ho:ops[n]? with
     |none=>rw[ho] at hx;cases hx
     |some o=>
      rw[ho] at hx;obtain⟨k,hk⟩:=hS n hn;exact zO k j n x o hk ho hx
  |false=>
   rw[hc,cond_false,Bool.and_eq_true] at h;by_cases e:i=n
   ·subst e;exact .inr h.1
   ·exact tJ n S h.2 hS i (by omega)
theorem BQ {ops:List Oper} {late:Nat→Bool}: ∀(n m:Nat),AO ops late m n=true→ ∀j,m≤j→j<m+n→GG ops late j=true
 |0,m,_,j,h1,h2=>by omega
 |n+1,m,h,j,h1,h2=>by
  unfold AO at h;rw[Bool.and_eq_true] at h;by_cases e:j=m
  ·subst e;exact h.1
  ·exact BQ n (m+1) h.2 j (by omega) (by omega)
theorem QW {ops:Array Oper} {m:Nat} (h:AO ops.toList (O0 ops m) m (ops.toList.length-m)=true): ∀(j:Nat) o,ops.toList[j]? =some o→m≤j→(∀e∈o.after.toList,Region.binds .any e=true→e.on<j)∧ ∀i,i<j→(∃n,waits ops.toList n j i=true)∨O0 ops m i=true:=by
 intro j o ho hj;have hlt:j<ops.toList.length:=(List.getElem?_eq_some_iff.1 ho).1;have h1:=BQ _ _ h j hj (by omega);unfold GG at h1;rw[ho] at h1;simp only[Bool.and_eq_true,List.all_eq_true,rV] at h1;refine⟨fun e he hb=>jk (h1.1 e.on ?_),tJ j _ h1.2 fun x hx=>?_⟩
 ·unfold fM
  exact List.mem_map.2 ⟨e,List.mem_filter.2 ⟨he,hb⟩,rfl⟩
 ·obtain⟨q,hq1,hq2,rfl⟩:=iQ hx
  refine⟨1,?_⟩;unfold waits;rw[ho];simp only[List.any_eq_true,Bool.and_eq_true,Bool.or_eq_true,beq_iff_eq];exact⟨q,hq1,hq2,.inl rfl⟩
theorem KR (hE:tY E) {ops:Array Oper} {Q:Exit→Act→World→Prop} {s0 sN:St} {g:Gh} {a:Act} {w:World} {m:Nat} (hok:nV s0.fr.length (ops.toList.take m)=true) {late:Nat→Bool}
  (hch: ∀(j:Nat) o,ops.toList[j]? =some o→m≤j→(∀e∈o.after.toList,Region.binds .any e=true→e.on<j)∧ ∀i,i<j→(∃n,waits ops.toList n j i=true)∨late i=true)
  (O6: ∀l,late l=true→l<m∧OZ ops l=true∧Region.noSelect ops=true∧ ∀c a d v w,Q (.panic c) (a.put d v) w→Q (.panic c) a w) (hst:dN (ops.toList.take m) s0=true) (hen:jR (ops.toList.take m) sN=true)
  (ht:Trace E ops.toList (some s0.bx) (ops.toList.take m) s0 sN) (hm:m≤ops.size) (h:Inv E B G0 w0 s0 g a w) (hk: ∀g' a' w',Inv E B G0 w0 sN g' a' w'→wpOps E.P ops Q (List.range' m (ops.size-m)) a' w'):wpAny E.P .any ops Q ops.size (Array.replicate ops.size false) a {w with drawn:=w.drawn+1}:=by
 have hsp:=DZ hok;have hlm:(ops.toList.take m).length=m:=by rw[List.length_take];simp;omega
 have hdst: ∀o∈ops.toList.take m,∃d,o.dst=some d:=by
  intro o ho;obtain⟨i,hi⟩:=List.getElem?_of_mem ho;obtain⟨⟨d,hd,_⟩,_⟩:=hsp i o hi;exact⟨d,hd⟩
 obtain⟨cs,hlen,hcs,hfin⟩:=zM (ops.toList.take m) s0 sN hdst ht;subst hfin;have y8: ∀(i:Nat) o c,(ops.toList.take m)[i]? =some o→cs[i]? =some c→o.dst=some c.d:=fun i o c h1 h2=>(hcs i o c h1 h2).1
 have hnd:(cs.map (·.d)).Nodup:=by
  refine List.pairwise_iff_getElem.2 fun i j hi hj hij e=>?_
  rw[List.length_map] at hi hj;have UT:i<(ops.toList.take m).length:=by omega
  have uw:j<(ops.toList.take m).length:=by omega
  have h1:=y8 i _ _ (List.getElem?_eq_getElem UT) (List.getElem?_eq_getElem hi);have h2:=y8 j _ _ (List.getElem?_eq_getElem uw) (List.getElem?_eq_getElem hj);simp only[List.getElem_map] at e;refine(hsp i _ (List.getElem?_eq_getElem UT)).2.1 j _ (List.getElem?_eq_getElem uw) (by omega) ?_;rw[h1,h2,e]
 have hfr: ∀c∈cs,c.d<s0.fr.length:=by
  intro c hc;obtain⟨i,hi⟩:=List.getElem?_of_mem hc;have UT:i<(ops.toList.take m).length:=by rw[←hlen];exact(List.getElem?_eq_some_iff.1 hi).1
  obtain⟨⟨d,hd,hlt⟩,_⟩:=hsp i _ (List.getElem?_eq_getElem UT);have:=y8 i _ c (List.getElem?_eq_getElem UT) hi;rw[this] at hd;simp only[Option.some.injEq] at hd;rw[hd];exact hlt
 have hsz:ops.toList.length=ops.size:=by simp
 let sel (listed:Array Bool):Nat→Bool:=fun i=>listed.getD i false
 have hed: ∀(j:Nat) o,ops.toList[j]? =some o→ ∀e∈o.after.toList,Region.binds .any e=true→e.on<j:=by
  intro j o hj;by_cases hjm:j<m
  ·exact(hsp j o (rF hj hjm)).2.2.1
  ·exact(hch j o hj (by omega)).1
 have key: ∀(fuel:Nat) (listed:Array Bool) (g:Gh) (a:Act) (w:World),listed.size=ops.size→(listed.toList.countP fun b=>!b)≤fuel→(∀i,m≤i→listed.getD i false=false)→Closed ops.toList (sel listed)→Inv E B G0 w0 (aY (sel listed) cs 0 s0) g a w→wpAny E.P .any ops Q fuel listed a w:=by
  have full: ∀(fuel:Nat) (listed:Array Bool) (g:Gh) (a:Act) (w:World),listed.size=ops.size→(listed.toList.countP fun b=>!b)≤fuel→(∀i,m≤i→listed.getD i false=false)→(∀i,i<m→listed.getD i false=true)→Inv E B G0 w0 (aY (sel listed) cs 0 s0) g a w→wpAny E.P .any ops Q fuel listed a w:=by
   intro fuel listed g a w hls hc htl hall hi;have e1:aY (sel listed) cs 0 s0=aY (fun _=>true) cs 0 s0:=jL _ _ cs 0 s0 fun i _ hi=>hall i (by omega)
   rw[e1] at hi;refine Py (fun j o ho hj=>⟨(hch j o ho hj).1,fun i hmi hij=>((hch j o ho hj).2 i hij).resolve_right fun hl=>by have:=(O6 i hl).1;omega⟩) hed (ops.size-m) m fuel listed a w (by omega) (Nat.le_refl _) hls (fun i hi=>?_) ?_ (hk g a w hi)
   ·by_cases him:i<m
    ·rw[hall i him];simp[him]
    ·rw[htl i (by omega)];simp[him]
   ·refine Nat.le_trans ?_ hc
    have h1:(listed.toList.drop m).countP (fun b=>!b)=(listed.toList.drop m).length:=by
     rw[List.countP_eq_length];intro b hb;obtain⟨i,hi⟩:=List.getElem?_of_mem hb;rw[List.getElem?_drop] at hi;have h2:=htl (m+i) (by omega);have h3:listed[m+i]? =some b:=by simpa using hi
     rw[Array.getD_eq_getD_getElem?,h3,Option.getD_some] at h2;rw[h2];rfl
    have h2:(listed.toList.drop m).countP (fun b=>!b)≤listed.toList.countP fun b=>!b:=List.Sublist.countP_le (List.drop_sublist _ _)
    rw[h1,List.length_drop,Array.length_toList,hls] at h2;exact h2
  intro fuel;induction fuel with
  |zero=>
   intro listed g a w hls hc htl hcl hi;refine full 0 listed g a w hls hc htl (fun i him=>?_) hi;have h4:i<listed.size:=by omega
   cases hq:listed.getD i false with
   |true=>rfl
   |false=>
    exfalso;have h0:listed[i]=false:=by
     simpa only[Array.getD_eq_getD_getElem?,Array.getElem?_eq_getElem h4,Option.getD_some] using hq
    have:0<listed.toList.countP fun b=>!b:=List.countP_pos_iff.2 ⟨listed[i],by simp,by rw[h0];rfl⟩
    omega
  |succ fuel ih=>
   intro listed g a w hls hc htl hcl hi;by_cases F3: ∀i,i<m→listed.getD i false=true
   ·exact full (fuel+1) listed g a w hls hc htl F3 hi
   have Vh: ∀i,i∈Region.ready .any ops listed→i<m→ ∃o,ops[i]? =some o∧((Region.wanted o (yielded ops a.tmps)=true∧o.wp E.P a w (wpAny E.P .any ops Q fuel (listed.setIfInBounds i true)) Q)∨(Region.wanted o (yielded ops a.tmps)=false∧wpAny E.P .any ops Q fuel (listed.setIfInBounds i true) (a.put o.dst undef) w)):=by
    intro i him OH;obtain⟨h0,o,ho,hafter⟩:=mem_ready.1 him;have hi':i<ops.size:=(Array.getElem?_eq_some_iff.1 ho).1;have h4:i<listed.size:=by omega
    have h0':listed[i]=false:=by
     simpa only[Array.getD_eq_getD_getElem?,Array.getElem?_eq_getElem h4,Option.getD_some] using h0
    have hsel:sel listed i=false:=by
     show listed.getD i false=false;simp only[Array.getD_eq_getD_getElem?,Array.getElem?_eq_getElem h4,Option.getD_some,h0']
    have RE:ops.toList[i]? =some o:=by simpa using ho
    have hoI:=rF RE OH;have US:i<cs.length:=by omega
    have hci:cs[i]? =some cs[i]:=List.getElem?_eq_getElem US;generalize cs[i]=c at hci;obtain⟨hod,si,_,hsi,hstep⟩:=hcs i o c hoI hci;have Sr:=hsp i o hoI;have Dp: ∀t,(∀(j:Nat) o',(ops.toList.take m)[j]? =some o'→o'.dst=some t→j<i∧ ∃e∈o.after.toList,Region.binds .any e=true∧e.on=j)→slot (aY (sel listed) cs 0 s0).fr t=slot si.fr t:=by
     intro t htr;rw[hsi];by_cases hex: ∃cj∈cs,cj.d=t
     ·obtain⟨cj,hm,rfl⟩:=hex
      obtain⟨j,hj⟩:=List.getElem?_of_mem hm;have uw:j<(ops.toList.take m).length:=by rw[←hlen];exact(List.getElem?_eq_some_iff.1 hj).1
      have hdj:=y8 j _ cj (List.getElem?_eq_getElem uw) hj;obtain⟨hlt,e,he,hb,heq⟩:=htr j _ (List.getElem?_eq_getElem uw) hdj;have hjs:sel listed j=true:=by rw[←heq];exact hafter e (by simpa using he) hb
      rw[lg (sel listed) j cs 0 s0 cj (Nat.zero_le _) (by simpa using hj) hnd (hfr cj hm),lg (fun k=>decide (k<i)) j cs 0 s0 cj (Nat.zero_le _) (by simpa using hj) hnd (hfr cj hm),if_pos hjs,if_pos (by simpa using hlt)]
     ·rw[iP _ t cs 0 s0 fun cj hm e=>hex ⟨cj,hm,e⟩,iP _ t cs 0 s0 fun cj hm e=>hex ⟨cj,hm,e⟩]
    have hclI:Closed (ops.toList.take m) (sel listed):=fun j oj hoj=>hcl j oj (Px hoj).1
    obtain⟨hnl,hnb⟩:=KO hlen y8 hnd hfr hst hen hclI hci hsel;have hst':=hstep (aY (sel listed) cs 0 s0) (D3 fun j want oj d hg hoj hd=>Dp d fun j' o' hj' hd'=>by
      have:j'=j:=by
       by_cases e:j'=j
       ·exact e
       ·exact absurd (hd'.trans hd.symm) ((hsp j' o' hj').2.1 j oj (rF hoj (by have:=(Sr.2.2.2.2 j want hg).1;omega)) e)
      subst this;exact Sr.2.2.2.2 j' want hg) (CR (zL fun t htm=>Dp t (Sr.2.2.2.1 t htm))) hnl hnb
    have Td:Alike (c.app (aY (sel listed) cs 0 s0)) (aY (sel (listed.setIfInBounds i true)) cs 0 s0):=by
     have h1:=zK (sel listed) i cs 0 s0 c (Nat.zero_le _) (by simpa using hci) hsel hnd;have e1:aY (fun j=>if j=i then true else sel listed j) cs 0 s0=aY (sel (listed.setIfInBounds i true)) cs 0 s0:=jL _ _ cs 0 s0 fun j _ _=>by
      show _=(listed.setIfInBounds i true).getD j false;by_cases ej:j=i
      ·subst ej;simp[h4]
      ·rw[if_neg ej,getD_set_ne false (fun h=>ej h.symm)]
     rw[e1] at h1;exact h1
    have hcl':Closed ops.toList (sel (listed.setIfInBounds i true)):=by
     intro j oj hoj hjs e he hb;have hjs:(listed.setIfInBounds i true).getD j false=true:=hjs;show(listed.setIfInBounds i true).getD e.on false=true;by_cases ej:j=i
     ·subst ej
      rw[RE] at hoj;simp only[Option.some.injEq] at hoj;subst hoj;exact getD_set_true (hafter e he hb)
     ·rw[getD_set_ne false (fun h=>ej h.symm)] at hjs
      exact getD_set_true (hcl j oj hoj hjs e he hb)
    have hcount:(((listed.setIfInBounds i true).toList).countP fun b=>!b)≤fuel:=by
     have h5:((listed.setIfInBounds i true).toList).countP (fun b=>!b)+1=listed.toList.countP fun b=>!b:=by
      rw[Array.toList_setIfInBounds];have hil:i<listed.toList.length:=by simpa using h4
      have e1:listed.toList=listed.toList.take i++listed.toList[i]::listed.toList.drop (i+1):=by
       rw[List.getElem_cons_drop,List.take_append_drop]
      have e2:listed.toList.set i true=listed.toList.take i++true::listed.toList.drop (i+1):=by
       rw[List.set_eq_take_append_cons_drop,if_pos hil]
      rw[e2];conv=>rhs;rw[e1]
      have e3:listed.toList[i]=false:=by simpa using h0'
      rw[e3];simp only[List.countP_append,List.countP_cons];simp;omega
     omega
    have next: ∀g' a' w',Inv E B G0 w0 (c.app (aY (sel listed) cs 0 s0)) g' a' w'→wpAny E.P .any ops Q fuel (listed.setIfInBounds i true) a' w':=fun g' a' w' hi'=>
     ih (listed.setIfInBounds i true) g' a' w' (by simpa using hls) hcount (fun j hj=>by rw[getD_set_ne false (by omega)];exact htl j hj) hcl' (hi'.alike Td)
    refine⟨o,ho,?_⟩;rcases hst' with⟨hw,eff,hor,_,hr⟩|⟨hw,heq⟩
    ·refine .inl ⟨fB hi.fr hw,?_⟩
     have hsub: ∀k ds,ax s0.bx k=some ds→ax (aY (sel listed) cs 0 s0).bx k=some ds:=by
      intro k ds hkd;have: ∀(l:List qo) (m:Nat) (s:St),(∀c∈l,∀x,c.bx=some x→c.d≠k)→ax s.bx k=some ds→ax (aY (sel listed) l m s).bx k=some ds:=by
       intro l;induction l with
       |nil=>intro m s _ h;exact h
       |cons c l ih=>
        intro m s hne h;unfold aY;refine ih (m+1) _ (fun c' hc'=>hne c' (List.mem_cons_of_mem _ hc')) ?_;split
        ·unfold qo.app
         cases hb:c.bx with
         |none=>exact h
         |some x=>
          unfold ax;have:(c.d==k)=false:=by rw[beq_eq_false_iff_ne];exact hne c List.mem_cons_self x hb
          rw[this,cond_false];exact h
        ·exact h
      refine this cs 0 s0 (fun cj hcj x hx e=>?_) hkd;obtain⟨j,hj⟩:=List.getElem?_of_mem hcj;have uw:j<(ops.toList.take m).length:=by rw[←hlen];exact(List.getElem?_eq_some_iff.1 hj).1
      have hdj:=y8 j _ cj (List.getElem?_eq_getElem uw) hj;unfold dN at hst;rw[List.all_eq_true] at hst;have h6:=hst _ (List.getElem_mem uw);rw[hdj] at h6;simp only[Bool.and_eq_true] at h6;exact(vz h6.2 k ds hkd).1 e.symm
     have hdo:=jU (ac:=a) (B:=B) (w:=w) (g:=g) (bx:=s0.bx) hE rfl hi.gok hi.own (hi.bxs.sub hsub) hi.hB hi.m1 (fun y=>eF hi.fr hi.nD y) hor;exact wC hi hdo hsub (fun h=>by cases h) hr fun g' a' w' h' _=>next g' a' w' h'
    ·refine .inr ⟨fB hi.fr hw,?_⟩
     refine next g _ w ?_;rw[heq];exact hi.put o.dst (v:=.tup []) (u:=undef) ⟨[],rfl,.nil⟩
   by_cases hL: ∃l,l∈Region.ready .any ops listed∧late l=true
   ·obtain⟨l,hlr,hll⟩:=hL
    obtain⟨hlm',hlb,hns,hQ⟩:=O6 l hll;obtain⟨ol,x,ix,hol,hox,hog,hap⟩:=T7 hlb;obtain⟨o,ho,hst⟩:=Vh l hlr hlm';rw[hol] at ho;simp only[Option.some.injEq] at ho;subst ho;rcases hst with⟨_,hwp⟩|⟨hw,_⟩
    rotate_left
    ·unfold Region.wanted at hw;rw[hog] at hw;cases hw
    obtain⟨v,hv,hK⟩:=T4 hox hwp;refine wpAny_first hol (Region.noSelect_spec hns) (fun c a w=>hQ c a ol.dst v w) fuel listed a w (fun j oj hj hjl hun hno=>?_) hlr (.inl ⟨by unfold Region.wanted;rw[hog],hv⟩) hK;refine hap j oj hj hjl (fun e he hb heq=>?_) hno;obtain⟨_,o2,ho2,hal⟩:=mem_ready.1 hlr;rw[hol] at ho2;simp only[Option.some.injEq] at ho2;subst ho2;have h1:=hal e he hb;rw[heq] at h1;have hj4:j<listed.size:=by have:=(Array.getElem?_eq_some_iff.1 hj).1;omega
    simp only[Array.getD_eq_getD_getElem?,Array.getElem?_eq_getElem hj4,Option.getD_some] at h1 hun;rw[h1] at hun;cases hun
   refine⟨fun hr=>?_,fun i him=>?_⟩
   ·exfalso
    apply F3
    have hall: ∀i,i<ops.size→listed.getD i true=true:=by
     intro i;induction i using Nat.strongRecOn with
     |_ i ih=>
      intro hi
      cases hl:listed.getD i true with
      |true=>rfl
      |false=>
       have hm:i∈Region.ready .any ops listed:=by
        rw[mem_ready];refine⟨hl,ops[i],by simp[hi],fun e he hb=>?_⟩;have h1:=hed i ops[i] (by simp[hi]) e (by simpa using he) hb;have h2:=ih e.on h1 (by omega);have h4:e.on<listed.size:=by omega
        simp only[Array.getD_eq_getD_getElem?,Array.getElem?_eq_getElem h4,Option.getD_some] at h2⊢;exact h2
       rw[hr] at hm
       cases hm
    intro i him;have h1:=hall i (by omega);have h4:i<listed.size:=by omega
    simp only[Array.getD_eq_getD_getElem?,Array.getElem?_eq_getElem h4,Option.getD_some] at h1⊢;exact h1
   obtain⟨h0,o,ho,hafter⟩:=mem_ready.1 him;have hi':i<ops.size:=(Array.getElem?_eq_some_iff.1 ho).1;have h4:i<listed.size:=by omega
   have h0':listed[i]=false:=by
    simpa only[Array.getD_eq_getD_getElem?,Array.getElem?_eq_getElem h4,Option.getD_some] using h0
   have hsel:sel listed i=false:=by
    show listed.getD i false=false;simp only[Array.getD_eq_getD_getElem?,Array.getElem?_eq_getElem h4,Option.getD_some,h0']
   have RE:ops.toList[i]? =some o:=by simpa using ho
   have OH:i<m:=by
    refine Nat.lt_of_not_le fun hmi=>F3 fun i' hi'm=>?_
    have key2: ∀(n:Nat) {i':Nat},waits ops.toList n i i'=true→listed.getD i' false=true:=by
     intro n i' hn
     cases n with
     |zero=>cases hn
     |succ n=>
      unfold waits at hn;rw[RE] at hn;simp only[List.any_eq_true,Bool.and_eq_true,Bool.or_eq_true,beq_iff_eq] at hn;obtain⟨e2,he2,hb2,h6⟩:=hn;have h7:=hafter e2 (by simpa using he2) hb2;rcases h6 with h6|h6
      ·rw[←h6];exact h7
      ·exact jW hcl n e2.on i' h6 h7
    obtain⟨_,hw⟩:=hch i o RE hmi;have hlt: ∀l,late l=true→listed.getD l false=true:=by
     intro l;induction l using Nat.strongRecOn with
     |_ l ihl=>
      intro hll
      cases hlq:listed.getD l false with
      |true=>rfl
      |false=>
       exfalso;obtain⟨hlm',hlb,_,_⟩:=O6 l hll;have hl4:l<listed.size:=by omega
       refine hL ⟨l,mem_ready.2 ⟨?_,ops[l]'(by omega),by simp,fun e he hb=>?_⟩,hll⟩
       ·simp only[Array.getD_eq_getD_getElem?,Array.getElem?_eq_getElem hl4,Option.getD_some] at hlq⊢
        exact hlq
       ·have h1:=hed l (ops[l]'(by omega)) (by simp) e (by simpa using he) hb
        rcases hw e.on (by omega) with⟨n,hn⟩|hl2
        ·exact key2 _ hn
        ·exact ihl e.on h1 hl2
    rcases hw i' (by omega) with⟨n0,hwk⟩|hl2;rotate_left
    ·exact hlt i' hl2
    exact key2 _ hwk
   obtain⟨o2,ho2,hst2⟩:=Vh i him OH;unfold wpOp;rw[ho2];simp only;rcases hst2 with⟨hw,h⟩|⟨hw,h⟩
   ·rw[if_pos hw];exact .inl h
   ·rw[if_neg (by rw[hw];decide)];exact h
 have hinit:Inv E B G0 w0 (aY (sel (Array.replicate ops.size false)) cs 0 s0) g a {w with drawn:=w.drawn+1}:=by
  have e1: ∀(l:List qo) (k:Nat),aY (sel (Array.replicate ops.size false)) l k s0=s0:=by
   intro l;induction l with
   |nil=>intro k;rfl
   |cons c l ih=>
    intro k;unfold aY;have:sel (Array.replicate ops.size false) k=false:=by
     show(Array.replicate ops.size false).getD k false=false;simp[Array.getElem?_replicate];split<;>rfl
    rw[this,if_neg (by decide)];exact ih (k+1)
  rw[e1];exact h.drew
 refine key ops.size (Array.replicate ops.size false) g a _ (by simp) ?_ (fun i _=>by simp[Array.getElem?_replicate];split<;>rfl) ?_ hinit
 ·exact Nat.le_trans List.countP_le_length (by simp)
 ·intro j o hj hs
  have hs:(Array.replicate ops.size false).getD j false=true:=hs;simp only[Array.getD_eq_getD_getElem?,Array.getElem?_replicate] at hs;exfalso;split at hs<;>cases hs
theorem GY (hE:tY E) {ops:Array Oper} {id:Nat} {Q:Exit→Act→World→Prop} {s0 sN:St} {g:Gh} {a:Act} {w:World} {m:Nat} (hok:nV s0.fr.length (ops.toList.take m)=true) {late:Nat→Bool}
  (hch: ∀(j:Nat) o,ops.toList[j]? =some o→m≤j→(∀e∈o.after.toList,Region.binds .any e=true→e.on<j)∧ ∀i,i<j→(∃n,waits ops.toList n j i=true)∨late i=true)
  (O6: ∀l,late l=true→l<m∧OZ ops l=true∧Region.noSelect ops=true∧ ∀c a d v w,Q (.panic c) (a.put d v) w→Q (.panic c) a w) (hst:dN (ops.toList.take m) s0=true) (hen:jR (ops.toList.take m) sN=true)
  (ht:Trace E ops.toList (some s0.bx) (ops.toList.take m) s0 sN) (hm:m≤ops.size) (h:Inv E B G0 w0 s0 g a w) (hk: ∀g' a' w',Inv E B G0 w0 sN g' a' w'→wpOps E.P ops Q (List.range' m (ops.size-m)) a' w'):(Code.region id ops true).wp E.P Q a w:=
 wp_region_any hE.mixed (KR hE hok hch O6 hst hen ht hm h hk)
theorem CS (sel:Nat→Bool) (k:Nat) (v:List V): ∀(l:List qo) (n:Nat) (s:St),(∀c∈l,∀x,c.bx=some x→c.d≠k)→aY sel l n ⟨s.fr,gN s.bx k v⟩=⟨(aY sel l n s).fr,gN (aY sel l n s).bx k v⟩
 |[],_,_,_=>rfl
 |c::l,n,s,h=>by
  have happ:c.app ⟨s.fr,gN s.bx k v⟩=⟨(c.app s).fr,gN (c.app s).bx k v⟩:=by
   unfold qo.app
   cases hb:c.bx with
   |none=>rfl
   |some x=>
    have:(c.d==k)=false:=by rw[beq_eq_false_iff_ne];exact h c List.mem_cons_self x hb
    simp only[gN,this,cond_false]
  unfold aY
  cases hs:sel n with
  |true=>rw[if_pos rfl,if_pos rfl,happ];exact CS sel k v l (n+1) _ fun c hc=>h c (List.mem_cons_of_mem _ hc)
  |false=>rw[if_neg (by decide),if_neg (by decide)];exact CS sel k v l (n+1) s fun c hc=>h c (List.mem_cons_of_mem _ hc)
theorem Ip (k:Nat) (v old:List V): ∀(l:List (Nat×List V)),ax l k=some old→gN (gN l k v) k old=l
 |[],h=>by cases h
 |(j,cs)::l,h=>by
  have hc: ∀(v:List V) (cs:List V) (l:List (Nat×List V)),gN ((j,cs)::l) k v=bif j==k then(j,v)::l else(j,cs)::gN l k v:=fun _ _ _=>rfl
  unfold ax at h;rw[hc]
  cases hj:j==k with
  |true=>
   rw[hj,cond_true] at h;simp only[Option.some.injEq] at h;rw[cond_true,hc,hj,cond_true,h]
  |false=>
   rw[hj,cond_false] at h;rw[cond_false,hc,hj,cond_false,Ip k v old l h]
theorem vU (k:Nat): ∀(l:List (Nat×List V)) (j:Nat) (ds:List V),ax (u7 l k) j=some ds→j≠k∧ax l j=some ds
 |[],j,ds,h=>by cases h
 |(i,cs)::l,j,ds,h=>by
  unfold u7 at h
  cases hi:i==k with
  |true=>
   rw[hi,cond_true] at h;obtain⟨h1,h2⟩:=vU k l j ds h;refine⟨h1,?_⟩;unfold ax;have:(i==j)=false:=by rw[beq_eq_false_iff_ne];rw[beq_iff_eq] at hi;intro e;exact h1 (e▸hi)
   rw[this];exact h2
  |false=>
   rw[hi,cond_false] at h;unfold ax at h⊢
   cases hj:i==j with
   |true=>
    rw[hj] at h;rw[beq_iff_eq] at hj;subst hj;exact⟨by rw[beq_eq_false_iff_ne] at hi;exact hi,h⟩
   |false=>
    rw[hj] at h;exact vU k l j ds h
theorem D6 (k:Nat) (v:List V): ∀(l:List (Nat×List V)) (j:Nat),j≠k→ax (gN l k v) j=ax l j
 |[],_,_=>rfl
 |(i,cs)::l,j,h=>by
  unfold gN
  cases hi:i==k with
  |true=>
   rw[cond_true];rw[beq_iff_eq] at hi;subst hi;unfold ax;have:(i==j)=false:=by rw[beq_eq_false_iff_ne];exact fun e=>h e.symm
   rw[this,cond_false,cond_false]
  |false=>
   rw[cond_false];unfold ax;rw[D6 k v l j h]
theorem D7 (hE:tY E) {ops:Array Oper} {id:Nat} {Q:Exit→Act→World→Prop} {s0 s1 sN:St} {g:Gh} {a:Act} {w:World} {m:Nat} {p:Oper} {k off:Nat} {cells old:List V} (hok:nV s0.fr.length (ops.toList.take m)=true)
  (hp:ops.toList[m]? =some p) (hea:Mf ops.toList m=true) (hop:EA E s0.fr s0.bx p=some (true,.put k off cells)) (hold:ax s0.bx k=some old) (hbld:jB (over old off cells)=true→jB old=true) (hs1:s1=⟨s0.fr,gN s0.bx k (over old off cells)⟩)
  (hch: ∀(j:Nat) o,ops.toList[j]? =some o→m+1≤j→(∀e∈o.after.toList,Region.binds .any e=true→e.on<j)∧ ∀i,i<j→ ∃n,waits ops.toList n j i=true)
  (Ss:dN (ops.toList.take m) s0=true) (hst1:dN (ops.toList.take m) s1=true) (hen1:jR (ops.toList.take m) sN=true) (hen0:jR (ops.toList.take m) ⟨sN.fr,gN sN.bx k old⟩=true)
  (ht:Trace E ops.toList (some (u7 s0.bx k)) (ops.toList.take m) s1 sN) (hm:m+1≤ops.size) (h:Inv E B G0 w0 s0 g a w) (hk: ∀g' a' w',Inv E B G0 w0 sN g' a' w'→wpOps E.P ops Q (List.range' (m+1) (ops.size-(m+1))) a' w'):(Code.region id ops true).wp E.P Q a w:=by
 have hsp:=DZ hok;have hlm:(ops.toList.take m).length=m:=by rw[List.length_take];simp;omega
 have hdst: ∀o∈ops.toList.take m,∃d,o.dst=some d:=by
  intro o ho;obtain⟨i,hi⟩:=List.getElem?_of_mem ho;obtain⟨⟨d,hd,_⟩,_⟩:=hsp i o hi;exact⟨d,hd⟩
 obtain⟨cs,hlen,hcs,hfin⟩:=zM (ops.toList.take m) s1 sN hdst ht;subst hfin;have y8: ∀(i:Nat) o c,(ops.toList.take m)[i]? =some o→cs[i]? =some c→o.dst=some c.d:=fun i o c h1 h2=>(hcs i o c h1 h2).1
 have hnd:(cs.map (·.d)).Nodup:=by
  refine List.pairwise_iff_getElem.2 fun i j hi hj hij e=>?_
  rw[List.length_map] at hi hj;have UT:i<(ops.toList.take m).length:=by omega
  have uw:j<(ops.toList.take m).length:=by omega
  have h1:=y8 i _ _ (List.getElem?_eq_getElem UT) (List.getElem?_eq_getElem hi);have h2:=y8 j _ _ (List.getElem?_eq_getElem uw) (List.getElem?_eq_getElem hj);simp only[List.getElem_map] at e;refine(hsp i _ (List.getElem?_eq_getElem UT)).2.1 j _ (List.getElem?_eq_getElem uw) (by omega) ?_;rw[h1,h2,e]
 have hfr: ∀c∈cs,c.d<s0.fr.length:=by
  intro c hc;obtain⟨i,hi⟩:=List.getElem?_of_mem hc;have UT:i<(ops.toList.take m).length:=by rw[←hlen];exact(List.getElem?_eq_some_iff.1 hi).1
  obtain⟨⟨d,hd,hlt⟩,_⟩:=hsp i _ (List.getElem?_eq_getElem UT);have:=y8 i _ c (List.getElem?_eq_getElem UT) hi;rw[this] at hd;simp only[Option.some.injEq] at hd;rw[hd];exact hlt
 have hsz:ops.toList.length=ops.size:=by simp
 have hpm:m<ops.toList.length:=by omega
 obtain⟨hpd,hpg,hpa,hpr⟩:p.dst=none∧p.guard=none∧(∀e∈p.after.toList,Region.binds .any e=false)∧ ∀t∈u6 p,∀o∈ops.toList.take m,o.dst≠some t:=by
  unfold Mf at hea;rw[hp] at hea;simp only[Bool.and_eq_true,List.all_eq_true,Bool.not_eq_true',bne_iff_ne,ne_eq] at hea;obtain⟨⟨⟨q1,q2⟩,q3⟩,q4⟩:=hea;refine⟨?_,?_,q3,q4⟩
  ·cases hq:p.dst with
   |none=>rfl
   |some d=>rw[hq] at q1;cases q1
  ·cases hq:p.guard with
   |none=>rfl
   |some d=>rw[hq] at q2;cases q2
 have hcdk: ∀c∈cs,∀x,c.bx=some x→c.d≠k:=by
  intro cj hcj x _ e;obtain⟨j,hj⟩:=List.getElem?_of_mem hcj;have uw:j<(ops.toList.take m).length:=by rw[←hlen];exact(List.getElem?_eq_some_iff.1 hj).1
  have hdj:=y8 j _ cj (List.getElem?_eq_getElem uw) hj;unfold dN at Ss;rw[List.all_eq_true] at Ss;have h6:=Ss _ (List.getElem_mem uw);rw[hdj] at h6;simp only[Bool.and_eq_true] at h6;exact(vz h6.2 k old hold).1 e.symm
 have hput: ∀sel:Nat→Bool,aY sel cs 0 s1=⟨(aY sel cs 0 s0).fr,gN (aY sel cs 0 s0).bx k (over old off cells)⟩:=fun sel=>by
  rw[hs1];exact CS sel k _ cs 0 s0 hcdk
 have hsub0: ∀(sel:Nat→Bool) (l:List qo) (n:Nat) (s:St) (j:Nat) (ds:List V),(∀c∈l,∀x,c.bx=some x→c.d≠j)→ax s.bx j=some ds→ax (aY sel l n s).bx j=some ds:=by
  intro sel l;induction l with
  |nil=>intro n s j ds _ h;exact h
  |cons c l ih=>
   intro n s j ds hne h;unfold aY;refine ih (n+1) _ j ds (fun c' hc'=>hne c' (List.mem_cons_of_mem _ hc')) ?_;split
   ·unfold qo.app
    cases hb:c.bx with
    |none=>exact h
    |some x=>
     unfold ax;have:(c.d==j)=false:=by rw[beq_eq_false_iff_ne];exact hne c List.mem_cons_self x hb
     rw[this,cond_false];exact h
   ·exact h
 have hen00:jR (ops.toList.take m) (aY (fun _=>true) cs 0 s0)=true:=by
  have e:=hput (fun _=>true);rw[e] at hen0;simp only at hen0;rw[Ip k _ old _ (hsub0 _ cs 0 s0 k old hcdk hold)] at hen0;exact hen0
 have hnew: ∀j ds,ax s0.bx j=some ds→ ∀c∈cs,∀x,c.bx=some x→c.d≠j:=by
  intro j ds hkd cj hcj x hx e;obtain⟨i,hi⟩:=List.getElem?_of_mem hcj;have uw:i<(ops.toList.take m).length:=by rw[←hlen];exact(List.getElem?_eq_some_iff.1 hi).1
  have hdj:=y8 i _ cj (List.getElem?_eq_getElem uw) hi;unfold dN at Ss;rw[List.all_eq_true] at Ss;have h6:=Ss _ (List.getElem_mem uw);rw[hdj] at h6;simp only[Bool.and_eq_true] at h6;exact(vz h6.2 j ds hkd).1 e.symm
 refine wp_region_any hE.mixed ?_;let sel (listed:Array Bool):Nat→Bool:=fun i=>listed.getD i false
 let base (listed:Array Bool):St:=if listed.getD m false=true then s1 else s0
 have hbase: ∀listed,base listed=s0∨base listed=s1:=fun listed=>by
  show(if listed.getD m false=true then s1 else s0)=s0∨_;by_cases e:listed.getD m false=true
  ·exact .inr (if_pos e)
  ·exact .inl (if_neg e)
 have hbfr: ∀s',(s'=s0∨s'=s1)→s'.fr=s0.fr:=by
  rintro s' (rfl|rfl)
  ·rfl
  ·rw[hs1]
 have hbst: ∀s',(s'=s0∨s'=s1)→dN (ops.toList.take m) s'=true∧jR (ops.toList.take m) (aY (fun _=>true) cs 0 s')=true:=by
  rintro s' (rfl|rfl)
  ·exact⟨Ss,hen00⟩
  ·exact⟨hst1,hen1⟩
 have hbsub: ∀s',(s'=s0∨s'=s1)→ ∀(sel:Nat→Bool) j ds,ax (u7 s0.bx k) j=some ds→ax (aY sel cs 0 s').bx j=some ds:=by
  rintro s' hb sel j ds hj;obtain⟨h1,h2⟩:=vU k _ j ds hj;refine hsub0 sel cs 0 s' j ds (hnew j ds h2) ?_;rcases hb with rfl|rfl
  ·exact h2
  ·rw[hs1];exact(D6 k _ _ j h1).trans h2
 have hed: ∀(j:Nat) o,ops.toList[j]? =some o→ ∀e∈o.after.toList,Region.binds .any e=true→e.on<j:=by
  intro j o hj;by_cases hjm:j<m
  ·exact(hsp j o (rF hj hjm)).2.2.1
  ·by_cases hje:j=m
   ·subst hje
    rw[hp] at hj;simp only[Option.some.injEq] at hj;subst hj;intro e he hb;rw[hpa e he] at hb
    cases hb
   ·exact(hch j o hj (by omega)).1
 have key: ∀(fuel:Nat) (listed:Array Bool) (g:Gh) (a:Act) (w:World),listed.size=ops.size→(listed.toList.countP fun b=>!b)≤fuel→(∀i,m+1≤i→listed.getD i false=false)→Closed ops.toList (sel listed)→Inv E B G0 w0 (aY (sel listed) cs 0 (base listed)) g a w→wpAny E.P .any ops Q fuel listed a w:=by
  have full: ∀(fuel:Nat) (listed:Array Bool) (g:Gh) (a:Act) (w:World),listed.size=ops.size→(listed.toList.countP fun b=>!b)≤fuel→(∀i,m+1≤i→listed.getD i false=false)→(∀i,i<m+1→listed.getD i false=true)→Inv E B G0 w0 (aY (sel listed) cs 0 (base listed)) g a w→wpAny E.P .any ops Q fuel listed a w:=by
   intro fuel listed g a w hls hc htl hall hi;have e1:aY (sel listed) cs 0 (base listed)=aY (fun _=>true) cs 0 s1:=by
    have e0:base listed=s1:=if_pos (hall m (by omega));rw[e0];exact jL _ _ cs 0 s1 fun i _ hi=>hall i (by omega)
   rw[e1] at hi;refine Py (fun j o ho hj=>⟨(hch j o ho hj).1,fun i hmi hij=>(hch j o ho hj).2 i hij⟩) hed (ops.size-(m+1)) (m+1) fuel listed a w (by omega) (Nat.le_refl _) hls (fun i hi=>?_) ?_ (hk g a w hi)
   ·by_cases him:i<m+1
    ·rw[hall i him];simp[him]
    ·rw[htl i (by omega)];simp[him]
   ·refine Nat.le_trans ?_ hc
    have h1:(listed.toList.drop (m+1)).countP (fun b=>!b)=(listed.toList.drop (m+1)).length:=by
     rw[List.countP_eq_length];intro b hb;obtain⟨i,hi⟩:=List.getElem?_of_mem hb;rw[List.getElem?_drop] at hi;have h2:=htl (m+1+i) (by omega);have h3:listed[m+1+i]? =some b:=by simpa using hi
     rw[Array.getD_eq_getD_getElem?,h3,Option.getD_some] at h2;rw[h2];rfl
    have h2:(listed.toList.drop (m+1)).countP (fun b=>!b)≤listed.toList.countP fun b=>!b:=List.Sublist.countP_le (List.drop_sublist _ _)
    rw[h1,List.length_drop,Array.length_toList,hls] at h2;exact h2
  intro fuel;induction fuel with
  |zero=>
   intro listed g a w hls hc htl hcl hi;refine full 0 listed g a w hls hc htl (fun i him=>?_) hi;have h4:i<listed.size:=by omega
   cases hq:listed.getD i false with
   |true=>rfl
   |false=>
    exfalso;have h0:listed[i]=false:=by
     simpa only[Array.getD_eq_getD_getElem?,Array.getElem?_eq_getElem h4,Option.getD_some] using hq
    have:0<listed.toList.countP fun b=>!b:=List.countP_pos_iff.2 ⟨listed[i],by simp,by rw[h0];rfl⟩
    omega
  |succ fuel ih=>
   intro listed g a w hls hc htl hcl hi;by_cases F3: ∀i,i<m+1→listed.getD i false=true
   ·exact full (fuel+1) listed g a w hls hc htl F3 hi
   have Vh: ∀i,i∈Region.ready .any ops listed→i<m→ ∃o,ops[i]? =some o∧((Region.wanted o (yielded ops a.tmps)=true∧o.wp E.P a w (wpAny E.P .any ops Q fuel (listed.setIfInBounds i true)) Q)∨(Region.wanted o (yielded ops a.tmps)=false∧wpAny E.P .any ops Q fuel (listed.setIfInBounds i true) (a.put o.dst undef) w)):=by
    intro i him OH;have hi:=hi;obtain⟨h0,o,ho,hafter⟩:=mem_ready.1 him;have hi':i<ops.size:=(Array.getElem?_eq_some_iff.1 ho).1;have h4:i<listed.size:=by omega
    have h0':listed[i]=false:=by
     simpa only[Array.getD_eq_getD_getElem?,Array.getElem?_eq_getElem h4,Option.getD_some] using h0
    have hsel:sel listed i=false:=by
     show listed.getD i false=false;simp only[Array.getD_eq_getD_getElem?,Array.getElem?_eq_getElem h4,Option.getD_some,h0']
    have RE:ops.toList[i]? =some o:=by simpa using ho
    have hoI:=rF RE OH;have US:i<cs.length:=by omega
    have hci:cs[i]? =some cs[i]:=List.getElem?_eq_getElem US;generalize cs[i]=c at hci;obtain⟨hod,si,_,hsi,hstep⟩:=hcs i o c hoI hci;have Sr:=hsp i o hoI;have hb0:=hbase listed;generalize hbe:base listed=sb at hi hb0;have hfb:=hbfr sb hb0;have hf1:=hbfr s1 (.inr rfl);have hfr1: ∀c∈cs,c.d<s1.fr.length:=fun c hc=>by rw[hf1];exact hfr c hc
    have hfrb: ∀c∈cs,c.d<sb.fr.length:=fun c hc=>by rw[hfb];exact hfr c hc
    have Dp: ∀t,(∀(j:Nat) o',(ops.toList.take m)[j]? =some o'→o'.dst=some t→j<i∧ ∃e∈o.after.toList,Region.binds .any e=true∧e.on=j)→slot (aY (sel listed) cs 0 sb).fr t=slot si.fr t:=by
     intro t htr;rw[hsi];by_cases hex: ∃cj∈cs,cj.d=t
     ·obtain⟨cj,hm,rfl⟩:=hex
      obtain⟨j,hj⟩:=List.getElem?_of_mem hm;have uw:j<(ops.toList.take m).length:=by rw[←hlen];exact(List.getElem?_eq_some_iff.1 hj).1
      have hdj:=y8 j _ cj (List.getElem?_eq_getElem uw) hj;obtain⟨hlt,e,he,hb,heq⟩:=htr j _ (List.getElem?_eq_getElem uw) hdj;have hjs:sel listed j=true:=by rw[←heq];exact hafter e (by simpa using he) hb
      rw[lg (sel listed) j cs 0 sb cj (Nat.zero_le _) (by simpa using hj) hnd (hfrb cj hm),lg (fun k=>decide (k<i)) j cs 0 s1 cj (Nat.zero_le _) (by simpa using hj) hnd (hfr1 cj hm),if_pos hjs,if_pos (by simpa using hlt)]
     ·rw[iP _ t cs 0 sb fun cj hm e=>hex ⟨cj,hm,e⟩,iP _ t cs 0 s1 fun cj hm e=>hex ⟨cj,hm,e⟩,hfb,hf1]
    have hclI:Closed (ops.toList.take m) (sel listed):=fun j oj hoj=>hcl j oj (Px hoj).1
    obtain⟨hnl,hnb⟩:=KO hlen y8 hnd hfrb (hbst sb hb0).1 (hbst sb hb0).2 hclI hci hsel;have hst':=hstep (aY (sel listed) cs 0 sb) (D3 fun j want oj d hg hoj hd=>Dp d fun j' o' hj' hd'=>by
      have:j'=j:=by
       by_cases e:j'=j
       ·exact e
       ·exact absurd (hd'.trans hd.symm) ((hsp j' o' hj').2.1 j oj (rF hoj (by have:=(Sr.2.2.2.2 j want hg).1;omega)) e)
      subst this;exact Sr.2.2.2.2 j' want hg) (CR (zL fun t htm=>Dp t (Sr.2.2.2.1 t htm))) hnl hnb
    have Td:Alike (c.app (aY (sel listed) cs 0 sb)) (aY (sel (listed.setIfInBounds i true)) cs 0 sb):=by
     have h1:=zK (sel listed) i cs 0 sb c (Nat.zero_le _) (by simpa using hci) hsel hnd;have e1:aY (fun j=>if j=i then true else sel listed j) cs 0 sb=aY (sel (listed.setIfInBounds i true)) cs 0 sb:=jL _ _ cs 0 sb fun j _ _=>by
      show _=(listed.setIfInBounds i true).getD j false;by_cases ej:j=i
      ·subst ej;simp[h4]
      ·rw[if_neg ej,getD_set_ne false (fun h=>ej h.symm)]
     rw[e1] at h1;exact h1
    have hcl':Closed ops.toList (sel (listed.setIfInBounds i true)):=by
     intro j oj hoj hjs e he hb;have hjs:(listed.setIfInBounds i true).getD j false=true:=hjs;show(listed.setIfInBounds i true).getD e.on false=true;by_cases ej:j=i
     ·subst ej
      rw[RE] at hoj;simp only[Option.some.injEq] at hoj;subst hoj;exact getD_set_true (hafter e he hb)
     ·rw[getD_set_ne false (fun h=>ej h.symm)] at hjs
      exact getD_set_true (hcl j oj hoj hjs e he hb)
    have hcount:(((listed.setIfInBounds i true).toList).countP fun b=>!b)≤fuel:=by
     have h5:((listed.setIfInBounds i true).toList).countP (fun b=>!b)+1=listed.toList.countP fun b=>!b:=by
      rw[Array.toList_setIfInBounds];have hil:i<listed.toList.length:=by simpa using h4
      have e1:listed.toList=listed.toList.take i++listed.toList[i]::listed.toList.drop (i+1):=by
       rw[List.getElem_cons_drop,List.take_append_drop]
      have e2:listed.toList.set i true=listed.toList.take i++true::listed.toList.drop (i+1):=by
       rw[List.set_eq_take_append_cons_drop,if_pos hil]
      rw[e2];conv=>rhs;rw[e1]
      have e3:listed.toList[i]=false:=by simpa using h0'
      rw[e3];simp only[List.countP_append,List.countP_cons];simp;omega
     omega
    have hbl:base (listed.setIfInBounds i true)=sb:=by
     show(if(listed.setIfInBounds i true).getD m false=true then s1 else s0)=sb;rw[getD_set_ne false (by omega)];exact hbe
    have next: ∀g' a' w',Inv E B G0 w0 (c.app (aY (sel listed) cs 0 sb)) g' a' w'→wpAny E.P .any ops Q fuel (listed.setIfInBounds i true) a' w':=fun g' a' w' hi'=>
     ih (listed.setIfInBounds i true) g' a' w' (by simpa using hls) hcount (fun j hj=>by rw[getD_set_ne false (by omega)];exact htl j hj) hcl' (by rw[hbl];exact hi'.alike Td)
    refine⟨o,ho,?_⟩;rcases hst' with⟨hw,eff,hor,_,hr⟩|⟨hw,heq⟩
    ·refine .inl ⟨fB hi.fr hw,?_⟩
     have hsub:=hbsub sb hb0 (sel listed);have hdo:=jU (ac:=a) (B:=B) (w:=w) (g:=g) (bx:=u7 s0.bx k) hE rfl hi.gok hi.own (hi.bxs.sub hsub) hi.hB hi.m1 (fun y=>eF hi.fr hi.nD y) hor;exact wC hi hdo hsub (fun h=>by cases h) hr fun g' a' w' h' _=>next g' a' w' h'
    ·refine .inr ⟨fB hi.fr hw,?_⟩
     refine next g _ w ?_;rw[heq];exact hi.put o.dst (v:=.tup []) (u:=undef) ⟨[],rfl,.nil⟩
   refine⟨fun hr=>?_,fun i him=>?_⟩
   ·exfalso
    apply F3
    have hall: ∀i,i<ops.size→listed.getD i true=true:=by
     intro i;induction i using Nat.strongRecOn with
     |_ i ih=>
      intro hi
      cases hl:listed.getD i true with
      |true=>rfl
      |false=>
       have hm:i∈Region.ready .any ops listed:=by
        rw[mem_ready];refine⟨hl,ops[i],by simp[hi],fun e he hb=>?_⟩;have h1:=hed i ops[i] (by simp[hi]) e (by simpa using he) hb;have h2:=ih e.on h1 (by omega);have h4:e.on<listed.size:=by omega
        simp only[Array.getD_eq_getD_getElem?,Array.getElem?_eq_getElem h4,Option.getD_some] at h2⊢;exact h2
       rw[hr] at hm
       cases hm
    intro i him;have h1:=hall i (by omega);have h4:i<listed.size:=by omega
    simp only[Array.getD_eq_getD_getElem?,Array.getElem?_eq_getElem h4,Option.getD_some] at h1⊢;exact h1
   obtain⟨h0,o,ho,hafter⟩:=mem_ready.1 him;have hi':i<ops.size:=(Array.getElem?_eq_some_iff.1 ho).1;have h4:i<listed.size:=by omega
   have h0':listed[i]=false:=by
    simpa only[Array.getD_eq_getD_getElem?,Array.getElem?_eq_getElem h4,Option.getD_some] using h0
   have hsel:sel listed i=false:=by
    show listed.getD i false=false;simp only[Array.getD_eq_getD_getElem?,Array.getElem?_eq_getElem h4,Option.getD_some,h0']
   have RE:ops.toList[i]? =some o:=by simpa using ho
   have OH:i<m+1:=by
    refine Nat.lt_of_not_le fun hmi=>F3 fun i' hi'm=>?_
    obtain⟨_,hw⟩:=hch i o RE hmi;obtain⟨n0,hwk⟩:=hw i' (by omega)
    cases n0 with
    |zero=>cases hwk
    |succ n=>
     unfold waits at hwk;rw[RE] at hwk;simp only[List.any_eq_true,Bool.and_eq_true,Bool.or_eq_true,beq_iff_eq] at hwk;obtain⟨e2,he2,hb2,h6⟩:=hwk;have h7:=hafter e2 (by simpa using he2) hb2;rcases h6 with h6|h6
     ·rw[←h6];exact h7
     ·exact jW hcl n e2.on i' h6 h7
   by_cases him2:i=m
   ·
    subst him2;have hoP:o=p:=by rw[RE] at hp;simpa using hp
    subst hoP;unfold wpOp;rw[ho];simp only;have hwt:Region.wanted o (yielded ops a.tmps)=true:=by unfold Region.wanted;rw[hpg]
    rw[if_pos hwt];refine .inl ?_;have hb0:base listed=s0:=if_neg (by
     have:=hsel;show¬listed.getD i false=true;rw[show listed.getD i false=false from this];decide)
    rw[hb0] at hi;have hop2:EA E (aY (sel listed) cs 0 s0).fr s0.bx o=some (true,.put k off cells):=by
     rw[CR (fr':=s0.fr) (zL fun t htm=>iP _ t cs 0 s0 fun cj hm2 e=>?_)]
     ·exact hop
     ·obtain⟨j,hj⟩:=List.getElem?_of_mem hm2
      have uw:j<(ops.toList.take i).length:=by rw[←hlen];exact(List.getElem?_eq_some_iff.1 hj).1
      have hdj:=y8 j _ cj (List.getElem?_eq_getElem uw) hj;exact hpr t htm _ (List.getElem_mem uw) (by rw[hdj,e])
    have hsub: ∀j ds,ax s0.bx j=some ds→ax (aY (sel listed) cs 0 s0).bx j=some ds:=fun j ds hj=>hsub0 _ cs 0 s0 j ds (hnew j ds hj) hj
    have hdo:=jU (ac:=a) (B:=B) (w:=w) (g:=g) (bx:=s0.bx) hE rfl hi.gok hi.own (hi.bxs.sub hsub) hi.hB hi.m1 (fun y=>eF hi.fr hi.nD y) hop2;refine wC (dr:=true) hi hdo hsub (fun h=>by cases h) (s':=St.put ⟨(aY (sel listed) cs 0 s0).fr,gN (aY (sel listed) cs 0 s0).bx k (over old off cells)⟩ o.dst (.tup [])) ⟨old,hsub k old hold,hbld,rfl⟩ fun g' a' w' h' _=>?_
    rw[hpd] at h';have h':Inv E B G0 w0 ⟨(aY (sel listed) cs 0 s0).fr,gN (aY (sel listed) cs 0 s0).bx k (over old off cells)⟩ g' a' w':=h';rw[←hput] at h';have hcount:(((listed.setIfInBounds i true).toList).countP fun b=>!b)≤fuel:=by
     have h5:((listed.setIfInBounds i true).toList).countP (fun b=>!b)+1=listed.toList.countP fun b=>!b:=by
      rw[Array.toList_setIfInBounds];have hil:i<listed.toList.length:=by simpa using h4
      have e1:listed.toList=listed.toList.take i++listed.toList[i]::listed.toList.drop (i+1):=by
       rw[List.getElem_cons_drop,List.take_append_drop]
      have e2:listed.toList.set i true=listed.toList.take i++true::listed.toList.drop (i+1):=by
       rw[List.set_eq_take_append_cons_drop,if_pos hil]
      rw[e2];conv=>rhs;rw[e1]
      have e3:listed.toList[i]=false:=by simpa using h0'
      rw[e3];simp only[List.countP_append,List.countP_cons];simp;omega
     omega
    have hbl:base (listed.setIfInBounds i true)=s1:=by
     show(if(listed.setIfInBounds i true).getD i false=true then s1 else s0)=s1;rw[if_pos];simp[h4]
    have hse:aY (sel (listed.setIfInBounds i true)) cs 0 s1=aY (sel listed) cs 0 s1:=jL _ _ cs 0 s1 fun j _ hj=>by
     show(listed.setIfInBounds i true).getD j false=listed.getD j false;exact getD_set_ne false (by omega)
    refine ih (listed.setIfInBounds i true) g' a' w' (by simpa using hls) hcount (fun j hj=>by rw[getD_set_ne false (by omega)];exact htl j hj) ?_ (by rw[hbl,hse];exact h');intro j oj hoj hjs e he hb;have hjs:(listed.setIfInBounds i true).getD j false=true:=hjs;show(listed.setIfInBounds i true).getD e.on false=true;by_cases ej:j=i
    ·subst ej
     rw[RE] at hoj;simp only[Option.some.injEq] at hoj;subst hoj;rw[hpa e (by simpa using he)] at hb;cases hb
    ·rw[getD_set_ne false (fun h=>ej h.symm)] at hjs
     exact getD_set_true (hcl j oj hoj hjs e he hb)
   have OH:i<m:=by omega
   obtain⟨o2,ho2,hst2⟩:=Vh i him OH;unfold wpOp;rw[ho2];simp only;rcases hst2 with⟨hw,h⟩|⟨hw,h⟩
   ·rw[if_pos hw];exact .inl h
   ·rw[if_neg (by rw[hw];decide)];exact h
 have hb00:base (Array.replicate ops.size false)=s0:=if_neg (by simp[Array.getElem?_replicate];split<;>decide);have hinit:Inv E B G0 w0 (aY (sel (Array.replicate ops.size false)) cs 0 (base (Array.replicate ops.size false))) g a {w with drawn:=w.drawn+1}:=by
  rw[hb00];have e1: ∀(l:List qo) (k:Nat),aY (sel (Array.replicate ops.size false)) l k s0=s0:=by
   intro l;induction l with
   |nil=>intro k;rfl
   |cons c l ih=>
    intro k;unfold aY;have:sel (Array.replicate ops.size false) k=false:=by
     show(Array.replicate ops.size false).getD k false=false;simp[Array.getElem?_replicate];split<;>rfl
    rw[this,if_neg (by decide)];exact ih (k+1)
  rw[e1];exact h.drew
 refine key ops.size (Array.replicate ops.size false) g a _ (by simp) ?_ (fun i _=>by simp[Array.getElem?_replicate];split<;>rfl) ?_ hinit
 ·exact Nat.le_trans List.countP_le_length (by simp)
 ·intro j o hj hs
  have hs:(Array.replicate ops.size false).getD j false=true:=hs;simp only[Array.getD_eq_getD_getElem?,Array.getElem?_replicate] at hs;exfalso;split at hs<;>cases hs
theorem KS (ops:Array Oper):fA ops.toList≤ops.size:=by
 have h0: ∀l:List Oper,lJ l≤l.length:=by
  intro l;induction l with
  |nil=>exact Nat.le_refl 0
  |cons o l ih=>
   unfold lJ
   cases o.dst with
   |none=>exact Nat.zero_le _
   |some d=>exact Nat.succ_le_succ ih
 have h1: ∀(l:List Oper) (k:Nat),Md l k≤k:=by
  intro l k;induction k with
  |zero=>exact Nat.le_refl 0
  |succ k ih=>
   unfold Md
   cases AJ l k with
   |true=>exact Nat.le_succ_of_le ih
   |false=>exact Nat.le_refl _
 have:=Nat.le_trans (h1 ops.toList (lJ ops.toList)) (h0 ops.toList);exact Nat.le_trans this (by simp)
def HT (E:Env):List Oper→St→St→Prop
 |[],s,s'=>s'=s
 |o::l,s,s'=>∃v,EA E s.fr s.bx o=some (true,.val v)∧HT E l (s.put o.dst v) s'
theorem VI {α:Type} {E:Env}: ∀(l:List Oper) (s:St) (K:St→Option α) (r:α),evH E l s K=some r→ ∃s',HT E l s s'∧K s'=some r
 |[],s,K,r,h=>⟨s,rfl,h⟩
 |o::l,s,K,r,h=>by
  unfold evH at h;split at h
  ·rename_i c v ho
   rcases kN h with⟨rfl,h⟩|⟨_,h⟩
   ·obtain⟨s',h1,h2⟩:=VI l _ K r h
    exact⟨s',⟨v,ho,h1⟩,h2⟩
   ·cases h
  ·cases h
theorem NW {P:Program} {ops:Array Oper} {L:List Nat} {l:Nat} (h:wu P ops L l=true): ∃o,ops[l]? =some o∧AP P o=true∧(∀e∈o.after,Region.binds .any e=true→e.on∈L)∧
  ∀(j:Nat) oj,ops[j]? =some oj→j≠l→(∀e∈o.after,Region.binds .any e=true→e.on≠j)→(∀e∈oj.after,Region.binds .any e=true→e.on≠l)→o.apart ops oj=true:=by
 unfold wu at h
 cases ho:ops[l]? with
 |none=>rw[ho] at h;cases h
 |some o=>
  rw[ho] at h;simp only[Bool.and_eq_true] at h;obtain⟨⟨h1,h2⟩,h3⟩:=h;rw[List.all_eq_true] at h2 h3;refine⟨o,rfl,h1,fun e he hb=>?_,fun j oj hj hjl hn1 hn2=>?_⟩
  ·have:=h2 e.on (by unfold fM;exact List.mem_map.2 ⟨e,List.mem_filter.2 ⟨by simpa using he,hb⟩,rfl⟩)
   simpa using this
  ·have h4:=h3 j (List.mem_range.2 (Array.getElem?_eq_some_iff.1 hj).1)
   rw[hj] at h4;simp only[Bool.or_eq_true,beq_iff_eq,hjl,false_or,List.contains_iff_mem] at h4;rcases h4 with(h4|h4)|h4
   ·obtain⟨e,he,hb,heq⟩:=iQ h4
    exact absurd heq (hn1 e (by simpa using he) hb)
   ·obtain⟨e,he,hb,heq⟩:=iQ h4
    exact absurd heq (hn2 e (by simpa using he) hb)
   ·exact h4
def sU (P:Program) (ops:Array Oper):List Nat→List Nat→Prop
 |_,[]=>True
 |L,l::r=>l∉L∧wu P ops L l=true∧sU P ops (L++[l]) r
theorem D8 {P:Program} {ops:Array Oper}: ∀(r L:List Nat) (l:Nat),sU P ops L r→l∉L++r→wu P ops (L++r) l=true→sU P ops L (r++[l])
 |[],L,l,_,h1,h2=>by
  rw[List.append_nil] at h1 h2;exact⟨h1,h2,trivial⟩
 |x::r,L,l,h,h1,h2=>by
  refine⟨h.1,h.2.1,D8 r (L++[x]) l h.2.2 ?_ ?_⟩
  ·rw[List.append_assoc];exact h1
  ·rw[List.append_assoc];exact h2
theorem qI {P:Program} {ops:Array Oper}: ∀(r L:List Nat),sU P ops [] L→(L++r).Nodup→sU P ops [] (o9 P ops r L)∧(o9 P ops r L).Nodup∧ ∀x∈o9 P ops r L,x∈L++r
 |[],L,h,hn=>⟨h,by simpa[o9] using hn,fun x hx=>by simpa[o9] using hx⟩
 |l::r,L,h,hn=>by
  have hn':(L++[l]++r).Nodup:=by simpa using hn
  unfold o9
  cases hc:wu P ops L l with
  |true=>
   rw[cond_true];have hl:l∉L:=by
    rw[List.nodup_append] at hn;intro hm;exact hn.2.2 l hm l List.mem_cons_self rfl
   obtain⟨q1,q2,q3⟩:=qI r (L++[l]) (D8 L [] l h (by simpa using hl) (by simpa using hc)) hn';exact⟨q1,q2,fun x hx=>by simpa using q3 x hx⟩
  |false=>
   rw[cond_false];have hn2:(L++r).Nodup:=by
    rw[List.append_assoc] at hn';exact List.Sublist.nodup (List.Sublist.append_left (List.sublist_append_right [l] r) L) hn'
   obtain⟨q1,q2,q3⟩:=qI r L h hn2;refine⟨q1,q2,fun x hx=>?_⟩;have:=q3 x hx;simp only[List.mem_append,List.mem_cons] at this⊢;rcases this with h|h
   ·exact .inl h
   ·exact .inr (.inr h)
theorem CU (hE:tY E) {ops:Array Oper} {Q:Exit→Act→World→Prop} (hns:Region.noSelect ops=true) (hQ: ∀c a d v w,Q (.panic c) (a.put d v) w→Q (.panic c) a w) {g:Gh} {w w2:World} {s':St} {n:Nat}: ∀(r L:List Nat) (s:St) (a:Act) (listed:Array Bool),sU E.P ops L r→listed.size=ops.size→
  (∀i,listed.getD i false=true↔i∈L)→(∀l∈L,l<ops.size)→HT E (r.map fun i=>ops.getD i default) s s'→Inv E B G0 w0 s g a w→
  (∀(listed':Array Bool) a',listed'.size=ops.size→(∀i,listed'.getD i false=true↔i∈L++r)→Inv E B G0 w0 s' g a' w→wpAny E.P .any ops Q n listed' a' w2)→wpAny E.P .any ops Q (n+r.length) listed a w2
 |[],L,s,a,listed,hh,hls,hl,hlt,ht,hi,hk=>by
  have e:s'=s:=ht;subst e;exact hk listed a hls (fun i=>by rw[hl,List.append_nil]) hi
 |l::r,L,s,a,listed,hh,hls,hl,hlt,ht,hi,hk=>by
  obtain⟨h1,h2,h3⟩:=hh;obtain⟨o,ho,hop,hed,hap⟩:=NW h2;rw[List.map_cons,rU ho] at ht;obtain⟨v,hv,ht⟩:=ht;have hdo:=jU (ac:=a) (B:=B) (w:=w) (g:=g) (bx:=s.bx) hE rfl hi.gok hi.own hi.bxs hi.hB hi.m1 (fun y=>eF hi.fr hi.nD y) hv;obtain⟨u,hrun,hrep⟩:=hdo;have hst:=QV hop (fun x hx=>opR_nil hx (fun y=>eF hi.fr hi.nD y) hv) hrun;have hg:o.guard=none:=by
   unfold AP at hop;rw[Bool.and_eq_true,Bool.and_eq_true] at hop;have:=hop.1.2
   cases hg:o.guard with
   |none=>rfl
   |some _=>rw[hg] at this;cases this
  have hll:l<ops.size:=(Array.getElem?_eq_some_iff.1 ho).1;have hlz:l<listed.size:=by omega
  have hun:listed.getD l true=false:=by
   have: ¬listed.getD l false=true:=fun q=>h1 ((hl l).1 q)
   simp only[Array.getD_eq_getD_getElem?,Array.getElem?_eq_getElem hlz,Option.getD_some] at this⊢;simpa using this
  have hr:l∈Region.ready .any ops listed:=mem_ready.2 ⟨hun,o,ho,fun e he hb=>(hl _).2 (hed e he hb)⟩;have hlen:n+(l::r).length=(n+r.length)+1:=rfl;rw[hlen];refine wpAny_first ho (Region.noSelect_spec hns) (fun c a w=>hQ c a o.dst u w) (n+r.length) listed a w2 (fun j oj hj hjl hjun hno=>?_) hr (.inl ⟨by unfold Region.wanted;rw[hg],hst⟩) ?_
  ·refine hap j oj hj hjl (fun e he hb heq=>?_) hno
   have h5:=(hl e.on).2 (hed e he hb);rw[heq] at h5;have hj4:j<listed.size:=by have:=(Array.getElem?_eq_some_iff.1 hj).1;omega
   simp only[Array.getD_eq_getD_getElem?,Array.getElem?_eq_getElem hj4,Option.getD_some] at h5 hjun;rw[h5] at hjun;cases hjun
  ·refine CU hE hns hQ r (L++[l]) (s.put o.dst v) _ _ h3 (by simpa using hls) (fun i=>?_) (fun x hx=>?_) ht (hi.put o.dst hrep) (fun listed' a' q1 q2 q3=>hk listed' a' q1 (fun i=>by rw[q2];simp) q3)
   ·by_cases e:l=i
    ·subst e
     simp[hlz]
    ·rw[getD_set_ne false e,hl]
     simp[e];exact fun q=>absurd q.symm e
   ·simp only[List.mem_append,List.mem_singleton] at hx
    rcases hx with hx|rfl
    ·exact hlt x hx
    ·exact hll
def OI:Ex→Exit
 | .norm=> .normal
 | .exit id=> .exit id
 | .ret=> .ret
 | .oL v=> .panic [{v:=(cr v).getD undef,recovered:=false}]
def Leads (E:Env) (c:Code) (s:St) (e:Ex) (s':St):Prop:=∀(B:Own) (G0:aP) (w0:World) (g:Gh) (a:Act) (w:World),Inv E B G0 w0 s g a w→ ∀Q:Exit→Act→World→Prop,(∀g' a' w',Inv E B G0 w0 s' g' a' w'→Q (OI e) a' w')→c.wp E.P Q a w
theorem KT (hE:tY E) {α:Type} {call:Caller α} (hc:lM E call) {id:Nat} {ops:Array Oper} {s:St} {K:Ex→St→Option α} {FB:St→Option α} {r:α} (h:evReg E call ops s K FB=some r):
  (∃e s',K e s'=some r∧Leads E (.region id ops true) s e s')∨(Region.noSelect ops=true∧J7 ops (fK ops (dD E.P ops))=true∧ ∃s1,HT E ((dD E.P ops).map fun i=>ops.getD i default) s s1∧FB s1=some r):=by
 unfold evReg at h;have hm:fA ops.toList≤ops.size:=KS ops;generalize fA ops.toList=m at h hm
 cases hold:(Gn s (ops.toList.take m)&&(nV s.fr.length (ops.toList.take m)&&mG ops.toList m&&dN (ops.toList.take m) s)) with
 |false=>
  rw[hold,cond_false] at h
  cases hlt:(Gn s (ops.toList.take m)&&(nV s.fr.length (ops.toList.take m)&&zz ops m&&dN (ops.toList.take m) s)) with
  |false=>
   rw[hlt,cond_false] at h
   cases hea:(Mf ops.toList (lJ ops.toList)&&nV s.fr.length (ops.toList.take (lJ ops.toList))&&mG ops.toList (lJ ops.toList+1)) with
   |false=>
    rw[hea,cond_false] at h;obtain⟨h1,h⟩:=aD h;rw[Bool.and_eq_true] at h1;obtain⟨hns,OJ⟩:=h1;obtain⟨s1,hht,h⟩:=VI _ s _ r h
    cases hcd:SX s1.fr.length (dm ops (fK ops (dD E.P ops))).toList s1 with
    |false=>rw[hcd,cond_false] at h;exact .inr ⟨hns,OJ,s1,hht,h⟩
    |true=>
    rw[hcd,cond_true] at h;have hg:=qI (P:=E.P) (ops:=ops) (List.range ops.size) [] trivial (by simpa using List.nodup_range);have hHL:o9 E.P ops (List.range ops.size) []=dD E.P ops:=rfl;rw[hHL] at hg;generalize dD E.P ops=L at h hht hcd OJ hg;obtain⟨hg1,hg2,hg3⟩:=hg;have hLlt: ∀l∈L,l<ops.size:=fun l hl=>by simpa using hg3 l hl
    have hp1:(fK ops L).Nodup:=List.Sublist.nodup List.filter_sublist List.nodup_range;have hp2: ∀i,i∈fK ops L↔i<ops.size∧i∉L:=fun i=>by unfold fK;rw[List.mem_filter,List.mem_range];simp
    have hlenL:(fK ops L).length+L.length=ops.size:=by
     have hfl:(List.range ops.size).length=(fK ops L).length+((List.range ops.size).filter fun i=>L.contains i).length:=by
      unfold fK;have: ∀l:List Nat,l.length=(l.filter fun i=>!L.contains i).length+(l.filter fun i=>L.contains i).length:=by
       intro l;induction l with
       |nil=>rfl
       |cons x l ih=>
        rw[List.filter_cons,List.filter_cons,List.length_cons]
        cases L.contains x with
        |true=>simp only[Bool.not_true,Bool.false_eq_true,if_false,if_true,List.length_cons];omega
        |false=>simp only[Bool.not_false,Bool.false_eq_true,if_false,if_true,List.length_cons];omega
      exact this _
     have hperm:((List.range ops.size).filter fun i=>L.contains i).length=L.length:=by
      refine List.Perm.length_eq ?_;refine(List.perm_ext_iff_of_nodup (List.Sublist.nodup List.filter_sublist List.nodup_range) hg2).2 fun x=>?_
      rw[List.mem_filter,List.mem_range];simp only[List.contains_iff_mem];exact⟨fun q=>q.2,fun q=>⟨hLlt x q,q⟩⟩
     rw[List.length_range] at hfl;omega
    generalize fK ops L=p at h hcd OJ hp1 hp2 hlenL;have hss:(dm ops p).size=p.length:=GV p;unfold SX at hcd;have hm2:fA (dm ops p).toList≤(dm ops p).size:=KS _;generalize fA (dm ops p).toList=m2 at h hcd hm2;rw[Bool.and_eq_true,Bool.and_eq_true,Bool.and_eq_true] at hcd;replace hcd:=And.intro (And.intro hcd.1.1.2 hcd.1.2) hcd.2
    have Sv: ∀(j:Nat) o,(dm ops p).toList[j]? =some o→m2≤j→(∀e∈o.after.toList,Region.binds .any e=true→e.on<j)∧ ∀i,i<j→(∃n,waits (dm ops p).toList n j i=true)∨(fun _:Nat=>false) i=true:=fun j o ho hj=>⟨(pX hcd.1.2 j o ho hj).1,fun i hi=> .inl ((pX hcd.1.2 j o ho hj).2 i hi)⟩
    rcases gJ hc ((dm ops p).toList.take m2) s1 _ r h with⟨s2,ht,hs⟩|⟨hb,_⟩
    rotate_left
    ·cases hb
    obtain⟨h3,h4⟩:=aD hs;have hl:((dm ops p).toList.drop m2).length=(dm ops p).size-m2:=by simp
    rcases gJ hc ((dm ops p).toList.drop m2) s2 _ r h4 with⟨s3,ht2,hs2⟩|⟨_,v,s3,ht2,hs2⟩
    ·refine .inl ⟨.norm,s3,hs2,fun B G0 w0 g a w hi Q hk=>?_⟩
     refine Code.wp_mono (Q:=fun e a w=>match e with| .normal=>Q .normal a w|_=>False) (fun e a w q=>by cases e<;>first|exact q|exact q.elim) ?_;refine wp_region_any hE.mixed ?_;have hfu:ops.size=p.length+L.length:=by omega
     have hz:wpAny E.P .any ops (fun e a w=>match e with| .normal=>Q .normal a w|_=>False) (p.length+L.length) (Array.replicate ops.size false) a {w with drawn:=w.drawn+1}:=by
      refine CU hE hns (fun c a d v w q=>q.elim) (n:=p.length) (w:=w) L [] s a _ hg1 (by simp) (fun i=>?_) (fun l hl=>nomatch hl) hht hi fun listed' a' q1 q2 q3=>?_
      ·simp only[Array.getD_eq_getD_getElem?,Array.getElem?_replicate,List.not_mem_nil,iff_false]
       split<;>simp
      ·refine VH hp1 (fun i hi=>((hp2 i).1 hi).1) OJ p.length listed' (Array.replicate p.length false) a' _ q1 (by simp) (fun i hi UU=>?_) (fun k hk' d=>?_) ?_
       ·refine(q2 i).2 ?_
        rw[List.nil_append];exact Classical.byContradiction fun hn=>UU ((hp2 i).2 ⟨hi,hn⟩)
       ·have h5:p[k]<listed'.size:=by rw[q1];exact((hp2 _).1 (List.getElem_mem hk')).1
        have h6: ¬listed'.getD p[k] false=true:=by rw[q2,List.nil_append];exact((hp2 _).1 (List.getElem_mem hk')).2
        simp only[Array.getD_eq_getD_getElem?,Array.getElem?_eq_getElem h5,Option.getD_some,Array.getElem?_replicate,hk',if_true] at h6⊢;simpa using h6
       ·have hq:=KR hE (Q:=fun e a w=>match e with| .normal=>Q .normal a w|_=>False) hcd.1.1 (late:=fun _=>false) Sv (fun l hl=>by cases hl) hcd.2 h3 ht hm2 q3 fun g' a' w' hi'=>by
         have:=pG hE (Q:=fun e a w=>match e with| .normal=>Q .normal a w|_=>False) ((dm ops p).toList.drop m2) m2 s2 s3 g' a' w' rfl ht2 hi' hk;rw[hl] at this;exact this
        rw[hss] at hq;exact hq
     rw[←hfu] at hz;exact hz
    ·cases hs2
   |true=>
    rw[hea,cond_true] at h;have h1:=hea;rw[Bool.and_eq_true,Bool.and_eq_true] at h1;generalize lJ ops.toList=m2 at h h1;split at h
    ·rename_i p hp
     split at h
     ·rename_i c k off cs hop
      rcases kN h with⟨rfl,h⟩|⟨_,h⟩
      ·split at h
       ·rename_i old Dp
        obtain⟨h5,h⟩:=aD h;rw[Bool.and_eq_true,Bool.and_eq_true] at h5;rcases gJ hc (ops.toList.take m2) _ _ r h with⟨s',ht,hs⟩|⟨hb,_⟩
        rotate_left
        ·cases hb
        obtain⟨h3,h4⟩:=aD hs;rw[Bool.and_eq_true] at h3;have hl:(ops.toList.drop (m2+1)).length=ops.size-(m2+1):=by simp
        have hm2:m2+1≤ops.size:=by
         have:=(List.getElem?_eq_some_iff.1 hp).1;rw[Array.length_toList] at this;omega
        have hbl:jB (over old off cs)=true→jB old=true:=fun hq=>by
         have:=h5.1.1;rw[hq] at this;exact this
        have Sv: ∀(j:Nat) o,ops.toList[j]? =some o→m2+1≤j→(∀e∈o.after.toList,Region.binds .any e=true→e.on<j)∧ ∀i,i<j→ ∃n,waits ops.toList n j i=true:=fun j o ho hj=>pX h1.2 j o ho hj
        rcases gJ hc (ops.toList.drop (m2+1)) s' _ r h4 with⟨s'',ht2,hs2⟩|⟨_,v,s'',ht2,hs2⟩
        ·refine .inl ⟨.norm,s'',hs2,fun B G0 w0 g a w hi Q hk=>D7 hE h1.1.2 hp h1.1.1 hop Dp hbl rfl Sv h5.1.2 h5.2 h3.1 h3.2 ht hm2 hi fun g' a' w' hi'=>?_⟩
         have:=pG hE (Q:=Q) (ops.toList.drop (m2+1)) (m2+1) s' s'' g' a' w' rfl ht2 hi' hk;rw[hl] at this;exact this
        ·refine .inl ⟨.oL v,s'',hs2,fun B G0 w0 g a w hi Q hk=>D7 hE h1.1.2 hp h1.1.1 hop Dp hbl rfl Sv h5.1.2 h5.2 h3.1 h3.2 ht hm2 hi fun g' a' w' hi'=>?_⟩
         have:=rT hE (Q:=Q) (ops.toList.drop (m2+1)) (m2+1) s' s'' g' a' w' rfl ht2 hi' (fun g2 a2 w2 u hi2 hu=>by
          have:=hk g2 a2 w2 hi2;simp only[OI,hu,Option.getD_some] at this;exact this)
         rw[hl] at this;exact this
       ·cases h
      ·cases h
     ·cases h
    ·cases h
  |true=>
  rw[hlt,cond_true] at h;have h1:=(Bool.and_eq_true_iff.1 hlt).2;have h2:=h;rw[Bool.and_eq_true,Bool.and_eq_true] at h1;rcases gJ hc (ops.toList.take m) s _ r h2 with⟨s',ht,hs⟩|⟨hb,_⟩
  rotate_left
  ·cases hb
  obtain⟨h3,h4⟩:=aD hs;have hl:(ops.toList.drop m).length=ops.size-m:=by simp
  obtain⟨hns,hcl⟩:=by have:=h1.1.2;unfold zz at this;rw[Bool.and_eq_true] at this;exact this
  rcases gJ hc (ops.toList.drop m) s' _ r h4 with⟨s'',ht2,hs2⟩|⟨_,v,s'',ht2,hs2⟩
  ·refine .inl ⟨.norm,s'',hs2,fun B G0 w0 g a w hi Q hk=>?_⟩
   refine Code.wp_mono (Q:=fun e a w=>match e with| .normal=>Q .normal a w|_=>False) (fun e a w q=>by cases e<;>first|exact q|exact q.elim) ?_;refine GY hE h1.1.1 (late:=O0 ops m) (QW hcl) (fun l hl=>?_) h1.2 h3 ht hm hi fun g' a' w' hi'=>?_
   ·unfold O0 at hl
    rw[Bool.and_eq_true] at hl;exact⟨jk hl.1,hl.2,hns,fun c a d v w q=>q.elim⟩
   ·have:=pG hE (Q:=fun e a w=>match e with| .normal=>Q .normal a w|_=>False) (ops.toList.drop m) m s' s'' g' a' w' rfl ht2 hi' hk
    rw[hl] at this;exact this
  ·cases hs2
 |true=>
 rw[hold,cond_true] at h;have h1:=(Bool.and_eq_true_iff.1 hold).2;have h2:=h;rw[Bool.and_eq_true,Bool.and_eq_true] at h1;have Sv: ∀(j:Nat) o,ops.toList[j]? =some o→m≤j→(∀e∈o.after.toList,Region.binds .any e=true→e.on<j)∧ ∀i,i<j→(∃n,waits ops.toList n j i=true)∨(fun _:Nat=>false) i=true:=fun j o ho hj=>⟨(pX h1.1.2 j o ho hj).1,fun i hi=> .inl ((pX h1.1.2 j o ho hj).2 i hi)⟩
 rcases gJ hc (ops.toList.take m) s _ r h2 with⟨s',ht,hs⟩|⟨hb,_⟩
 rotate_left
 ·cases hb
 obtain⟨h3,h4⟩:=aD hs;have hl:(ops.toList.drop m).length=ops.size-m:=by simp
 rcases gJ hc (ops.toList.drop m) s' _ r h4 with⟨s'',ht2,hs2⟩|⟨_,v,s'',ht2,hs2⟩
 ·refine .inl ⟨.norm,s'',hs2,fun B G0 w0 g a w hi Q hk=>GY hE h1.1.1 (late:=fun _=>false) Sv (fun l hl=>by cases hl) h1.2 h3 ht hm hi fun g' a' w' hi'=>?_⟩
  have:=pG hE (Q:=Q) (ops.toList.drop m) m s' s'' g' a' w' rfl ht2 hi' hk;rw[hl] at this;exact this
 ·refine .inl ⟨.oL v,s'',hs2,fun B G0 w0 g a w hi Q hk=>GY hE h1.1.1 (late:=fun _=>false) Sv (fun l hl=>by cases hl) h1.2 h3 ht hm hi fun g' a' w' hi'=>?_⟩
  have:=rT hE (Q:=Q) (ops.toList.drop m) m s' s'' g' a' w' rfl ht2 hi' (fun g2 a2 w2 u hi2 hu=>by
   have:=hk g2 a2 w2 hi2;simp only[OI,hu,Option.getD_some] at this;exact this)
  rw[hl] at this;exact this
theorem iZ (hE:tY E) {α:Type} {call:Caller α} (hc:lM E call) (tot:Rd) (ho:tot.ord=false) (fuel:Nat): ∀(c:Code) (s:St) (K:Ex→St→Option α) (r:α),ev E call tot fuel c s K=some r→ ∃e s',K e s'=some r∧Leads E c s e s'
 | .skip,s,K,r,h=>⟨.norm,s,h,fun B G0 w0 g a w hi Q hk=>wp_skip (hk g a w hi)⟩
 | .region id ops false,s,K,r,h=>by
  unfold ev at h;rcases gJ hc ops.toList (preZ E.P ops.toList s) _ r h with⟨s',ht,hs⟩|⟨_,v,s',ht,hs⟩
  ·refine⟨.norm,s',hs,fun B G0 w0 g0 a w hi0 Q hk=>?_⟩
   obtain⟨g,hi⟩:=Be hi0 E.P ops.toList;have:=pG hE (Q:=Q) ops.toList 0 _ s' g a w (by simp) ht hi hk;refine wp_region ?_;rw[List.range_eq_range'];simpa using this
  ·refine⟨.oL v,s',hs,fun B G0 w0 g0 a w hi0 Q hk=>?_⟩
   obtain⟨g,hi⟩:=Be hi0 E.P ops.toList;have:=rT hE (Q:=Q) ops.toList 0 _ s' g a w (by simp) ht hi (fun g' a' w' u hi' hu=>by
    have:=hk g' a' w' hi';simp only[OI,hu,Option.getD_some] at this;exact this)
   refine wp_region ?_;rw[List.range_eq_range'];simpa using this
 | .region id ops true,s,K,r,h=>by
  unfold ev at h;rcases KT (id:=id) hE hc h with⟨e,s',h1,h2⟩|⟨_,_,_,_,h⟩
  ·refine⟨e,s',h1,fun B G0 w0 g0 a w hi0 Q hk=>?_⟩
   obtain⟨g,hi⟩:=Be hi0 E.P ops.toList;exact h2 B G0 w0 g a w hi Q hk
  ·rw[ho] at h;cases h
 | .seq x y,s,K,r,h=>by
  unfold ev at h;obtain⟨e,s1,he,hl⟩:=iZ hE hc tot ho fuel x s _ r h
  cases e with
  |norm=>
   obtain⟨e2,s2,he2,hl2⟩:=iZ hE hc tot ho fuel y s1 K r he;exact⟨e2,s2,he2,fun B G0 w0 g a w hi Q hk=>wp_seq (hl B G0 w0 g a w hi _ fun g' a' w' hi'=>hl2 B G0 w0 g' a' w' hi' Q hk)⟩
  |exit id=>exact⟨.exit id,s1,he,fun B G0 w0 g a w hi Q hk=>wp_seq (hl B G0 w0 g a w hi _ fun g' a' w' hi'=>hk g' a' w' hi')⟩
  |ret=>exact⟨.ret,s1,he,fun B G0 w0 g a w hi Q hk=>wp_seq (hl B G0 w0 g a w hi _ fun g' a' w' hi'=>hk g' a' w' hi')⟩
  |oL v=>exact⟨.oL v,s1,he,fun B G0 w0 g a w hi Q hk=>wp_seq (hl B G0 w0 g a w hi _ fun g' a' w' hi'=>hk g' a' w' hi')⟩
 | .cond c x y,s,K,r,h=>by
  unfold ev at h;split at h
  ·rename_i t ht
   have hv: ∀{B G0 w0 g a w},Inv E B G0 w0 s g a w→a.eval c=.bool t:=fun {B G0 w0 g a w} hi=>by
    have:=eF hi.fr hi.nD c;rw[ht,dx] at this;exact this
   rcases kN h with⟨rfl,h⟩|⟨rfl,h⟩
   ·obtain⟨e,s1,he,hl⟩:=iZ hE hc tot ho fuel x s K r h
    exact⟨e,s1,he,fun B G0 w0 g a w hi Q hk=>wp_cond (hv hi) (hl B G0 w0 g a w hi Q hk)⟩
   ·obtain⟨e,s1,he,hl⟩:=iZ hE hc tot ho fuel y s K r h
    exact⟨e,s1,he,fun B G0 w0 g a w hi Q hk=>wp_cond (hv hi) (hl B G0 w0 g a w hi Q hk)⟩
  ·cases h
 | .block id b,s,K,r,h=>by
  unfold ev at h;obtain⟨e,s1,he,hl⟩:=iZ hE hc tot ho fuel b s _ r h
  cases e with
  |norm=>exact⟨.norm,s1,he,fun B G0 w0 g a w hi Q hk=>wp_block (hl B G0 w0 g a w hi _ fun g' a' w' hi'=>hk g' a' w' hi')⟩
  |ret=>exact⟨.ret,s1,he,fun B G0 w0 g a w hi Q hk=>wp_block (hl B G0 w0 g a w hi _ fun g' a' w' hi'=>hk g' a' w' hi')⟩
  |oL v=>exact⟨.oL v,s1,he,fun B G0 w0 g a w hi Q hk=>wp_block (hl B G0 w0 g a w hi _ fun g' a' w' hi'=>hk g' a' w' hi')⟩
  |exit i=>
   have he:(bif i==id then K .norm s1 else K (.exit i) s1)=some r:=he;by_cases hid:i=id
   ·have:(i==id)=true:=by simpa using hid
    rw[this] at he;refine⟨.norm,s1,he,fun B G0 w0 g a w hi Q hk=>wp_block (hl B G0 w0 g a w hi _ fun g' a' w' hi'=>?_)⟩;show(if i=id then Q .normal a' w' else Q (.exit i) a' w');rw[if_pos hid];exact hk g' a' w' hi'
   ·have:(i==id)=false:=by simpa using hid
    rw[this] at he;refine⟨.exit i,s1,he,fun B G0 w0 g a w hi Q hk=>wp_block (hl B G0 w0 g a w hi _ fun g' a' w' hi'=>?_)⟩;show(if i=id then Q .normal a' w' else Q (.exit i) a' w');rw[if_neg hid];exact hk g' a' w' hi'
 | .loop b,s,K,r,h=>by
  unfold ev at h;generalize Ck tot.tot tot.unc s.fr.length b=mask at h;have key: ∀(n:Nat) (s:St),Dn b (fun s K=>ev E call tot fuel b s K) mask K n s=some r→ ∃e s',K e s'=some r∧ ∀(B:Own) (G0:aP) (w0:World) (g:Gh) (a:Act) (w:World),Inv E B G0 w0 s g a w→ ∀Q:Exit→Act→World→Prop,(∀g' a' w',Inv E B G0 w0 s' g' a' w'→Q (OI e) a' w')→Code.rounds E.P b Q n a w:=by
   intro n;induction n with
   |zero=>intro s h;cases h
   |succ n ih=>
    intro s h;unfold Dn at h;simp only[pf_eq] at h;obtain⟨e,s1,he,hl⟩:=iZ hE hc tot ho fuel b _ _ r h
    cases e with
    |norm=>
     obtain⟨e2,s2,he2,hl2⟩:=ih _ he;refine⟨e2,s2,he2,fun B G0 w0 g a w hi Q hk=>?_⟩;rw[rounds_succ];refine hl B G0 w0 g a w hi _ fun g' a' w' hi'=>?_
     obtain⟨g1,hi1⟩:=hi'.head mask;exact hl2 B G0 w0 g1 a' w' hi1 Q hk
    |exit id=>
     refine⟨.exit id,s1,he,fun B G0 w0 g a w hi Q hk=>?_⟩;rw[rounds_succ];exact hl B G0 w0 g a w hi _ fun g' a' w' hi'=>hk g' a' w' hi'
    |ret=>
     refine⟨.ret,s1,he,fun B G0 w0 g a w hi Q hk=>?_⟩;rw[rounds_succ];exact hl B G0 w0 g a w hi _ fun g' a' w' hi'=>hk g' a' w' hi'
    |oL v=>
     refine⟨.oL v,s1,he,fun B G0 w0 g a w hi Q hk=>?_⟩;rw[rounds_succ];exact hl B G0 w0 g a w hi _ fun g' a' w' hi'=>hk g' a' w' hi'
  obtain⟨e,s',he,hl⟩:=key fuel _ h;refine⟨e,s',he,fun B G0 w0 g a w hi Q hk=>wp_loop_rounds fuel ?_⟩;obtain⟨g1,hi1⟩:=hi.head mask;exact hl B G0 w0 g1 a w hi1 Q hk
 | .exit id,s,K,r,h=>⟨.exit id,s,h,fun B G0 w0 g a w hi Q hk=>wp_exit (hk g a w hi)⟩
 | .label l,s,K,r,h=>⟨.norm,s,h,fun B G0 w0 g a w hi Q hk=>wp_label (hk g a w hi)⟩
 | .ret,s,K,r,h=>⟨.ret,s,h,fun B G0 w0 g a w hi Q hk=>wp_ret (hk g a w hi)⟩
 | .rangeFunc ..,s,K,r,h=>by unfold ev at h;cases h
 | .scope _,s,K,r,h=>by unfold ev at h;cases h
 | .goto _,s,K,r,h=>by unfold ev at h;cases h
 | .refuse _,s,K,r,h=>by unfold ev at h;cases h
theorem QX (P:Program) (ops:Array Oper):sU P ops [] (dD P ops)∧(∀l∈dD P ops,l<ops.size)∧(fK ops (dD P ops)).Nodup∧(∀i,i∈fK ops (dD P ops)↔i<ops.size∧i∉dD P ops)∧(fK ops (dD P ops)).length+(dD P ops).length=ops.size:=by
 have hg:=qI (P:=P) (ops:=ops) (List.range ops.size) [] trivial (by simpa using List.nodup_range);have hHL:o9 P ops (List.range ops.size) []=dD P ops:=rfl;rw[hHL] at hg;generalize dD P ops=L at hg⊢;obtain⟨hg1,hg2,hg3⟩:=hg;have hLlt: ∀l∈L,l<ops.size:=fun l hl=>by simpa using hg3 l hl
 refine⟨hg1,hLlt,List.Sublist.nodup List.filter_sublist List.nodup_range,fun i=>by unfold fK;rw[List.mem_filter,List.mem_range];simp,?_⟩;have hfl:(List.range ops.size).length=(fK ops L).length+((List.range ops.size).filter fun i=>L.contains i).length:=by
  unfold fK;have: ∀l:List Nat,l.length=(l.filter fun i=>!L.contains i).length+(l.filter fun i=>L.contains i).length:=by
   intro l;induction l with
   |nil=>rfl
   |cons x l ih=>
    rw[List.filter_cons,List.filter_cons,List.length_cons]
    cases L.contains x with
    |true=>simp only[Bool.not_true,Bool.false_eq_true,if_false,if_true,List.length_cons];omega
    |false=>simp only[Bool.not_false,Bool.false_eq_true,if_false,if_true,List.length_cons];omega
  exact this _
 have hperm:((List.range ops.size).filter fun i=>L.contains i).length=L.length:=by
  refine List.Perm.length_eq ?_;refine(List.perm_ext_iff_of_nodup (List.Sublist.nodup List.filter_sublist List.nodup_range) hg2).2 fun x=>?_
  rw[List.mem_filter,List.mem_range];simp only[List.contains_iff_mem];exact⟨fun q=>q.2,fun q=>⟨hLlt x q,q⟩⟩
 rw[List.length_range] at hfl;omega
theorem X8 (hE:tY E) {ops:Array Oper} {Q:Exit→Act→World→Prop} (hns:Region.noSelect ops=true) (OJ:J7 ops (fK ops (dD E.P ops))=true) (hQ: ∀c a d v w,Q (.panic c) (a.put d v) w→Q (.panic c) a w) {g:Gh} {a:Act} {w w2:World} {s s1:St}
  (hht:HT E ((dD E.P ops).map fun i=>ops.getD i default) s s1) (hi:Inv E B G0 w0 s g a w)
  (hk: ∀a',Inv E B G0 w0 s1 g a' w→wpAny E.P .any (dm ops (fK ops (dD E.P ops))) Q (dm ops (fK ops (dD E.P ops))).size (Array.replicate (dm ops (fK ops (dD E.P ops))).size false) a' w2):
  wpAny E.P .any ops Q ops.size (Array.replicate ops.size false) a w2:=by
 obtain⟨hg1,hLlt,hp1,hp2,hlen⟩:=QX E.P ops;rw[GV] at hk;generalize dD E.P ops=L at*;generalize fK ops L=p at*;have hfu:ops.size=p.length+L.length:=by omega
 have hz:wpAny E.P .any ops Q (p.length+L.length) (Array.replicate ops.size false) a w2:=by
  refine CU hE hns hQ (n:=p.length) (w:=w) L [] s a _ hg1 (by simp) (fun i=>?_) (fun l hl=>nomatch hl) hht hi fun listed' a' q1 q2 q3=>?_
  ·simp only[Array.getD_eq_getD_getElem?,Array.getElem?_replicate,List.not_mem_nil,iff_false]
   split<;>simp
  ·refine VH hp1 (fun i hi=>((hp2 i).1 hi).1) OJ p.length listed' (Array.replicate p.length false) a' _ q1 (by simp) (fun i hi UU=>?_) (fun k hk' d=>?_) (hk a' q3)
   ·refine(q2 i).2 ?_
    rw[List.nil_append];exact Classical.byContradiction fun hn=>UU ((hp2 i).2 ⟨hi,hn⟩)
   ·have h5:p[k]<listed'.size:=by rw[q1];exact((hp2 _).1 (List.getElem_mem hk')).1
    have h6: ¬listed'.getD p[k] false=true:=by rw[q2,List.nil_append];exact((hp2 _).1 (List.getElem_mem hk')).2
    simp only[Array.getD_eq_getD_getElem?,Array.getElem?_eq_getElem h5,Option.getD_some,Array.getElem?_replicate,hk',if_true] at h6⊢;simpa using h6
 rw[←hfu] at hz;exact hz
theorem X9 {α:Type} {a b:Option α} {r:α} (h:both a b=some r):a=some r∧b=some r:=by
 unfold both at h;by_cases e:a=b
 ·rw[if_pos e] at h
  exact⟨h,e▸h⟩
 ·rw[if_neg e] at h;cases h
theorem wP {α:Type} (a:Option α):both a a=a:=by unfold both;rw[if_pos rfl]
theorem KU {α:Type} {f:Nat→Option α} {r:α}: ∀{l:List Nat},allK f l=some r→ ∀i∈l,f i=some r
 |[],h,i,hi=>nomatch hi
 |[x],h,i,hi=>by
  rcases List.mem_singleton.1 hi with rfl;exact h
 |x::y::l,h,i,hi=>by
  have h:both (f x) (allK f (y::l))=some r:=h;obtain⟨h1,h2⟩:=X9 h;rcases List.mem_cons.1 hi with rfl|hi
  ·exact h1
  ·exact KU h2 i hi
theorem VJ {ops:Array Oper} {listed:Array Bool} {L:List Nat} (hls:listed.size=ops.size) (hl: ∀i,listed.getD i false=true↔i∈L) (i:Nat):i∈Region.ready .any ops listed↔i∈Mg ops.toList L:=by
 unfold Mg;rw[mem_ready,List.mem_filter,List.mem_range,Array.length_toList];constructor
 ·rintro⟨hu,o,ho,hal⟩
  have hil:i<ops.size:=(Array.getElem?_eq_some_iff.1 ho).1;have h4:i<listed.size:=by omega
  refine⟨hil,?_⟩;have hn:i∉L:=fun q=>by
   have:=(hl i).2 q;simp only[Array.getD_eq_getD_getElem?,Array.getElem?_eq_getElem h4,Option.getD_some] at hu this;rw[hu] at this;cases this
  have ho':ops.toList[i]? =some o:=by simpa using ho
  rw[ho',Bool.and_eq_true];refine⟨by simpa using hn,?_⟩;simp only[List.all_eq_true,List.contains_iff_mem];intro x hx;obtain⟨e,he,hb,rfl⟩:=iQ hx;exact(hl _).1 (hal e (by simpa using he) hb)
 ·rintro⟨hil,h⟩
  have h4:i<listed.size:=by omega
  have ho:ops[i]? =some (ops[i]'hil):=by simp[hil]
  have ho':ops.toList[i]? =some (ops[i]'hil):=by simp[hil]
  rw[ho',Bool.and_eq_true] at h;simp only[List.all_eq_true,List.contains_iff_mem] at h;have hn:i∉L:=by simpa using h.1
  refine⟨?_,_,ho,fun e he hb=>(hl _).2 (h.2 e.on (by unfold fM;exact List.mem_map.2 ⟨e,List.mem_filter.2 ⟨by simpa using he,hb⟩,rfl⟩))⟩;have: ¬listed.getD i false=true:=fun q=>hn ((hl i).1 q)
  simp only[Array.getD_eq_getD_getElem?,Array.getElem?_eq_getElem h4,Option.getD_some] at this⊢;simpa using this
theorem Ya (hE:tY E) {α:Type} {call:Caller α} (hc:lM E call) {ops:Array Oper} {Q:Exit→Act→World→Prop} {K:St→Option α} {r:α}: ∀(n:Nat) (L:List Nat) (s:St) (listed:Array Bool) (g:Gh) (a:Act) (w:World),listed.size=ops.size→
  (∀i,listed.getD i false=true↔i∈L)→(listed.toList.countP fun b=>!b)≤n→J8 E call ops.toList K (n+1) L s=some r→Inv E B G0 w0 s g a w→
  (∀s' g' a' w',K s'=some r→Inv E B G0 w0 s' g' a' w'→Q .normal a' w')→wpAny E.P .any ops Q n listed a w:=by
 have hnil: ∀(n:Nat) (L:List Nat) (s:St) (listed:Array Bool),listed.size=ops.size→(∀i,listed.getD i false=true↔i∈L)→J8 E call ops.toList K (n+1) L s=some r→Region.ready .any ops listed=[]→K s=some r:=by
  intro n L s listed hls hl h hr;unfold J8 at h;have:Mg ops.toList L=[]:=List.eq_nil_iff_forall_not_mem.2 fun i hi=>by
   have:=(VJ hls hl i).2 hi;rw[hr] at this;cases this
  rw[this] at h;exact h
 intro n;induction n with
 |zero=>
  intro L s listed g a w hls hl hc0 h hi hk;have hr:Region.ready .any ops listed=[]:=List.eq_nil_iff_forall_not_mem.2 fun i hi=>by
   obtain⟨hu,o,ho,_⟩:=mem_ready.1 hi;have hil:i<ops.size:=(Array.getElem?_eq_some_iff.1 ho).1;have h4:i<listed.size:=by omega
   have h5:=List.countP_eq_zero.1 (Nat.le_zero.1 hc0) listed[i] (by rw[Array.mem_toList_iff];exact Array.getElem_mem h4);simp only[Array.getD_eq_getD_getElem?,Array.getElem?_eq_getElem h4,Option.getD_some] at hu;rw[hu] at h5;exact h5 rfl
  exact⟨hr,hk s g a w (hnil 0 L s listed hls hl h hr) hi⟩
 |succ n ih=>
  intro L s listed g a w hls hl hcn h hi hk;refine⟨fun hr=>hk s g a w (hnil (n+1) L s listed hls hl h hr) hi,fun i him=>?_⟩;have hir:=(VJ hls hl i).1 him;unfold J8 at h;split at h
  ·rename_i heq;rw[heq] at hir;cases hir
  ·rename_i j l heq
   rw[heq] at hir;have h1:=KU h i hir;obtain⟨hu,o,ho,_⟩:=mem_ready.1 him;have hil:i<ops.size:=(Array.getElem?_eq_some_iff.1 ho).1;have h4:i<listed.size:=by omega
   have ho':ops.toList[i]? =some o:=by simpa using ho
   simp only[ho'] at h1;rcases gJ hc [o] s _ r h1 with⟨s',ht,hs⟩|⟨_,v,s',_,hs⟩
   rotate_left
   ·cases hs
   have hlist: ∀x,(listed.setIfInBounds i true).getD x false=true↔x∈i::L:=fun x=>by
    by_cases e:i=x
    ·subst e
     simp[h4]
    ·rw[getD_set_ne false e,hl,List.mem_cons]
     exact⟨.inr,fun q=>q.resolve_left fun q=>e q.symm⟩
   have hcnt:((listed.setIfInBounds i true).toList.countP fun b=>!b)≤n:=by
    have hu':listed[i]=false:=by simpa only[Array.getD_eq_getD_getElem?,Array.getElem?_eq_getElem h4,Option.getD_some] using hu
    rw[Array.toList_setIfInBounds,List.countP_set (by simpa using h4)];simp only[Array.getElem_toList,hu',Bool.not_false,if_true,Bool.not_true,Bool.false_eq_true,if_false,Nat.add_zero];omega
   have next: ∀g' a' w',Inv E B G0 w0 s' g' a' w'→wpAny E.P .any ops Q n (listed.setIfInBounds i true) a' w':=fun g' a' w' hi'=>
    ih (i::L) s' _ g' a' w' (by simpa using hls) hlist hcnt hs hi' hk
   cases ht with
   |cons hst ht=>
    cases ht;unfold wpOp;rw[ho];simp only;rcases hst with⟨hw,eff,hor,_,hr⟩|⟨hw,rfl⟩
    ·rw[if_pos (fB hi.fr hw)]
     refine .inl ?_;have hdo:=jU (ac:=a) (B:=B) (w:=w) (g:=g) hE rfl hi.gok hi.own hi.bxs hi.hB hi.m1 (fun y=>eF hi.fr hi.nD y) hor;exact wC hi hdo (fun _ _ h=>h) (fun _=>rfl) hr fun g' a' w' h' _=>next g' a' w' h'
    ·rw[if_neg (by rw[fB hi.fr hw];decide)]
     exact next g _ w (hi.put o.dst (v:=.tup []) (u:=undef) ⟨[],rfl,.nil⟩)
theorem pq (hE:tY E) {α:Type} {call:Caller α} (hc:lM E call) (tot:Rd) (fuel:Nat): ∀(c:Code) (s:St) (K:Ex→St→Option α) (r:α),ev E call tot fuel c s K=some r→ ∀(g:Gh) (a:Act) (w:World),Inv E B G0 w0 s g a w→
  ∀Q:Exit→Act→World→Prop,(∀e s' g' a' w',K e s'=some r→Inv E B G0 w0 s' g' a' w'→Q (OI e) a' w')→c.wp E.P Q a w
 | .skip,s,K,r,h,g,a,w,hi,Q,hk=>wp_skip (hk .norm s g a w h hi)
 | .region id ops false,s,K,r,h,g,a,w,hi,Q,hk=>by
  obtain⟨e,s',he,hl⟩:=iZ hE hc ⟨[],[],false⟩ rfl fuel (.region id ops false) s K r h;exact hl B G0 w0 g a w hi Q fun g' a' w' hi'=>hk e s' g' a' w' he hi'
 | .region id ops true,s,K,r,h,g0,a,w,hi0,Q,hk=>by
  unfold ev at h;obtain⟨g,hi⟩:=Be hi0 E.P ops.toList;rcases KT (id:=id) hE hc h with⟨e,s',he,hl⟩|⟨hns,OJ,s1,hht,h⟩
  ·exact hl B G0 w0 g a w hi Q fun g' a' w' hi'=>hk e s' g' a' w' he hi'
  ·obtain⟨_,h⟩:=aD h
   refine Code.wp_mono (Q:=fun e a w=>match e with| .normal=>Q .normal a w|_=>False) (fun e a w q=>by cases e<;>first|exact q|exact q.elim) ?_;refine wp_region_any hE.mixed ?_;refine X8 hE hns OJ (fun c a d v w q=>q.elim) hht hi fun a' hi'=>?_
   refine Ya hE hc (dm ops (fK ops (dD E.P ops))).size [] s1 _ g a' _ (by simp) (fun i=>?_) (Nat.le_trans List.countP_le_length (by simp)) h hi'.drew fun s' g' a' w' he hi'=>hk .norm s' g' a' w' he hi'
   simp only[Array.getD_eq_getD_getElem?,Array.getElem?_replicate,List.not_mem_nil,iff_false];split<;>simp
 | .seq x y,s,K,r,h,g,a,w,hi,Q,hk=>by
  unfold ev at h;refine wp_seq (pq hE hc tot fuel x s _ r h g a w hi _ fun e s1 g' a' w' he hi'=>?_)
  cases e with
  |norm=>exact pq hE hc tot fuel y s1 K r he g' a' w' hi' Q hk
  |exit id=>exact hk (.exit id) s1 g' a' w' he hi'
  |ret=>exact hk .ret s1 g' a' w' he hi'
  |oL v=>exact hk (.oL v) s1 g' a' w' he hi'
 | .cond c x y,s,K,r,h,g,a,w,hi,Q,hk=>by
  unfold ev at h;split at h
  ·rename_i t ht
   have hv:a.eval c=.bool t:=by
    have:=eF hi.fr hi.nD c;rw[ht,dx] at this;exact this
   rcases kN h with⟨rfl,h⟩|⟨rfl,h⟩
   ·exact wp_cond hv (pq hE hc tot fuel x s K r h g a w hi Q hk)
   ·exact wp_cond hv (pq hE hc tot fuel y s K r h g a w hi Q hk)
  ·cases h
 | .block id b,s,K,r,h,g,a,w,hi,Q,hk=>by
  unfold ev at h;refine wp_block (pq hE hc tot fuel b s _ r h g a w hi _ fun e s1 g' a' w' he hi'=>?_)
  cases e with
  |norm=>exact hk .norm s1 g' a' w' he hi'
  |ret=>exact hk .ret s1 g' a' w' he hi'
  |oL v=>exact hk (.oL v) s1 g' a' w' he hi'
  |exit i=>
   have he:(bif i==id then K .norm s1 else K (.exit i) s1)=some r:=he;by_cases hid:i=id
   ·have:(i==id)=true:=by simpa using hid
    rw[this] at he;show(if i=id then Q .normal a' w' else Q (.exit i) a' w');rw[if_pos hid];exact hk .norm s1 g' a' w' he hi'
   ·have:(i==id)=false:=by simpa using hid
    rw[this] at he;show(if i=id then Q .normal a' w' else Q (.exit i) a' w');rw[if_neg hid];exact hk (.exit i) s1 g' a' w' he hi'
 | .loop b,s,K,r,h,g,a,w,hi,Q,hk=>by
  unfold ev at h;generalize Ck tot.tot tot.unc s.fr.length b=mask at h;have key: ∀(n:Nat) (s:St),Dn b (fun s K=>ev E call tot fuel b s K) mask K n s=some r→ ∀(g:Gh) (a:Act) (w:World),Inv E B G0 w0 s g a w→Code.rounds E.P b Q n a w:=by
   intro n;induction n with
   |zero=>intro s h;cases h
   |succ n ih=>
    intro s h g a w hi;unfold Dn at h;simp only[pf_eq] at h;rw[rounds_succ];refine pq hE hc tot fuel b _ _ r h g a w hi _ fun e s1 g' a' w' he hi'=>?_
    cases e with
    |norm=>
     obtain⟨g1,hi1⟩:=hi'.head mask;exact ih _ he g1 a' w' hi1
    |exit id=>exact hk (.exit id) s1 g' a' w' he hi'
    |ret=>exact hk .ret s1 g' a' w' he hi'
    |oL v=>exact hk (.oL v) s1 g' a' w' he hi'
  refine wp_loop_rounds fuel ?_;obtain⟨g1,hi1⟩:=hi.head mask;exact key fuel _ h g1 a w hi1
 | .exit id,s,K,r,h,g,a,w,hi,Q,hk=>wp_exit (hk (.exit id) s g a w h hi)
 | .label l,s,K,r,h,g,a,w,hi,Q,hk=>wp_label (hk .norm s g a w h hi)
 | .ret,s,K,r,h,g,a,w,hi,Q,hk=>wp_ret (hk .ret s g a w h hi)
 | .rangeFunc ..,s,K,r,h,_,_,_,_,_,_=>by unfold ev at h;cases h
 | .scope _,s,K,r,h,_,_,_,_,_,_=>by unfold ev at h;cases h
 | .goto _,s,K,r,h,_,_,_,_,_,_=>by unfold ev at h;cases h
 | .refuse _,s,K,r,h,_,_,_,_,_,_=>by unfold ev at h;cases h
def nX:V→Bool
 | .tup _=>false
 | .fn _ _=>false
 | .box _ _=>false
 | .eptr _ _ _ _ _ _=>false
 | .slz _ _ _ _ _ _ _ _ _ _=>false
 | .epz _ _ _ _ _=>false
 | .old _=>false
 |_=>true
theorem BR {g:Gh} {w:World} {x:V} {v:Value} (hO:Oo B g w) (hx:x.single=true) (hb:nX x=true) (h:bH g x v):nO g.G w B.m x v:=by
 cases x with
 |sl e sh ow xs=>
  cases ow with
  |none=>exact h
  |some L=>
   obtain⟨hL,ho⟩:=h;obtain⟨h1,h2⟩:=hO.1 L v e _ hL;refine⟨h1,?_⟩;rcases ho with⟨hv,hx⟩|⟨b,cap,l,hv,hcap,hG,hl,hE⟩
   ·exact .inl ⟨hv,hx⟩
   ·rcases h2 with h2|⟨b',n,cap',cur,l',hv',hB',hh,hn,hcm,hcs,hG',hl'⟩
    ·rw[hv] at h2;cases h2
    ·rw[hv] at hv'
     simp only[Value.slice.injEq,Option.some.injEq,Addr.mk.injEq] at hv';obtain⟨⟨rfl,_,_⟩,hn2,rfl⟩:=hv';exact .inr ⟨b,cap,cur,l,hv,hB'.1,hh,hcap,hcm,hcs,hG,hl,hE⟩
 |box k off=>cases hb
 |eptr _ _ _ _ _ _=>cases hb
 |old _=>cases hb
 |slz _ _ _ _ _ _ _ _ _ _=>cases hb
 |epz _ _ _ _ _=>cases hb
 |tup vs=>cases hx
 |fn f c=>cases hx
 |_=>exact h
theorem pY {x y:V} (h:x.O1=some y):x.deep=some y∧nX y=true:=by
 cases x with
 |fn f c=>cases h
 |_=>refine⟨h,?_⟩;simp[V.O1,V.deep] at h<;>subst h<;>rfl
def zn (a:Act):ResultVar→Sem Value
 | .tmp t=>pure (a.tmps.getD t undef)
 | .cell c t=>do loadVar t (←asAddr (a.tmps.getD c undef))
theorem BS {g:Gh} {x y:V} {v:Value} (h:aN g x v) (hd:x.O1=some y):bH g y v∧nX y=true:=by
 obtain⟨hd,hr⟩:=pY hd;have hpl:=jG hd;exact⟨aV (by cases y<;>first|rfl|cases hr) (bR hpl (oH h hd)),hr⟩
theorem QY {s:St} {g:Gh} {a:Act} {w w0:World} (hi:Inv E B G0 w0 s g a w) {x:ResultVar} {y:V} (h:xO E.P s x=some y): ∃u,(zn a x).run E.P w=.ok u w∧bH g y u∧nX y=true:=by
 cases x with
 |tmp t=>
  have hev:aN g (slot s.fr t).Dk (a.tmps.getD t undef):=zA (eF hi.fr hi.nD (.tmp t));refine⟨a.tmps.getD t undef,rfl,?_⟩;simp only[xO] at h;split at h
  ·rename_i e sh ow xs heq
   simp only[Option.some.injEq] at h;subst h;rw[heq] at hev;exact⟨aV rfl hev,rfl⟩
  ·exact BS hev h
 |cell c t=>
  have hev:aN g (slot s.fr c) (a.tmps.getD c undef):=eF hi.fr hi.nD (.tmp c);simp only[xO] at h;split at h
  ·rename_i k off heq
   rw[heq] at hev;obtain⟨b,hb,hv⟩:=dM.1 hev;have hrun:(zn a (.cell c t)).run E.P w=(loadVar t ⟨b,off,none⟩).run E.P w:=by
    simp only[zn,Sem.run_bind,hv,Go.asAddr,Sem.run_pure,Result.andThen_ok]
   split at h
   ·rename_i cells hl
    obtain⟨b',cc,e,hb',_,hh,hpw,_,_⟩:=hi.bxs.1 k cells hl;rw[hb] at hb';simp only[Option.some.injEq] at hb';subst hb';have hcell: ∀(j:Nat) v,cc.toList[j]? =some v→w.cell? ⟨b,j,none⟩=some v:=by
     intro j v hv;simp only[World.cell?,hh];simpa using hv
    split at h
    ·rename_i hag
     split at h
     ·rename_i n hs
      split at h
      ·rename_i ds hds
       simp only[Option.some.injEq] at h;subst h;obtain⟨h1,h2⟩:=Kn hds hpw;have hlen:((cc.toList.drop off).take n).length=n:=by rw[List.length_take,List.length_drop];omega
       obtain⟨dd,hd,hrw⟩:=vN hag;obtain⟨ii,hii,hin⟩:=kY hs;have:=run_loadVar_mid (P:=E.P) w b off t ((cc.toList.drop off).take n) dd (fun j v hv=>by
        rw[List.getElem?_take] at hv;split at hv
        ·rw[List.getElem?_drop] at hv;exact hcell _ _ hv
        ·cases hv) hd hrw (by rw[hii,hlen];simp[hin])
       refine⟨_,hrun.trans this,?_,rfl⟩;show aO g.G (.agg ds) _;unfold aO;exact⟨_,rfl,(dL _ _).2 h2⟩
      ·cases h
     ·cases h
    ·rename_i hag
     obtain⟨h1,h2⟩:=aD h;have hlt:off<cells.length:=by simpa[Nat.blt_eq] using h1
     obtain⟨v,hv2,hrr⟩:=hpw.get (getD_some hlt);have hld:(loadVar t ⟨b,off,none⟩).run E.P w=.ok v w:=by
      simp only[loadVar,Sem.run_bind,mP hag,Result.andThen_ok,Bool.false_eq_true,if_false,run_load,hcell _ _ hv2]
     exact⟨v,hrun.trans hld,BS hrr h2⟩
    ·cases h
   ·cases h
  ·cases h
theorem D9 {s:St} {x:ResultVar} {y:V} (h:xO E.P s x=some y):y.plain=true∨(∃e sh o xs,y=.sl e sh o xs)∨ ∃cs,y=.agg cs:=by
 cases x with
 |tmp t=>
  simp only[xO] at h;split at h
  ·simp only[Option.some.injEq] at h;exact .inr (.inl ⟨_,_,_,_,h.symm⟩)
  ·exact .inl (jG (pY h).1)
 |cell c t=>
  simp only[xO] at h;split at h
  ·split at h
   ·split at h
    ·split at h
     ·split at h
      ·simp only[Option.some.injEq] at h;exact .inr (.inr ⟨_,h.symm⟩)
      ·cases h
     ·cases h
    ·obtain⟨_,h2⟩:=aD h
     exact .inl (jG (pY h2).1)
    ·cases h
   ·cases h
  ·cases h
theorem Yb {s:St} {x:ResultVar} {y:V} (h:xO E.P s x=some y):nX y=true:=by
 cases x with
 |tmp t=>
  simp only[xO] at h;split at h
  ·simp only[Option.some.injEq] at h;subst h;rfl
  ·exact(pY h).2
 |cell c t=>
  simp only[xO] at h;split at h
  ·split at h
   ·split at h
    ·split at h
     ·split at h
      ·simp only[Option.some.injEq] at h;subst h;rfl
      ·cases h
     ·cases h
    ·obtain⟨_,h2⟩:=aD h
     exact(pY h2).2
    ·cases h
   ·cases h
  ·cases h
theorem qU {s:St} {g:Gh} {a:Act} {w w0:World} (hi:Inv E B G0 w0 s g a w): ∀(rs:List ResultVar) (vs:List V),rq E.P s rs=some vs→
  ∃us:List Value,(rs.mapM (zn a)).run E.P w=.ok us w∧PW (fun x v=>bH g x v∧nX x=true) vs us
 |[],vs,h=>by
  simp only[rq,Option.some.injEq] at h;subst h;exact⟨[],rfl,.nil⟩
 |x::rs,vs,h=>by
  simp only[rq] at h;split at h
  ·cases h
  ·rename_i y hy
   split at h
   ·cases h
   ·rename_i rest hr
    simp only[Option.some.injEq] at h;subst h;obtain⟨us,hu,hp⟩:=qU hi rs rest hr;obtain⟨u,h1,h2⟩:=QY hi hy;refine⟨u::us,?_,.cons h2 hp⟩;rw[List.mapM_cons];simp only[Sem.run_bind,h1,Sem.run_pure,Result.andThen_ok,hu]
theorem rW {g:Gh} {w:World} (hO:Oo B g w): ∀(vs:List V) (us:List Value) (b:Bool),PW (fun x v=>bH g x v∧nX x=true) vs us→PW (nO g.G w B.m) (gG 0 b vs) us∧(gG 0 b vs).countP sH≤(if b then 1 else 0)
 |[],us,b,h=>by rw[h.bU];cases b<;>exact⟨.nil,by simp[gG]⟩
 |x::vs,us,b,h=>by
  obtain⟨u,t,rfl,⟨h1,h2⟩,h3⟩:=h.cons_inv;have O7:x.single=true:=by cases x<;>first|rfl|cases h2
  have hs:=BR hO O7 h2 h1
  cases x with
  |sl e sh ow xs=>
   cases ow with
   |some L=>
    cases b with
    |true=>
     obtain⟨p,c⟩:=rW hO vs t false h3;refine⟨.cons hs p,?_⟩;show(V.sl e sh (some 0) xs::gG 0 false vs).countP sH≤1;rw[List.countP_cons];simp only[sH,if_true];simp at c;have:List.countP sH (gG 0 false vs)=0:=by
      rw[List.countP_eq_zero];intro y hy;have:=c y hy;simpa using this
     omega
    |false=>
     obtain⟨p,c⟩:=rW hO vs t false h3;refine⟨.cons (show aO g.G (V.sl e sh none xs) u from nI h1.2) p,?_⟩;show(V.sl e sh none xs::gG 0 false vs).countP sH≤_;rw[List.countP_cons];simpa[sH] using c
   |none=>
    obtain⟨p,c⟩:=rW hO vs t b h3;have e1:gG 0 b (V.sl e sh none xs::vs)=V.sl e sh none xs::gG 0 b vs:=by cases b<;>rfl
    rw[e1];refine⟨.cons hs p,?_⟩;rw[List.countP_cons];simpa[sH] using c
  |_=>
   obtain⟨p,c⟩:=rW hO vs t b h3
   cases b<;>exact⟨.cons hs p,by simp only[gG];rw[List.countP_cons];simpa[sH] using c⟩
def AA:List Value→Value
 |[u]=>u
 |us=> .tuple us.toArray
theorem nN {fn:Func} {a:Act} {w:World} {us:List Value} (h:(fn.results.toList.mapM (zn a)).run E.P w=.ok us w):
  (results fn a.tmps).run E.P w=.ok (AA us) w:=by
 have key:results fn a.tmps=(do let vs←fn.results.mapM (zn a);pure (if h:vs.size=1 then vs[0] else .tuple vs)):=by
  unfold results;congr 1
 rw[key,Array.mapM_eq_mapM_toList];simp only[Sem.run_bind,Sem.run_map,h,Result.andThen_ok,Sem.run_pure];congr 1
 match us with
 |[]=>simp[AA]
 |[u]=>simp[AA]
 |u::v::l=>simp[AA]
theorem ret_res {g:Gh} {w:World} (hO:Oo B g w) {vs:List V} {us:List Value} (h:PW (fun x v=>bH g x v∧nX x=true) vs us):fG g.G w B.m (O3 vs) (AA us):=by
 have AV: ∀(vs:List V) (us:List Value),PW (fun x v=>bH g x v∧nX x=true) vs us→fG g.G w B.m (.tup (gG 0 true vs)) (.tuple us.toArray):=fun vs us h=>by
  obtain⟨p,c⟩:=rW hO vs us true h;exact⟨us,rfl,p,by simpa using c⟩
 match vs,us,h with
 |[],us,h=>rw[h.bU];exact AV [] [] .nil
 |[x],us,h=>
  obtain⟨u,t,rfl,⟨h1,h2⟩,h3⟩:=h.cons_inv;rw[h3.bU];have O7:x.single=true:=by cases x<;>first|rfl|cases h2
  have hs:=BR hO O7 h2 h1;show fG g.G w B.m x u
  cases x with
  |tup _=>cases h2
  |_=>exact hs
 |x::y::vs,us,h=>
  have hl:=h.1;match us,hl with
  |u::v::us,_=>exact AV _ _ h
end
end Nt.Ev
