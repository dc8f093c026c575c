/-
  The evaluator's operations, all of them. append, conversions, calls; and all operations together.
-/
import Derived.Test.YtjcencojgajgdaaGreatDoorMA
import Derived.Lib.AppendStr
set_option linter.all false
set_option maxRecDepth 100000
namespace Nt.Ev
open Go Go.RowKit
section
variable {P:Program} {o:Oper} {B:Own} {w:World} {g:Gh} {bx:List (Nat×ah)} {r:Operand→V} {ac:Act}
theorem zL (a:Array (Nat×Operand)) (f:Operand→V) (r:Operand→Value):
  (a.toList.map fun(i,x)=>(i,f x)).map (·.1)=((a.map fun(i,x)=>(i,r x)).toList).map (·.1):=by
 simp[acn,F3,ac3]
theorem Dw (hE: ∀y,aU g (r y) (ac.eval y)) (a:Array (Nat×Operand)): ∀(i:Nat) (x:V) (v:Value),((a.toList.map fun(i,x)=>(i,r x))[i]?).map (fun(p:Nat×V)=>p.2)=some x→
  (((a.map fun(i,x)=>(i,ac.eval x)).toList)[i]?).map (fun(p:Nat×Value)=>p.2)=some v→ ∀y,x.deep=some y→aV g.G y v:=by
 intro i x v b c y e;simp only[acn,uE,Option.map_map,ac3] at b c
 cases d:a.toList[i]? with
 |none=>rw[d] at b;cases b
 |some p=>rw[d] at b c;simp only[xV,aT] at b c;subst b;subst c;exact oN (hE p.2) e
theorem VE {G:aW} {b:Value} (l:qp b≠.any) (n a:Nat) (k:b.cells.size=a) (j:0<a):PW (aV G) (NC (qp b) n a) ((Array.range (n*a)).map (b.cells[· % b.cells.size]!)).toList:=by
 obtain⟨m,c⟩:=mG (vQ G b) l;unfold NC;refine⟨by simp,fun i x v d h=>?_⟩;have g:i<n*a:=by have:=(List.getElem?_eq_some_iff.1 d).1;simpa using this
 simp only[uE,ab0 g,xV,aT] at d;subst d;have o:i%a<a:=acN _ j;simp only[acn,uE,Array.toList_range,ab0 g,xV,aT,k] at h;subst h;have f:i%a<(qp b).cells.length:=by omega
 refine c.2 (i%a) _ _ (getD_some f) ?_;have e:i%a<b.cells.size:=by omega
 simp[e]
theorem Ea {t:TypeId} {n:Nat} {d:Array (Nat×Operand)} {eff:Eff} (ho:o.op=.buildSlice t n d) (hG:xX g.G w) (hE: ∀y,aU g (r y) (ac.eval y))
  (h:wu P t n (d.toList.map fun(i,x)=>(i,r x))=some (true,eff)):Does P ac.eval o B w g bx eff:=by
 have he:execOp ac.eval o=(do pure (.value (←Instr.buildSlice t n (d.map fun(i,x)=>(i,ac.eval x))))):=by simp only[execOp,ho]
 unfold wu at h;split at h
 ·rename_i e sh z K
  obtain⟨hu,i,zv,hi,hz,rfl,_,s,u,L,hby,q⟩:=ja K;by_cases W:n=0
  ·subst W
   simp only[Qf,lC] at h;split at h
   ·rename_i X
    simp only[aT,bP,jC] at h;subst h;have N:d= #[]:=by have:=congrArg List.length X;simp at this;exact this
    subst N;obtain⟨G',hN,R⟩:=oG (e:=e) (sh:=sh) (xs:=[]) (cap:=0) (c:= #[]) hG (iD w (.cells #[] e)) (heap_alloc_new w _) u (kG _) (by unfold maxLen;omega) (by simp) iy;refine⟨_,_,G',?_,hN,R⟩;rw[he];have e0: ∀f:Nat→Value,Array.map f (Array.range 0)= #[]:=fun f=>by rw[←Qu];simp
    simp[Instr.buildSlice,run_underlying hu,Go.sizeOf,typeInfo,hi,Instr.fill,newRow,e0]
   cases h
  have S:(n==0)=false:=by simpa using W
  rw[S] at h;simp only[jW] at h;split at h
  ·rename_i ag k hag A
   have T:=aP h;clear h;obtain⟨v,h⟩:=T;simp only[aT,bP,jC] at h;subst h;simp only[bF] at v;obtain⟨⟨Q,U⟩,E⟩:=v;have E:=aa3 E;have H:qp zv≠.any:=fun e=>by rw[e,lF] at q;cases q
   have J:=VE (G:=g.G) H n sh.length L u;obtain⟨j,O,F⟩:=uh _ _ _ k _ (zL d _ ac.eval) (Dw hE d) J A;have l:k.length=n*sh.length:=by
    have h1: ∀(pl:Nat→Option (Nat×Nat)) (I:List (Nat×V)) (a b:ah),yc pl a I=some b→b.length=a.length:=by
     intro pl I;induction I with
     |nil=>intro a b h;simp only[yc,aT] at h;rw[h]
     |cons p I M=>
      intro a b h;obtain⟨i,x⟩:=p;simp only[yc] at h;split at h
      ·have T:=aP h
       obtain⟨v,h2⟩:=T;simp only[bF,iJ] at v;have:=aa3 v.2;rw[M _ _ h2];unfold over;simp;omega
      cases h
    rw[h1 _ _ _ _ A];unfold NC;simp
   have D: ∀(m:Nat) (k:ah),(chunks ag sh.length m k).length=m:=by
    intro m;induction m with
    |zero=>intro k;rfl
    |succ m M=>intro k;unfold chunks;rw[dN,M]
   have C:=qM Q n k j.toList F l u U;have Y:j.size=n*sh.length:=by have:=F.1;rw[l] at this;simpa using this.symm
   obtain⟨G',hN,R⟩:=oG (e:=e) (sh:=sh) (xs:=chunks ag sh.length n k) (cap:=n) (c:=j) hG (iD w (.cells j e)) (heap_alloc_new w _) u (by rw[D];exact kG _) (by unfold maxLen;have:=ac5 n u;omega) Y (zK _ _ C).2;refine⟨_,_,G',?_,hN,R⟩;rw[he,D];have Z: ¬n*i.size=0:=by rw[s];have:=Nat.mul_pos (Nat.pos_of_ne_zero W) u;omega
   have hr:=run_buildSlice (P:=P) w t e n (d.map fun(i,x)=>(i,ac.eval x)) j i zv hu hi hz (by rw[s];omega) Z (by rw[s];exact O);simp only[Sem.run_bind,hr,Result.andThen_ok,Sem.run_pure]
  cases h
 cases h
theorem VF {a:Array Field} (h:a.all (fun f=>(dF P f.type).isSome)=true):(a.mapM fun(f:Field)=>(do pure (f.offset,←Go.sizeOf f.type):Sem (Nat×Nat))).run P w=.ok (a.map fun f=>(f.offset,(dF P f.type).getD 0)) w:=by
 rw[Array.mapM_eq_mapM_toList];have b: ∀l:List Field,(∀f∈l,(dF P f.type).isSome=true)→(l.mapM fun(f:Field)=>(do pure (f.offset,←Go.sizeOf f.type):Sem (Nat×Nat))).run P w=.ok (l.map fun f=>(f.offset,(dF P f.type).getD 0)) w:=by
  intro l;induction l with
  |nil=>intro _;rfl
  |cons f l j=>intro d;have c:=d f (by simp);obtain⟨n,e⟩:=Option.isSome_iff_exists.1 c;rw[acY];simp only[Sem.run_bind,dP e,Result.andThen_ok,Sem.run_pure,j (fun x i=>d x (by simp[i]))];simp[e]
 have:=b a.toList (fun f c=>by have g:=Array.all_eq_true_iff_forall_mem.1 h f (by simpa using c);exact g);simp only[Sem.run_bind,Sem.run_map,this,Result.andThen_ok];congr 1;rw[←Qu];simp
theorem SS {t:TypeId} {a:Array (Nat×Operand)} {eff:Eff} (L:o.op=.build t a) (hE: ∀y,aU g (r y) (ac.eval y))
  (h:UY P t (a.toList.map fun(i,x)=>(i,r x))=some (true,eff)):Does P ac.eval o B w g bx eff:=by
 have I:execOp ac.eval o=(do pure (.value (←Instr.build t (a.map fun(i,x)=>(i,ac.eval x))))):=by simp only[execOp,L]
 unfold UY at h;split at h
 ·rename_i i H
  split at h
  ·rename_i z E C D
   split at h
   ·rename_i A m
    have M:=aP h;clear h;obtain⟨J,h⟩:=M;simp only[ok,aT,bP,jC] at h;subst h;have d:PW (aV g.G) (z.toList.map FJ) z.toList:=⟨by simp,fun j x v q F=>by simp only[uE,F,xV,aT] at q;subst q;exact vP g.G v⟩
    obtain⟨b,c,p⟩:=uh _ _ _ A z (zL a _ ac.eval) (Dw hE a) d m;have s:UX P E=fun(j:Nat)=>((E.map fun(f:Field)=>(f.offset,(dF P f.type).getD 0))[j]?):=by
     funext j
     unfold UX;rw[Array.getElem?_map]
     cases Q:E[j]? with
     |none=>rfl
     |some f=>have K:=Array.all_eq_true_iff_forall_mem.1 J f (abU Q);obtain⟨n,O⟩:=Option.isSome_iff_exists.1 K;simp[O]
    rw[s] at c;refine bG I (u:=.agg b) ?_ (iQ.2 ⟨b.toList,by simp,p⟩);have l:(zeroValue t).run P w=.ok (.agg z) w:=by simp[zeroValue,typeInfo,H,C]
    simp only[Instr.build,Sem.run_bind,l,Result.andThen_ok,run_underlying D,VF J,Value.cells,c,Sem.run_pure]
   cases h
  ·rename_i z k e C D
   split at h
   ·rename_i n N
    split at h
    ·rename_i A m
     simp only[ok,aT,bP,jC] at h;subst h;have d:PW (aV g.G) (z.toList.map FJ) z.toList:=⟨by simp,fun j x v q F=>by simp only[uE,F,xV,aT] at q;subst q;exact vP g.G v⟩
     obtain⟨b,c,p⟩:=uh _ _ _ A z (zL a _ ac.eval) (Dw hE a) d m;refine bG I (u:=.agg b) ?_ (iQ.2 ⟨b.toList,by simp,p⟩);have l:(zeroValue t).run P w=.ok (.agg z) w:=by simp[zeroValue,typeInfo,H,C]
     simp only[Instr.build,Sem.run_bind,l,Result.andThen_ok,run_underlying D,dP N,Value.cells,c,Sem.run_pure]
    cases h
   cases h
  cases h
 cases h
theorem oJ {x:V} {Q:ah} {u:Value} (h:dG x=some Q) (d:aU g x u):PW (aU g) Q u.cells.toList∧ ∀c∈u.cells.toList,c.oneCell'=true:=by
 have one: ∀(y:V) (c:Value),y.one=true→aV g.G y c→aU g y c∧c.oneCell'=true:=by
  intro y c w m
  cases y with
  |sl e sh S xs=>
   cases S with
   |none=>exact⟨m,by unfold aV at m;obtain⟨p,cap,rfl,_⟩:=m;rfl⟩
   |some L=>cases w
  |bool b=>refine⟨m,?_⟩;unfold aV at m;subst m;rfl
  |int k n=>refine⟨m,?_⟩;unfold aV at m;subst m;rfl
  |str l=>refine⟨m,?_⟩;unfold aV at m;subst m;rfl
  |nilsl=>refine⟨m,?_⟩;unfold aV at m;subst m;rfl
  |rptr sh x off=>refine⟨m,?_⟩;unfold aV at m;obtain⟨b,q,l,rfl,_⟩:=m;rfl
  |nilif=>refine⟨m,?_⟩;unfold aV at m;subst m;rfl
  |nilp=>refine⟨m,?_⟩;unfold aV at m;subst m;rfl
  |iface t x=>refine⟨m,?_⟩;unfold aV at m;obtain⟨u,rfl,_⟩:=m;rfl
  |_=>cases w
 cases x with
 |agg W=>
  unfold dG at h;have X:=aP h;obtain⟨o,P⟩:=X;simp only[aT] at P;subst P;obtain⟨a,rfl,F⟩:=iQ.1 d;rw[sG];rw[lM] at o;refine⟨F.mono fun y w v r=>(one y v (o y w) r).1,fun c C=>?_⟩;obtain⟨j,I,rfl⟩:=acr C;have H:j<W.length:=by rw[F.1];exact I
  exact(one _ _ (o _ (GV H)) (F.2 j _ _ (iK H) (iK I))).2
 |any=>cases h
 |tup vs=>cases h
 |old _=>cases h
 |eptr _ _ _ _ _ _=>cases h
 |bool b=>simp only[dG,aT] at h;subst h;have o:=dH.1 d;subst o;exact⟨.cons d .nil,by simp[Value.cells,Value.oneCell']⟩
 |int k n=>simp only[dG,aT] at h;subst h;have o:=di.1 d;subst o;exact⟨.cons d .nil,by simp[Value.cells,Value.oneCell']⟩
 |str l=>simp only[dG,aT] at h;subst h;have o:=iB.1 d;subst o;exact⟨.cons d .nil,by simp[Value.cells,Value.oneCell']⟩
 |nilsl=>simp only[dG,aT] at h;subst h;have o:=iI.1 d;subst o;exact⟨.cons d .nil,by simp[Value.cells,Value.oneCell']⟩
 |sl e sh S xs=>simp only[dG,aT] at h;subst h;have o:=lg d;unfold aV at o;obtain⟨p,cap,rfl,_⟩:=o;exact⟨.cons d .nil,by simp[Value.cells,Value.oneCell']⟩
 |rptr sh y off=>simp only[dG,aT] at h;subst h;obtain⟨b,q,l,rfl,_⟩:=iU.1 d;exact⟨.cons d .nil,by simp[Value.cells,Value.oneCell']⟩
 |box k off=>simp only[dG,aT] at h;subst h;obtain⟨b,_,rfl⟩:=d9.1 d;exact⟨.cons d .nil,by simp[Value.cells,Value.oneCell']⟩
 |fn f c=>
  simp only[dG] at h
  cases A:Nat.blt f yX with
  |true=>rw[A,lC] at h;simp only[aT] at h;subst h;have K:=d;obtain⟨a,rfl,_⟩:=K;rw[Bb A] at d⊢;exact⟨.cons d .nil,by simp[Value.cells,Value.oneCell']⟩
  |false=>
   rw[A,jW] at h;obtain⟨R,O⟩:=aP h;clear h;rw[iJ] at R;subst R
   cases c with
   |nil=>cases O
   |cons p l=>
    obtain⟨z,U⟩:=aP O;clear O;simp only[aT] at U;subst U;obtain⟨a,rfl,F⟩:=d;obtain⟨N,lv,rfl,M,s⟩:=F.cons_inv;rw[XT,sG];rw[lM] at z;have E: ∀y∈l,∀v,bQ g y v→aU g (bmV p y) (QX N v)∧(QX N v).oneCell'=true:=by
     intro y w v r;have T:=z y w
     cases y with
     |int k n=>
      have hn:Nat.blt n.toNat yX=true:=T;have r:v=.int k n:=by simp only[bQ] at r;unfold aV at r;exact r
      subst r;exact⟨⟨[.int .i64 n,N],rfl,.cons (show aV g.G _ _ by unfold aV;rfl) (.cons M .nil)⟩,rfl⟩
     |_=>cases T
    refine⟨⟨by simp[s.1],fun j x v d r=>?_⟩,fun c C=>?_⟩
    ·rw[uE,Option.map_eq_some_iff] at d r
     obtain⟨y,w,rfl⟩:=d;obtain⟨J,B,rfl⟩:=r;exact(E y (GR w) J (s.2 j y J w B)).1
    obtain⟨J,B,rfl⟩:=List.mem_map.1 C;obtain⟨j,I⟩:=Zx B;have D:j<l.length:=by rw[s.1];exact(List.getElem?_eq_some_iff.1 I).1
    exact(E _ (GV D) J (s.2 j _ J (iK D) I)).2
 |nilif=>simp only[dG,aT] at h;subst h;have o:=mO.1 d;subst o;exact⟨.cons d .nil,by simp[Value.cells,Value.oneCell']⟩
 |nilp=>simp only[dG,aT] at h;subst h;have o:=adk.1 d;subst o;exact⟨.cons d .nil,by simp[Value.cells,Value.oneCell']⟩
 |iface t y=>simp only[dG,aT] at h;subst h;obtain⟨u,rfl,_⟩:=jQ.1 d;exact⟨.cons d .nil,by simp[Value.cells,Value.oneCell']⟩
 |bxa _ _=>cases h
 |out _ _ _=>cases h
 |oq _ _ _=>cases h
 |epz _ _ _ _ _=>cases h
 |keep _ _=>cases h
 |slz L e sh xs Z i c e2 Y ys=>simp only[dG,aT] at h;subst h;obtain⟨l,_,_,⟨r,_⟩,_⟩:=nJ.1 d;refine⟨?_,?_⟩<;>rcases r with⟨rfl,rfl⟩|⟨b,cap,rfl⟩<;>first|exact .cons d .nil|(intro c C;simp[Value.cells] at C;subst C;rfl)
theorem VG {z:Value} {j:ah} (h:NF z=some j):PW (aU g) j z.cells.toList∧ ∀c∈z.cells.toList,c.oneCell'=true:=by
 unfold NF at h;split at h
 ·rename_i l d
  simp only[aT] at h;subst h;exact oJ d (cK (Jo z) (vQ g.G z))
 split at h
 ·rename_i a m
  obtain⟨k,f⟩:=aP h;simp only[aT] at f;subst f;rw[lM] at k;refine⟨⟨by simp[Value.cells],fun i x v e b=>?_⟩,fun c d=>k c d⟩;have b:a.toList[i]? =some v:=b;rw[uE,b] at e;simp only[xV,aT] at e;subst e;exact cK (Jn v) (vP g.G v)
 cases h
theorem adt {t:TypeId} {x:Operand} {a:ah} (b:o.op=.box t x) (hE: ∀y,aU g (r y) (ac.eval y)) (h:dG (r x)=some a) (c:nu a=true→pq P t a.length=true):Does P ac.eval o B w g bx (.nW t a):=by obtain⟨e,d⟩:=oJ h (hE x);refine⟨(ac.eval x).cells,?_,e,d,c⟩;simp[execOp,b,Instr.box,newVar,newRow]
theorem SV {t:TypeId} {i:TypeInfo} {z:Value} {a:ah} (b:o.op=.alloc t) (f:P.info? t=some i) (j:i.zero=some z) (h:NF z=some a) (c:nu a=true→pq P t a.length=true):Does P ac.eval o B w g bx (.nW t a):=by obtain⟨e,d⟩:=VG (g:=g) h;refine⟨z.cells,?_,e,d,c⟩;simp[execOp,b,Instr.alloc,zeroValue,typeInfo,f,j,newVar,newRow]
theorem SX {t:TypeId} {a x:Operand} {k off n:Nat} {cells vs:ah} (D:o.op=.store t a x) (hB:BOk P B g bx w) (hE: ∀y,aU g (r y) (ac.eval y)) (J:r a=.box k off) (I:dG (r x)=some vs)
  (s:aK bx k=some cells) (G:dF P t=some n) (M:vs.length=n) (K:off+n≤cells.length):Does P ac.eval o B w g bx (.put k off vs):=by
 have j:=hE a;rw[J] at j;obtain⟨b,q,C⟩:=d9.1 j;obtain⟨L,c,e,d,A,u,f,v,E⟩:=hB.1 k cells s;rw[q] at d;simp only[aT] at d;subst d;obtain⟨p,z⟩:=oJ I (hE x);have l:(ac.eval x).cells.size=n:=by have:=p.1;simp only[Km] at this;omega
 have F:cells.length=c.size:=by rw[f.1];simp
 refine⟨b,c,e,(ac.eval x).cells.toList,cells,q,s,u,f,?_,p,z,by omega⟩;have h:=run_storeCells_at P b off e (ac.eval x).cells.toList 0 c w u (by simp;omega) z;simp only[WY] at h;obtain⟨i,H,m⟩:=lm G;simp[execOp,D,C,Instr.storeAt,Instr.sureAddr,storeVar,Go.sizeOf,typeInfo,H,l,m,h]
theorem flat_rep {k:Kd} {x:V} {v:Value} (b:flatK k=true) (a:fits k x=true) (h:aU g x v):aV g.G x v:=by
 cases k<;>first|cases b|skip
 all_goals cases x<;>first|exact h|(simp[fits] at a)
theorem IL {G:aW} {v:V} {u:Value} (e:aV G v u): ∀(b:ah) (c:List Value) (off:Nat),jm G b c→jm G (b.set off v) (c.set off u)
 |[],c,off,h=>by unfold jm at h;subst h;show jm G [] [];unfold jm;rfl
 |y::b,c,off,h=>by
  unfold jm at h;obtain⟨a,t,rfl,f,d⟩:=h
  cases off with
  |zero=>show jm G (v::b) (u::t);unfold jm;exact⟨u,t,rfl,e,d⟩
  |succ off=>show jm G (y::b.set off v) (a::t.set off u);unfold jm;exact⟨a,_,rfl,f,IL e b t off d⟩
theorem Rh (a b:Bool):ak a b=true↔a=true∧b=true:=by cases a<;>cases b<;>decide
theorem Dx {k:Kd} {v:V} (c:fits k v=true): ∀(sh:List Kd) (b:ah) (off:Nat),sh[off]? =some k→bW sh b=true→bW sh (b.set off v)=true
 |[],_,_,h,_=>by simp at h
 |q::sh,[],_,_,h=>by cases h
 |q::sh,y::b,0,h,a=>by simp only[Nh,aT] at h;subst h;have a:ak (fits q y) (bW sh b)=true:=a;show ak (fits q v) (bW sh b)=true;rw[Rh] at a⊢;exact⟨c,a.2⟩
 |q::sh,y::b,off+1,h,a=>by have a:ak (fits q y) (bW sh b)=true:=a;show ak (fits q y) (bW sh (b.set off v))=true;rw[Rh] at a⊢;exact⟨a.1,Dx c sh b off (by simpa using h) a.2⟩
theorem XV {sh:List Kd} {y:V} (a:fV sh y=true) (d:2≤sh.length): ∃c,y=.agg c:=by
 have b:=jA _ _ a
 cases y<;>first|exact⟨_,rfl⟩|(simp[V.cells] at b;omega)
theorem fset_ok {G:aW} {sh:List Kd} {y v:V} {p u:Value} {off:Nat} (a:Lf sh off v=true) (m:fV sh y=true) (f:aV G y p) (j:aV G v u):fV sh (xS sh y off v)=true∧ ∃z,aV G (xS sh y off v) z∧p.cells.toList.set off u=z.cells.toList:=by
 unfold Lf at a;rw[bF] at a;obtain⟨o,a⟩:=a;unfold Eg at a
 cases c:sh[off]? with
 |none=>rw[c] at a;cases a
 |some k=>
  rw[c] at a;have a:fits k v=true:=a;have d:=oM m f;by_cases b: ∃q,sh=[q]
  ·obtain⟨q,rfl⟩:=b
   have x:off=0:=by have:=(List.getElem?_eq_some_iff.1 c).1;simpa using this
   subst x;have n:q=k:=by simpa using c
   subst n;have A:flatK q=true:=by simpa using o
   obtain⟨s,l⟩: ∃s,p.cells.toList=[s]:=List.length_eq_one_iff.1 (by simpa using d);rw[l];have t:fV [q] v=true∧u.cells.toList=[u]:=by
    cases q<;>first|(cases A;done)|skip
    all_goals (cases v<;>first|(simp[fits] at a;done)|skip)
    all_goals (unfold aV at j;subst j;refine⟨?_,rfl⟩;simp only[fV,V.cells,bW,ak,a])
   exact⟨t.1,u,j,by rw[t.2];rfl⟩
  have g:=(List.getElem?_eq_some_iff.1 c).1;have w:2≤sh.length:=by
   match sh,b,g with
   |[],_,h=>simp at h
   |[q],b,_=>exact absurd ⟨q,rfl⟩ b
   |_::_::_,_,_=>simp
  obtain⟨i,rfl⟩:=XV m w;have e:xS sh (.agg i) off v=.agg (i.set off v):=by
   match sh,b with
   |[],_=>rfl
   |[q],b=>exact absurd ⟨q,rfl⟩ b
   |_::_::_,_=>rfl
  rw[e];unfold aV at f;obtain⟨r,rfl,f⟩:=f;refine⟨Dx a sh i off c m,.agg (r.set off u).toArray,?_,by simp[Value.cells]⟩;unfold aV;exact⟨_,rfl,IL j i r off f⟩
theorem LU {G:aW} {sh:List Kd} {v:V} {u:Value} {off:Nat} (d:Lf sh off v=true) (a:off<sh.length) (f:aV G v u): ∀(xs:ah) (l:List Value) (i:Nat),cZ G sh xs l→i<xs.length→cZ G sh (xs.set i (xS sh (xs.getD i .any) off v)) (l.set (i*sh.length+off) u)
 |[],_,_,_,h=>by simp at h
 |y::xs,l,i,h,m=>by
  unfold cZ at h;obtain⟨c,⟨n,b,g⟩,e⟩:=h
  cases i with
  |zero=>
   obtain⟨o,z,j,k⟩:=fset_ok d c b f;show cZ G sh (xS sh y off v::xs) (l.set (0*sh.length+off) u);rw[acT,T4];unfold cZ;refine⟨o,⟨z,j,?_⟩,?_⟩
   ·rw[acK,g,k]
   rw[List.drop_set_of_lt a];exact e
  |succ i=>
   show cZ G sh (y::xs.set i (xS sh (xs.getD i .any) off v)) (l.set ((i+1)*sh.length+off) u);unfold cZ;have p:(i+1)*sh.length+off=sh.length+(i*sh.length+off):=by rw[Nat.succ_mul];omega
   refine⟨c,⟨n,b,?_⟩,?_⟩
   ·rw[List.take_set_of_le (by omega)];exact g
   have:(l.set ((i+1)*sh.length+off) u).drop sh.length=(l.drop sh.length).set (i*sh.length+off) u:=by rw[List.drop_set,if_neg (by omega),show(i+1)*sh.length+off-sh.length=i*sh.length+off by omega]
   rw[this];exact LU d a f xs _ i e (by simpa using m)
theorem PI {t:TypeId} {a x:Operand} {L e:Nat} {sh:List Kd} {xs:ah} {i:Int} {off:Nat} {v:V} (ho:o.op=.store t a x) (hO:Qv B g w) (hE: ∀y,aU g (r y) (ac.eval y)) (ha:r a=.eptr L e sh xs i off) (hx:dG (r x)=some [v])
  (hs:dF P t=some 1) (f:Lf sh off v=true):Does P ac.eval o B w g bx (.Hf L e sh (oC xs i (xS sh (aG xs i) off v))):=by
 have I:=hE a;rw[ha] at I;obtain⟨v0,b,h1,h2,h3,h4,F,h6⟩:=mH.1 I;have d:=f;unfold Lf at d;rw[bF] at d;obtain⟨q,c⟩:=d;unfold Eg at c
 cases J:sh[off]? with
 |none=>rw[J] at c;cases c
 |some k=>
 rw[J] at c;have c:fits k v=true:=c;have E:=(List.getElem?_eq_some_iff.1 J).1;have S:flatK k=true:=by rw[lM] at q;exact q k (GR J)
 rcases(hO.1 L v0 e sh.length h1).2 with D|⟨U,n,cap,m,l,D,hBb,hh,N,hcm,hcs,O,hl⟩
 ·rw[D] at F;cases F
 rw[D] at F;simp only[Value.ownBlock,aT] at F;subst F;have M:=h2;rcases h2 with⟨_,C⟩|⟨b2,cap2,l2,j,Z,s,K,H⟩
 ·rw[C] at h4;simp at h4;omega
 rw[D] at j;simp only[Value.slice.injEq,aT,Addr.mk.injEq] at j;obtain⟨⟨rfl,_,_⟩,G,hcc⟩:=j;have e9:=(O.known s).1;rw[e9] at s K H;have O:=s;obtain⟨T,Y⟩:=oJ hx (hE x);have A:(ac.eval x).cells.size=1:=by have:=T.1;simp only[Km] at this;simpa using this.symm
 obtain⟨u,hu⟩: ∃u,(ac.eval x).cells.toList=[u]:=List.length_eq_one_iff.1 (by rw[Km];exact A);rw[hu] at T Y;have Q:=flat_rep S c T.head;have h:i.toNat<xs.length:=by omega
 have z:i.toNat*sh.length+off<xs.length*sh.length:=by have:(i.toNat+1)*sh.length≤xs.length*sh.length:=aa7 _ h;rw[Nat.succ_mul] at this;omega
 refine⟨v0,U,m,l,i.toNat*sh.length+off,u,xs,h1,by rw[D];rfl,hh,O,by rw[hl,G];exact z,M,by unfold oC;rw[abI],q,?_,Y u (by simp),?_⟩
 ·unfold oC aG
  exact LU f E Q xs l i.toNat H h
 have R:i.toNat*sh.length+off+1≤m.size:=by have h4':n*sh.length≤cap*sh.length:=aa7 _ N;rw[←G] at z;omega
 have p:=run_storeCells_at P U (i.toNat*sh.length+off) e [u] 0 m w hh (by simpa using R) Y;simp only[WY] at p;obtain⟨ii,X,W⟩:=lm hs;have hp:ac.eval a=.pointer (some ⟨U,i.toNat*sh.length+off,none⟩):=h6;simp[execOp,ho,hp,Instr.storeAt,Instr.sureAddr,storeVar,Go.sizeOf,typeInfo,X,A,W,hu] at p⊢;rw[p];rfl
theorem fold_push: ∀(l:List Int) (a:ByteArray),l.foldl (fun r n=>r.push (UInt8.ofNat n.toNat)) a=⟨a.data++(l.map fun n=>UInt8.ofNat n.toNat).toArray⟩
 |[],a=>by simp
 |n::l,a=>by
  rw[List.foldl_cons,fold_push l];apply ByteArray.ext;simp[ByteArray.push]
theorem Dy {G:aW}: ∀(xs:ah) (cells:List Value),cZ G [.int .u8] xs cells→cells.take xs.length=(xs.map fun x=>asInt (ai x 0)).map (Value.int .u8)
 |[],cells,_=>by simp
 |x::xs,cells,h=>by
  unfold cZ at h;obtain⟨b,⟨u,g,f⟩,p⟩:=h;have m:=Dy xs _ p;have q: ∃n,x=.int .u8 n∨x=.agg [.int .u8 n]:=by
   cases x with
   |int k n=>
    by_cases i:IntKind.u8=k
    ·subst i;exact⟨n,.inl rfl⟩
    have e:(IntKind.u8==k)=false:=by simpa using i
    simp only[fV,V.cells,bW,fits,ak,e] at b
    cases b
   |agg j=>
    cases j with
    |nil=>simp[fV,V.cells,bW] at b
    |cons c j=>
     cases j with
     |nil=>
      cases c with
      |int k n=>
       by_cases i:IntKind.u8=k
       ·subst i;exact⟨n,.inr rfl⟩
       have e:(IntKind.u8==k)=false:=by simpa using i
       simp only[fV,V.cells,bW,fits,ak,e] at b
       cases b
      |_=>simp[fV,V.cells,bW,fits,ak] at b
     |cons d j=>exfalso;unfold fV V.cells at b;have:=jA _ _ b;simp at this
   |_=>simp[fV,V.cells,bW,fits,ak] at b
  cases cells with
  |nil=>have:=oM b g;rw[←f] at this;simp at this
  |cons c cells=>
   simp only[Ec,acp,List.take_zero] at f;simp only[Ec,acP,WX] at m;obtain⟨n,rfl|rfl⟩:=q
   ·unfold aV at g
    subst g;simp[Value.cells] at f;subst f;simp[m,asInt,ai]
   unfold aV at g;obtain⟨a,rfl,hL⟩:=g;rw[fe] at hL;obtain⟨v,t,rfl,o,l⟩:=hL.cons_inv;have:=l.cO;subst this;unfold aV at o;subst o;simp[Value.cells] at f;subst f;simp[m,asInt,ai]
end
section
variable {P:Program} {ρ:Operand→Value} {o:Oper} {B:Own} {w:World} {g:Gh} {bx:List (Nat×ah)} {E:Env} {fr:ah} {ac:Act}
theorem J6 {t e g:TypeId} {n:Nat} {p q:Option Addr} {len cap c:Nat} (f:P.underlying t=some (.slice e)) (d:dF P e=some n) (a:len≤cap):
  (Builtin.append_ #[t,t] g #[.slice p len cap,.slice q 0 c]).run P w=.ok (.slice p len cap) w:=by
 have b:(Builtin.firstCells n 0 (.slice q 0 c)).run P w=.ok #[] w:=by cases q<;>simp[Builtin.firstCells,loadCells,loadCellsFrom]
 cases p<;>simp[Builtin.append_,run_underlying f,dP d,Builtin.lenOf,a,b,storeCells]
theorem gX {a old:Nat} {e:TypeId} (h:a≤33554432):grownCap w a old e≤maxLen:=grownCap_le_maxLen w a old e (by unfold maxLen;omega)
theorem tail_row {sh:List Kd} {X:V} {ys:ah} {u:Value} (c:aU g X u) (h:tailV sh X=some ys): ∃p cap,u=.slice p ys.length cap∧(ys=[]∨ ∃b off l,p=some ⟨b,off,none⟩∧g.G b=some l∧cZ g.G sh ys (l.drop off)):=by
 unfold tailV at h;split at h
 ·rename_i e i m zs
  have f:=aP h;obtain⟨k,d⟩:=f;simp only[aT] at d;subst d;obtain rfl:=Kd.cu _ _ k;have a:=lg c;unfold aV at a;obtain⟨p,cap,j,_,a⟩:=a;exact⟨p,cap,j,a⟩
 ·simp only[aT] at h
  subst h;rw[iI] at c;exact⟨none,0,c,.inl rfl⟩
 cases h
theorem fU (w:World) (o:Obj):(w.drew.alloc o).heap[w.heap.size]? =some o:=heap_alloc_new w.drew o
theorem fF (w:World) (o:Obj):Below w.heap.size w (w.drew.alloc o):=by have h:=iD w.drew o;exact⟨h.os,h.tape,h.output,h.size,h.block⟩
theorem LV {w:World} {b e:Nat} {a:Array Value} {l:List Value} (g:w.heap[b]? =some (.cells a e (0,0))) (h:a.toList.take l.length=l) {j:Nat} {v:Value} (d:l[j]? =some v):w.cell? ((⟨b,0,none⟩:Addr).add j)=some v:=by
 rw[Addr.add_mid,T4];refine jR (G:=fun k=>if k=b then some l else none) (fun k m c=>?_) (if_pos rfl) d;have c:(if k=b then some l else none)=some m:=c;split at c
 ·rename_i f
  simp only[aT] at c;subst c;subst f;exact⟨a,e,(0,0),g,h⟩
 cases c
section
variable {s x:Operand} {t u:TypeId} {e:Nat} {sh:List Kd} {z:V} {ys:ah} {xv:Value} {news:List Value}
theorem adu (h:ρ x=xv) (n:elemOf P t=some (e,sh,z))
  (d: ∀v w',(Builtin.append_ #[t,u] o.type #[ρ s,ρ x]).run P w=.ok v w'→(execOp ρ o).run P w=.ok (.value v) w') (B:xX g.G w) (q:aU g .nilsl (ρ s)) (k:ys≠[]) (a:news.length=ys.length*sh.length) (b:ys.length≤16777216)
  (Rn: ∀i c,P.info? e=some i→i.zero=some c→ys≠[]→ys.length*i.bytes≤281474976710656→ys.length≤16777216→(Builtin.append_ #[t,u] o.type #[.slice none 0 0,xv]).run P w=.ok (.slice (some ⟨w.heap.size,0,none⟩) ys.length (grownCap w ys.length 0 e)) (w.drew.alloc (.cells (news.toArray++Builtin.zeroCells c.cells (grownCap w ys.length 0 e-ys.length)) e))):
  ∃u w',(execOp ρ o).run P w=.ok (.value u) w'∧Below w.heap.size w w'∧zq g.G w' (w.heap.size≤ ·) e sh.length ys.length u news:=by
 obtain⟨F,i,c,A,D,_,_,E,y,m,j,p⟩:=ja n;rw[iI] at q;have r:=Rn i c A D k (by
  calc ys.length*i.bytes≤16777216*8388608:=abX b j
   _≤281474976710656:=by decide) b
 have f:=grownCap_ge w ys.length 0 e;refine⟨_,_,d _ _ (by rw[q,h];exact r),fF w _,y,a,.inr ⟨w.heap.size,_,_,rfl,kG _,fU w _,f,gX (by omega),?_,?_,?_⟩⟩
 ·simp only[abZ,abo,size_zeroCells,m,a,←GY]
  congr 1;omega
 ·simp only[ab1,abN]
 cases C:g.G w.heap.size with
 |none=>rfl
 |some l=>exact absurd (fD B C) (Nat.lt_irrefl _)
theorem adv {L:Nat} {xs:ah} {l:List Value} (J:ρ x=xv) (hel:elemOf P t=some (e,sh,z))
  (N: ∀v w',(Builtin.append_ #[t,u] o.type #[ρ s,ρ x]).run P w=.ok v w'→(execOp ρ o).run P w=.ok (.value v) w') (hG:xX g.G w) (hO:Qv B g w) (hB:B.n≤w.heap.size∧ ∀b,w.heap.size≤b→B.m b)
  (Ul:g.O L=some (ρ s,e,sh.length)) (hC:g.C L=some l) (hzG:zG g sh xs (ρ s) l) (A:ys≠[]) (p:news.length=ys.length*sh.length) (Q:xs.length+ys.length≤16777216)
  (Rn: ∀i y,P.info? e=some i→i.zero=some y→ys≠[]→ys.length*i.bytes≤281474976710656→ys.length≤16777216→(Builtin.append_ #[t,u] o.type #[.slice none 0 0,xv]).run P w=.ok (.slice (some ⟨w.heap.size,0,none⟩) ys.length (grownCap w ys.length 0 e)) (w.drew.alloc (.cells (news.toArray++Builtin.zeroCells y.cells (grownCap w ys.length 0 e-ys.length)) e)))
  (Rr: ∀i,P.info? e=some i→i.size=sh.length→ys≠[]→ ∀b a c (d:Array Value),w.heap[b]? =some (.cells d e (0,0))→a+ys.length≤c→a*sh.length+news.length≤d.size→(Builtin.append_ #[t,u] o.type #[.slice (some ⟨b,0,none⟩) a c,xv]).run P w=.ok (.slice (some ⟨b,0,none⟩) (a+ys.length) c) (w.setRow b (d.toList.take (a*sh.length)++news++d.toList.drop (a*sh.length+news.length)).toArray))
  (Rg: ∀i y,P.info? e=some i→i.zero=some y→i.size=sh.length→ys≠[]→ ∀b a c (l:List Value),l.length=a*i.size→(∀j v,l[j]? =some v→w.cell? ((⟨b,0,none⟩:Addr).add j)=some v)→c<a+ys.length→a+ys.length≤16777216→Builtin.nextslicecap (a+ys.length) c*i.bytes≤281474976710656→
   (Builtin.append_ #[t,u] o.type #[.slice (some ⟨b,0,none⟩) a c,xv]).run P w=.ok (.slice (some ⟨w.heap.size,0,none⟩) (a+ys.length) (grownCap w (a+ys.length) c e)) (w.drew.alloc (.cells (l.toArray++news.toArray++Builtin.zeroCells y.cells (grownCap w (a+ys.length) c e-(a+ys.length))) e))):
  ∃u w',(execOp ρ o).run P w=.ok (.value u) w'∧w.grownBy w' (ρ s).ownBlock∧(∀b,(ρ s).ownBlock=some b→g.G b=none)∧zq g.G w' (B.ok L) e sh.length (xs.length+ys.length) u (l++news)∧(u.ownBlock=(ρ s).ownBlock∨ ∀b,u.ownBlock=some b→w.heap.size≤b):=by
 obtain⟨hu,i,y,hi,hz,_,_,I,h0,W,Z,F⟩:=ja hel;have hpos:0<ys.length:=List.length_pos_iff.2 A;have E:(xs.length+ys.length)*i.bytes≤140737488355328:=by
  calc (xs.length+ys.length)*i.bytes≤16777216*8388608:=abX Q Z
   _≤140737488355328:=by decide
 have hGn:g.G w.heap.size=none:=by
  cases hq:g.G w.heap.size with
  |none=>rfl
  |some l=>exact absurd (fD hG hq) (Nat.lt_irrefl _)
 obtain⟨r,R,_⟩:=hzG;have D:(l++news).length=(xs.length+ys.length)*sh.length:=by rw[iW,R,p,GY]
 rcases r with⟨r,hx0⟩|⟨b,cap,r⟩
 ·subst hx0
  have hl0:l=[]:=Zw (by rw[R];simp);subst hl0;simp only[mr,T4,FD] at D Q⊢;have H:ys.length≤16777216:=Q;have S:=Rn i y hi hz A (by
   calc ys.length*i.bytes≤16777216*8388608:=abX H Z
    _≤281474976710656:=by decide) H
  have K:=grownCap_ge w ys.length 0 e;have h:=fF w (.cells (news.toArray++Builtin.zeroCells y.cells (grownCap w ys.length 0 e-ys.length)) e);refine⟨_,_,N _ _ (by rw[r,J];exact S),⟨h.os,h.tape,h.output,h.size,fun k q _=>h.block k q⟩,(fun b h=>by rw[r] at h;cases h),⟨h0,D,.inr ⟨w.heap.size,_,_,rfl,⟨hB.2 _ (kG _),fun _=>hB.1⟩,fU w _,K,gX (by omega),?_,?_,hGn⟩⟩,.inr ?_⟩
  ·simp only[abZ,abo,size_zeroCells,W,p,←GY]
   congr 1;omega
  ·simp only[ab1,abN]
  intro k q;simp[Value.ownBlock] at q;omega
 rcases(hO.1 L _ _ _ Ul).2 with U|⟨b',n,cap',d,l',M,hBb,hh,hn,hcm,hcs,X,hl'⟩
 ·rw[r] at U;cases U
 rw[r] at M;simp only[Value.slice.injEq,aT,Addr.mk.injEq] at M;obtain⟨⟨rfl,_,_⟩,hn2,rfl⟩:=M;obtain⟨G4,e9,Y⟩:=X.nested hC;subst e9;have T: ∀k,(ρ s).ownBlock=some k→g.G k=none:=fun k q=>by rw[r] at q;simp only[Value.ownBlock,aT] at q;rw[←q];exact G4
 by_cases f:xs.length+ys.length≤cap
 ·have F:xs.length*sh.length+news.length≤d.size:=by rw[p,hcs,←GY];exact aa7 _ f
  have S:=Rr i hi I A b xs.length cap d hh f F;rw[←R,Y] at S;have hset:=setRow_heap w b d (l++news++d.toList.drop (l.length+news.length)).toArray e (0,0) hh;refine⟨.slice (some ⟨b,0,none⟩) (xs.length+ys.length) cap,w.setRow b (l++news++d.toList.drop (l.length+news.length)).toArray,N _ _ (by rw[r,J];exact S),⟨rfl,rfl,rfl,by simp,fun k _ q=>setRow_other w b k _ (fun ek=>q (by rw[r,ek];rfl))⟩,T,⟨h0,D,.inr ⟨b,cap,_,rfl,hBb,hset,f,hcm,?_,?_,G4⟩⟩,.inl (by rw[r];rfl)⟩
  ·simp only[abo,iW,Ui,Km]
   rw[R];omega
  rw[CJ,←CJ l,abN]
 have S:=Rg i y hi hz I A b xs.length cap l (by rw[R,I]) (fun j v hj=>LV hh Y hj) (by omega) (by omega) (growslice_fits (by omega) E);have K:=grownCap_ge w (xs.length+ys.length) cap e;have h:=fF w (.cells (l.toArray++news.toArray++Builtin.zeroCells y.cells (grownCap w (xs.length+ys.length) cap e-(xs.length+ys.length))) e);refine⟨_,_,N _ _ (by rw[r,J];exact S),⟨h.os,h.tape,h.output,h.size,fun k q _=>h.block k q⟩,T,⟨h0,D,.inr ⟨w.heap.size,_,_,rfl,⟨hB.2 _ (kG _),fun _=>hB.1⟩,fU w _,K,gX (by omega),?_,?_,hGn⟩⟩,.inr ?_⟩
 ·simp only[abZ,abo,size_zeroCells,W,p,R,←GY]
  congr 1;omega
 ·have e3:(l.toArray++news.toArray++Builtin.zeroCells y.cells (grownCap w (xs.length+ys.length) cap e-(xs.length+ys.length))).toList=l++news++(Builtin.zeroCells y.cells (grownCap w (xs.length+ys.length) cap e-(xs.length+ys.length))).toList:=by simp
  rw[e3,abN]
 intro k q;simp[Value.ownBlock] at q;omega
end
theorem Bq: ∀(sh:List Kd) (i c d:Nat) (a:List Kd),zAt sh i=some (c,d,a)→i≤c∧sh[c-i]? =some (.sl d a)∧a.all flatK=true∧0<a.length∧ ∀j k,sh[j]? =some k→j≠c-i→flatK k=true
 |[],i,c,d,a,h=>by cases h
 |k::l,i,c,d,a,h=>by
  have b: ∀(p:flatK k=true) (h:zAt l (i+1)=some (c,d,a)),i≤c∧(k::l)[c-i]? =some (.sl d a)∧a.all flatK=true∧0<a.length∧ ∀j f,(k::l)[j]? =some f→j≠c-i→flatK f=true:=by
   intro p h;obtain⟨m,o,t,s,q⟩:=Bq l (i+1) c d a h;refine⟨by omega,by rw[show c-i=c-(i+1)+1 by omega];simpa using o,t,s,fun j f n g=>?_⟩
   cases j with
   |zero=>simp only[Nh,aT] at n;rw[←n];exact p
   |succ j=>exact q j f (by simpa using n) (by omega)
  cases k with
  |sl e sh=>
   have h:(bif (sh.all flatK&&Nat.blt 0 sh.length)&&l.all flatK then some (i,e,sh) else none)=some (c,d,a):=h;obtain⟨m,o⟩:=aP h;simp only[aT,bP] at o;obtain⟨rfl,rfl,rfl⟩:=o;rw[bF,bF,lM (l:=l),GZ] at m;refine⟨kG _,by rw[WZ];rfl,m.1.1,m.1.2,fun j f n g=>?_⟩
   cases j with
   |zero=>exact absurd (WZ i).symm g
   |succ j=>exact m.2 f (GR (by simpa using n))
  |bool=>exact b rfl (aP (show(bif flatK .bool then zAt l (i+1) else none)=some (c,d,a) from h)).2
  |int r=>exact b rfl (aP (show(bif flatK (.int r) then zAt l (i+1) else none)=some (c,d,a) from h)).2
  |str=>exact b rfl (aP (show(bif flatK .str then zAt l (i+1) else none)=some (c,d,a) from h)).2
  |oth=>cases h
theorem Ri {G G':aW} {sh:List Kd} {c:Nat} {ys:ah} {l:List Value} (h:ZG c ys=true) (hE:cZ G sh ys l):cZ G' sh ys l∧ys.length=1∧(c<sh.length→ ∀y,l[c]? =some y→y=.slice none 0 0):=by
 unfold ZG at h;split at h
 ·rename_i y
  rw[bF,lM] at h;obtain⟨A,p⟩:=h;unfold cZ at hE;obtain⟨s,⟨u,f,x⟩,_⟩:=hE;have D:y≠.any:=fun e=>by rw[e,lF] at s;cases s
  have i:=(mG f D).2;have g: ∀z∈y.cells,∀v,aV G z v→aV G' z v:=by
   intro z r v d;have:=A z r
   cases z with
   |bool b=>unfold aV at d⊢;exact d
   |int k n=>unfold aV at d⊢;exact d
   |str t=>unfold aV at d⊢;exact d
   |nilsl=>unfold aV at d⊢;exact d
   |_=>cases this
  have q:aV G' y u:=by
   cases y with
   |agg F=>unfold aV at f⊢;obtain⟨a,rfl,B⟩:=f;rw[fe] at B;exact⟨a,rfl,(fe _ _).2 (B.mono fun z r v d=>g z r v d)⟩
   |bool b=>unfold aV at f⊢;exact f
   |int k n=>unfold aV at f⊢;exact f
   |str t=>unfold aV at f⊢;exact f
   |nilsl=>unfold aV at f⊢;exact f
   |_=>exact absurd (A _ (by unfold V.cells;exact rf)) (by simp)
  refine⟨by unfold cZ;exact⟨s,⟨u,q,x⟩,iy⟩,rfl,fun E v d=>?_⟩;have j:u.cells.toList[c]? =some v:=by rw[←x,Qt,if_pos E];exact d
  have m:=i.1;have o:c<y.cells.length:=by rw[m];exact(List.getElem?_eq_some_iff.1 j).1
  have w:=i.2 c _ v (iK o) j;have C:y.cells.getD c .any=y.cells[c]:=by rw[l7,iK o];rfl
  rw[C] at p;generalize y.cells[c]=z at p w
  cases z with
  |nilsl=>unfold aV at w;exact w
  |_=>cases p
 cases h
theorem wF {s x:Operand} {S:V} {eff:Eff} {t u:TypeId} {e:Nat} {sh:List Kd} {z:V} {ys:ah} {xv:Value} {news:List Value} (Q:ρ x=xv) (hel:elemOf P t=some (e,sh,z))
  (U: ∀v w',(Builtin.append_ #[t,u] o.type #[ρ s,ρ x]).run P w=.ok v w'→(execOp ρ o).run P w=.ok (.value v) w') (hG:xX g.G w) (hO:Qv B g w) (hB:B.n≤w.heap.size∧ ∀b,w.heap.size≤b→B.m b)
  (hs:aU g S (ρ s)) (hE0:ys≠[]→cZ g.G sh ys news) (Y:ys≠[]→news.length=ys.length*sh.length)
  (R0:ys=[]→ ∀p len cap,len≤cap→(Builtin.append_ #[t,u] o.type #[.slice p len cap,xv]).run P w=.ok (.slice p len cap) w)
  (Rn: ∀i N,P.info? e=some i→i.zero=some N→ys≠[]→ys.length*i.bytes≤281474976710656→ys.length≤16777216→(Builtin.append_ #[t,u] o.type #[.slice none 0 0,xv]).run P w=.ok (.slice (some ⟨w.heap.size,0,none⟩) ys.length (grownCap w ys.length 0 e)) (w.drew.alloc (.cells (news.toArray++Builtin.zeroCells N.cells (grownCap w ys.length 0 e-ys.length)) e)))
  (Rr: ∀i,P.info? e=some i→i.size=sh.length→ys≠[]→ ∀b d r (f:Array Value),w.heap[b]? =some (.cells f e (0,0))→d+ys.length≤r→d*sh.length+news.length≤f.size→(Builtin.append_ #[t,u] o.type #[.slice (some ⟨b,0,none⟩) d r,xv]).run P w=.ok (.slice (some ⟨b,0,none⟩) (d+ys.length) r) (w.setRow b (f.toList.take (d*sh.length)++news++f.toList.drop (d*sh.length+news.length)).toArray))
  (Rg: ∀i N,P.info? e=some i→i.zero=some N→i.size=sh.length→ys≠[]→ ∀b d r (l:List Value),l.length=d*i.size→(∀j v,l[j]? =some v→w.cell? ((⟨b,0,none⟩:Addr).add j)=some v)→r<d+ys.length→d+ys.length≤16777216→Builtin.nextslicecap (d+ys.length) r*i.bytes≤281474976710656→
   (Builtin.append_ #[t,u] o.type #[.slice (some ⟨b,0,none⟩) d r,xv]).run P w=.ok (.slice (some ⟨w.heap.size,0,none⟩) (d+ys.length) (grownCap w (d+ys.length) r e)) (w.drew.alloc (.cells (l.toArray++news.toArray++Builtin.zeroCells N.cells (grownCap w (d+ys.length) r e-(d+ys.length))) e)))
  (h:(match S with
     | .nilsl=>some (rJ ys,Eff.own e sh ys)
     | .sl e' sh' (some L) xs=>bif e==e'&&Kd.tq sh sh' then some (dh xs ys,Eff.app L e sh (aX xs ys)) else none
     |_=>none)=some (true,eff)):Does P ρ o B w g bx eff:=by
 obtain⟨hu,i,N,hi,hz,_,_,O,h0,hzc,hby,X⟩:=ja hel;have hsT:dF P e=some sh.length:=by unfold dF;rw[hi];simp[O]
 split at h
 ·
  simp only[aT,bP] at h;obtain⟨I,rfl⟩:=h;have I:ys.length≤16777216:=FY I;rw[iI] at hs;by_cases y:ys=[]
  ·subst y
   refine⟨.slice none 0 0,w,g.G,U _ _ ?_,⟨Below.refl _ _,fun _ _=>rfl,hG⟩,h0,.inl ⟨rfl,rfl⟩⟩;rw[hs,Q];exact R0 rfl none 0 0 (kG _)
  have hE:=hE0 y;have A:=Y y;have hpos:0<ys.length:=List.length_pos_iff.2 y;have hr:=Rn i N hi hz y (by
   calc ys.length*i.bytes≤16777216*8388608:=abX I hby
    _≤281474976710656:=by decide) I
  have hge:=grownCap_ge w ys.length 0 e;have hap:=oG (e:=e) (sh:=sh) (xs:=ys) (cap:=grownCap w ys.length 0 e) (c:=news.toArray++Builtin.zeroCells N.cells (grownCap w ys.length 0 e-ys.length)) (w':=w.drew.alloc (.cells (news.toArray++Builtin.zeroCells N.cells (grownCap w ys.length 0 e-ys.length)) e)) hG
   (fF w _) (fU w _) h0 hge (gX (by omega)) (by
    simp only[abZ,abo,size_zeroCells,hzc,A,←GY];congr 1;omega) (by
    simp only[ab1,←A,abN];exact hE)
  obtain⟨G',hN,hF⟩:=hap;exact⟨_,_,G',U _ _ (by rw[hs,Q];exact hr),hN,hF⟩
 ·
  rename_i e' sh' L xs;have hh:=aP h;clear h;obtain⟨hc2,h⟩:=hh;simp only[aT,bP] at h;obtain⟨I,rfl⟩:=h;have I:xs.length+ys.length≤16777216:=FY I;simp only[bF,iJ] at hc2;obtain⟨rfl,hsh⟩:=hc2;obtain rfl:=Kd.cu _ _ hsh;obtain⟨Ul,hown⟩:=hs;have hbytes:(xs.length+ys.length)*i.bytes≤140737488355328:=by
   calc (xs.length+ys.length)*i.bytes≤16777216*8388608:=abX I hby
    _≤140737488355328:=by decide
  obtain⟨_,J⟩:=hO.1 L _ _ _ Ul;have M: ∀(G':aW),G'=g.G→ys=[]→Does P ρ o B w g bx (.app L e sh (aX xs ys)):=by
   rintro G' rfl rfl;have hxe:aX xs []=xs:=by unfold aX;simp
   rw[hxe];have hlc: ∃p cap,ρ s=.slice p xs.length cap∧xs.length≤cap:=by
    rcases hown with⟨D,R⟩|⟨b,cap,l,D,E,_⟩
    ·exact⟨none,0,by rw[D,R];rfl,by rw[R];exact kG _⟩
    exact⟨_,cap,D,E⟩
   obtain⟨p,cap,D,E⟩:=hlc;refine⟨ρ s,ρ s,w,g.G,Ul,U _ _ (by rw[D,Q];exact R0 rfl p _ cap E),⟨rfl,rfl,rfl,kG _,fun _ _ _=>rfl⟩,fun _ _ _=>rfl,.refl _,hG,⟨h0,?_⟩,.inl rfl⟩;rcases hown with⟨D,R⟩|⟨b,cap,l,D,E,G4,hl,hE⟩
   ·exact .inl ⟨D,R⟩
   rcases J with J|⟨b',n,K,f,l',C,T,hh,hn,hcm,hcs,hGb',hl'⟩
   ·rw[D] at J;cases J
   rw[D] at C;simp only[Value.slice.injEq,aT,Addr.mk.injEq] at C;obtain⟨⟨rfl,_,_⟩,hn2,rfl⟩:=C;exact .inr ⟨b,cap,f,l,D,T,hh,E,hcm,hcs,G4,hl,hE⟩
  by_cases y:ys=[]
  ·exact M _ rfl y
  have hE2:=hE0 y;have A:=Y y;have hpos:0<ys.length:=List.length_pos_iff.2 y;have F:(aX xs ys).length=xs.length+ys.length:=by unfold aX;simp
  rcases hown with⟨D,R⟩|⟨b,cap,l,D,E,G4,hl,hE⟩
  ·
   subst R;have hle':ys.length≤16777216:=by simpa using I
   have hr:=Rn i N hi hz y (by
    calc ys.length*i.bytes≤16777216*8388608:=abX hle' hby
     _≤281474976710656:=by decide) hle'
   have hge:=grownCap_ge w ys.length 0 e;have hxe:aX [] ys=ys:=rfl;rw[hxe];obtain⟨G',hN,hF⟩:=oG (e:=e) (sh:=sh) (xs:=ys) (cap:=grownCap w ys.length 0 e) (c:=news.toArray++Builtin.zeroCells N.cells (grownCap w ys.length 0 e-ys.length)) (w':=w.drew.alloc (.cells (news.toArray++Builtin.zeroCells N.cells (grownCap w ys.length 0 e-ys.length)) e)) hG
    (fF w _) (fU w _) h0 hge (gX (by omega)) (by
     simp only[abZ,abo,size_zeroCells,hzc,A,←GY];congr 1;omega) (by
     simp only[ab1,←A,abN];exact hE2)
   obtain⟨W,hGs,hGk⟩:=hN;refine⟨ρ s,_,_,G',Ul,U _ _ (by rw[D,Q];exact hr),⟨W.os,W.tape,W.output,W.size,fun k q _=>W.block k q⟩,fun k q _=>hGs k q,fun k m q=>⟨m,by rw[hGs k (fD hG q)];exact q,Uh _⟩,hGk,⟨hF.1,?_⟩,.inr ?_⟩
   ·rcases hF.2 with hF|⟨b',K,f,l',C,T,Z⟩
    ·exact .inl hF
    exact .inr ⟨b',K,f,l',C,⟨hB.2 _ T,fun _=>FZ hB.1 T⟩,Z⟩
   intro k q;simp[Value.ownBlock] at q;omega
  rcases J with J|⟨b',n,K,f,l',C,T,hh,hn,hcm,hcs,hGb',hl'⟩
  ·rw[D] at J;cases J
  rw[D] at C;simp only[Value.slice.injEq,aT,Addr.mk.injEq] at C;obtain⟨⟨rfl,_,_⟩,hn2,rfl⟩:=C;obtain⟨cur',e2,fr2,hh2,htk⟩:=hG b l G4;rw[hh] at hh2;simp only[aT,Obj.cells.injEq] at hh2;obtain⟨rfl,_,_⟩:=hh2;rw[hl] at htk;have hcatE: ∀G',mg g.G G'→cZ G' sh (aX xs ys) (l++news):=fun G' hm=>wD xs ys l news (iT hm sh xs _ _ hE (Uh _)) (iT hm sh ys _ _ hE2 (Uh _)) hl
  have hcatl:(l++news).length=(aX xs ys).length*sh.length:=by rw[iW,hl,A,F,GY]
  by_cases H:xs.length+ys.length≤cap
  ·
   have X:xs.length*i.size+news.length≤f.size:=by rw[A,hcs,O,←GY];exact aa7 _ H
   have hr:=Rr i hi O y b xs.length cap f hh H (by rw[O] at X;exact X);rw[htk] at hr;have hblt:b<w.heap.size:=(Array.getElem?_eq_some_iff.1 hh).1;have hset:=setRow_heap w b f (l++news++f.toList.drop (xs.length*sh.length+news.length)).toArray e (0,0) hh;have hmore:mg g.G (upd g.G b (l++news)):=by
    intro k m q;by_cases ek:k=b
    ·subst ek
     rw[G4] at q;simp only[aT] at q;subst q;exact⟨_,upd_same _ _ _,List.prefix_append _ _⟩
    exact⟨m,by rw[gT _ _ _ _ ek];exact q,Uh _⟩
   refine⟨ρ s,_,_,upd g.G b (l++news),Ul,U _ _ (by rw[D,Q];exact hr),?_,?_,hmore,?_,⟨h0,.inr ⟨b,cap,_,l++news,by rw[F],T,hset,by rw[F];exact H,hcm,?_,upd_same _ _ _,hcatl,hcatE _ hmore⟩⟩,?_⟩
   ·exact⟨rfl,rfl,rfl,by simp,fun k _ q=>setRow_other w b k _ (fun ek=>q (by rw[D,ek];rfl))⟩
   ·intro k q hne2
    exact gT _ _ _ _ (fun ek=>hne2 (by rw[D,ek];rfl))
   ·intro k m q
    by_cases ek:k=b
    ·subst ek
     rw[upd_same] at q;simp only[aT] at q;subst q;exact⟨_,e,(0,0),hset,by rw[CJ,←CJ l,abN]⟩
    rw[gT _ _ _ _ ek] at q;obtain⟨c3,e3,f3,hc3,ht3⟩:=hG k m q;exact⟨c3,e3,f3,by rw[setRow_other w b k _ ek];exact hc3,ht3⟩
   ·simp only[abo,iW,Ui,Km]
    rw[hl];have h5:(xs.length+ys.length)*sh.length≤cap*sh.length:=aa7 _ H;rw[GY] at h5;have e1:f.toList.length=f.size:=by simp
    omega
   refine .inl ?_;rw[D];rfl
  ·
   have holds: ∀j v,l[j]? =some v→w.cell? ((⟨b,0,none⟩:Addr).add j)=some v:=by intro j v hjv;rw[Addr.add_mid,T4];exact jR hG G4 hjv
   have hr:=Rg i N hi hz O y b xs.length cap l (by rw[hl,O]) holds (by omega) (by omega) (growslice_fits (by omega) hbytes);have hge:=grownCap_ge w (xs.length+ys.length) cap e;obtain⟨G',hN,hF⟩:=oG (e:=e) (sh:=sh) (xs:=aX xs ys) (cap:=grownCap w (xs.length+ys.length) cap e) (c:=l.toArray++news.toArray++Builtin.zeroCells N.cells (grownCap w (xs.length+ys.length) cap e-(xs.length+ys.length)))
    (w':=w.drew.alloc (.cells (l.toArray++news.toArray++Builtin.zeroCells N.cells (grownCap w (xs.length+ys.length) cap e-(xs.length+ys.length))) e)) hG (fF w _) (fU w _) h0 (by rw[F];exact hge) (gX (by omega)) (by
     simp only[abZ,abo,size_zeroCells,hzc,A,hl,←GY];congr 1;omega) (by
     simp only[ab1,←hcatl,abN];exact hcatE _ (.refl _))
   obtain⟨W,hGs,hGk⟩:=hN;refine⟨ρ s,_,_,G',Ul,U _ _ (by rw[D,Q];exact hr),⟨W.os,W.tape,W.output,W.size,fun k q _=>W.block k q⟩,fun k q _=>hGs k q,fun k m q=>⟨m,by rw[hGs k (fD hG q)];exact q,Uh _⟩,hGk,⟨hF.1,?_⟩,.inr ?_⟩
   ·rcases hF.2 with⟨hF,_⟩|⟨b',K,cur',l',C,hBb',Z⟩
    ·cases hF
    rw[F] at C;exact .inr ⟨b',K,cur',l',by rw[F];exact C,⟨hB.2 _ hBb',fun _=>FZ hB.1 hBb'⟩,Z⟩
   intro k q;simp[Value.ownBlock] at q;omega
 cases h
theorem PK {s x:Operand} {S:V} {eff:Eff} {t u:TypeId} {e:Nat} {sh:List Kd} {z:V} {ys:ah} {U:Value} {news:List Value} (E:ys≠[]) (F:ρ x=U) (r:elemOf P t=some (e,sh,z))
  (I: ∀v w',(Builtin.append_ #[t,u] o.type #[ρ s,ρ x]).run P w=.ok v w'→(execOp ρ o).run P w=.ok (.value v) w') (hG:xX g.G w) (hO:Qv B g w) (hB:B.n≤w.heap.size∧ ∀b,w.heap.size≤b→B.m b)
  (hs:aU g S (ρ s)) (hE:cZ g.G sh ys news) (k:news.length=ys.length*sh.length)
  (Rn: ∀i T,P.info? e=some i→i.zero=some T→ys≠[]→ys.length*i.bytes≤281474976710656→ys.length≤16777216→(Builtin.append_ #[t,u] o.type #[.slice none 0 0,U]).run P w=.ok (.slice (some ⟨w.heap.size,0,none⟩) ys.length (grownCap w ys.length 0 e)) (w.drew.alloc (.cells (news.toArray++Builtin.zeroCells T.cells (grownCap w ys.length 0 e-ys.length)) e)))
  (Rr: ∀i,P.info? e=some i→i.size=sh.length→ys≠[]→ ∀b a d (A:Array Value),w.heap[b]? =some (.cells A e (0,0))→a+ys.length≤d→a*sh.length+news.length≤A.size→(Builtin.append_ #[t,u] o.type #[.slice (some ⟨b,0,none⟩) a d,U]).run P w=.ok (.slice (some ⟨b,0,none⟩) (a+ys.length) d) (w.setRow b (A.toList.take (a*sh.length)++news++A.toList.drop (a*sh.length+news.length)).toArray))
  (Rg: ∀i T,P.info? e=some i→i.zero=some T→i.size=sh.length→ys≠[]→ ∀b a d (l:List Value),l.length=a*i.size→(∀j v,l[j]? =some v→w.cell? ((⟨b,0,none⟩:Addr).add j)=some v)→d<a+ys.length→a+ys.length≤16777216→Builtin.nextslicecap (a+ys.length) d*i.bytes≤281474976710656→
   (Builtin.append_ #[t,u] o.type #[.slice (some ⟨b,0,none⟩) a d,U]).run P w=.ok (.slice (some ⟨w.heap.size,0,none⟩) (a+ys.length) (grownCap w (a+ys.length) d e)) (w.drew.alloc (.cells (l.toArray++news.toArray++Builtin.zeroCells T.cells (grownCap w (a+ys.length) d e-(a+ys.length))) e)))
  (h:(match S with
     | .nilsl=>some (rJ ys,Ku e sh ys)
     | .sl X q (some L) xs=>bif e==X&&Kd.tq sh q then some (dh xs ys,Eff.app L e sh (aX xs ys)) else none
     | .slz L X q xs _ _ _ _ _ _=>match zAt sh 0 with
      |some (c,W,D)=>bif e==X&&Kd.tq sh q&&ZG c ys then some (dh xs ys,.appz L e sh (aX xs ys) (ay xs) c W D) else none
      |none=>none
     |_=>none)=some (true,eff)):Does P ρ o B w g bx eff:=by
 have f:=fun h=>wF (S:=S) (eff:=eff) (bx:=bx) F r I hG hO hB hs (fun _=>hE) (fun _=>k) (fun h=>absurd h E) Rn Rr Rg h
 obtain⟨_,_,_,_,_,_,_,_,h0,_⟩:=ja r;split at h
 ·cases M:zAt sh 0 with
  |none=>
   have O:Ku e sh ys=.own e sh ys:=by unfold Ku;rw[M]
   rw[O] at h;exact f h
  |some p=>
   obtain⟨c,W,D⟩:=p;obtain⟨_,Q,_,H,_⟩:=Bq _ _ _ _ _ M
   cases R:ZG c ys with
   |false=>
    have O:Ku e sh ys=.own e sh ys:=by unfold Ku;rw[M];simp only;rw[R];rfl
    rw[O] at h;exact f h
   |true=>
    have O:Ku e sh ys=.ownz e sh ys c W D:=by unfold Ku;rw[M];simp only;rw[R];rfl
    rw[O] at h;simp only[aT,bP] at h;obtain⟨J,rfl⟩:=h;obtain⟨k1,k2,k3⟩:=Ri (G':=g.G) R hE;obtain⟨u,w',r1,r2,Z⟩:=adu F r I hG hs E k (FY J) Rn;have K:c<sh.length:=by rw[acy] at Q;exact(List.getElem?_eq_some_iff.1 Q).1
    exact⟨u,w',news,r1,r2,Z,hE,H,fun y Y=>k3 K y Y⟩
 ·exact f h
 ·rename_i L X q xs o2 i c' e2' sh2' ys'
  split at h
  ·rename_i c W D M
   obtain⟨hc,h9⟩:=aP h;clear h;simp only[bF,iJ] at hc;obtain⟨⟨rfl,hsh⟩,R⟩:=hc;obtain rfl:=Kd.cu _ _ hsh;simp only[aT,bP] at h9;obtain⟨J,rfl⟩:=h9;obtain⟨l,N,hC1,C,_⟩:=nJ.1 hs;obtain⟨k1,k2,k3⟩:=Ri (G':=g.G) R hE;obtain⟨_,Q,_,H,_⟩:=Bq _ _ _ _ _ M;have K:c<sh.length:=by rw[acy] at Q;exact(List.getElem?_eq_some_iff.1 Q).1
   obtain⟨u,w',r1,r2,Z,r4,r5⟩:=adv F r I hG hO hB N hC1 C E k (FY J) Rn Rr Rg;have hlc:(aX xs ys).length=xs.length+ys.length:=by unfold aX;simp
   refine⟨ρ s,u,w',l++news,N,r1,r2,Z,by rw[hlc];exact r4,wD xs ys l news C.2.2 hE C.2.1,r5,H,fun y _ Y=>?_⟩;have e3:(ay xs).toNat=xs.length:=by unfold ay;omega
   rw[e3,←C.2.1,aa6 (by omega),Nat.add_sub_cancel_left] at Y;exact k3 K y Y
  cases h
 cases h
theorem yw {G:aW}: ∀l:af,cZ G [.int .u8] (aH l) (Lib.strCells ⟨l.toArray⟩)
 |[]=>iy
 |c::l=>by have a:=yw (G:=G) l;unfold Lib.strCells aH at a⊢;simp only[rA] at a⊢;unfold cZ;exact⟨rfl,⟨.int .u8 c.toNat,by unfold aV;rfl,rfl⟩,a⟩
theorem PL {c:Call} {s x:Operand} {S X:V} {eff:Eff} (ho:o.op=.call c) (hc:c.callee=.builtin .append) (ha:c.args.toList=[s,x]) (hG:xX g.G w) (hO:Qv B g w) (hB:B.n≤w.heap.size∧ ∀b,w.heap.size≤b→B.m b)
  (hs:aU g S (ρ s)) (hx:aU g X (ρ x)) (h:Ov P c.argTypes.toList S X=some (true,eff)):Does P ρ o B w g bx eff:=by
 obtain⟨callee,args,argTypes⟩:=c;simp only at hc ha h;subst hc;obtain rfl:args= #[s,x]:=by rw[←Qu];simpa using ha
 unfold Ov at h;split at h
 ·rename_i t u L
  obtain rfl:argTypes= #[t,u]:=by rw[←Qu];simpa using L
  have key: ∀v w',(Builtin.append_ #[t,u] o.type #[ρ s,ρ x]).run P w=.ok v w'→(execOp ρ o).run P w=.ok (.value v) w':=by intro v w' Q;simp[execOp,ho,resolve,invoke,builtin,Q]
  split at h
  ·cases h
  rename_i e sh z R;obtain⟨Q,i,zv,hi,hz,_,_,Y,h0,hzc,hby,hfit⟩:=ja R;have hsT:dF P e=some sh.length:=by unfold dF;rw[hi];simp[Y]
  cases L:t==u with
  |true=>
   rw[L,lC] at h;obtain rfl:t=u:=by simpa using L
   split at h
   ·cases h
   rename_i ys hty;obtain⟨q,cY,T,M⟩:=tail_row hx hty;have hnews:ys≠[]→ ∃b off l,q=some ⟨b,off,none⟩∧g.G b=some l∧cZ g.G sh ys ((l.drop off).take (ys.length*sh.length))∧((l.drop off).take (ys.length*sh.length)).length=ys.length*sh.length∧
     (∀j v,((l.drop off).take (ys.length*sh.length))[j]? =some v→w.cell? ((⟨b,off,none⟩:Addr).add j)=some v)∧ ∀v∈(l.drop off).take (ys.length*sh.length),v.oneCell'=true:=by
    intro r;rcases M with M|⟨b,off,l,rfl,hl,hE⟩
    ·exact absurd M r
    obtain⟨k1,k2⟩:=zK _ _ hE;refine⟨b,off,l,rfl,hl,k2,by rw[Kc];omega,fun j v hv=>?_,Rc _ _ hE⟩;rw[Addr.add_mid];rw[Qt] at hv;split at hv
    ·rw[T3] at hv;exact jR hG hl hv
    cases hv
   by_cases r:ys=[]
   ·subst r
    refine wF (news:=[]) T R key hG hO hB hs (fun h=>absurd rfl h) (fun h=>absurd rfl h) (fun _ p len cap hle=>J6 Q hsT hle) (fun _ _ _ _ h=>absurd rfl h) (fun _ _ _ h=>absurd rfl h) (fun _ _ _ _ _ h=>absurd rfl h) ?_;have e1:Ku e sh []=.own e sh []:=by
     unfold Ku;split
     ·rfl
     rfl
    rw[e1] at h;split at h
    ·exact h
    ·exact h
    ·split at h
     ·have:=(aP h).1
      rw[bF] at this
      cases this.2
     cases h
    cases h
   obtain⟨b,off,l,rfl,hl,hE,I,F,hone⟩:=hnews r;generalize hcells:(l.drop off).take (ys.length*sh.length)=news at*;have hpos:0<ys.length:=List.length_pos_iff.2 r;refine PK (news:=news) r T R key hG hO hB hs hE I (fun K J a H _ D O=>?_) (fun K a C _ b' k f Z hb' E A=>?_) (fun K J a H C _ b' k f l' hl' N W O D=>?_) h
   ·exact run_append_nil (P:=P) w t o.type e K J Q a H ⟨b,off,none⟩ ys.length cY news (by rw[hi] at a;simp only[aT] at a;rw[I,←a,Y]) F hpos (by omega) D
   ·have:=run_append_room (P:=P) w t o.type e K Q a b' k f Z hb' ⟨b,off,none⟩ ys.length cY news (by rw[I,C]) F hone E (by rw[C];exact A)
    rw[C] at this;exact this
   exact run_append_grow (P:=P) w t o.type e K J Q a H ⟨b',0,none⟩ k f l' hl' N ⟨b,off,none⟩ ys.length cY news (by rw[I,C]) F W (by omega) D
  |false=>
   rw[L,jW] at h;split at h
   ·rename_i l U _
    have T:=iB.1 hx;have hcl:(Lib.strCells ⟨l.toArray⟩).length=l.length:=by rw[Lib.strCells_length];simp[ByteArray.size]
    have d:(⟨l.toArray⟩:ByteArray).size=l.length:=by simp[ByteArray.size]
    have y:(aH l).length=l.length:=by simp[aH]
    have hE:cZ g.G [.int .u8] (aH l) (Lib.strCells ⟨l.toArray⟩):=yw l;refine wF (news:=Lib.strCells ⟨l.toArray⟩) T R key hG hO hB hs (fun _=>hE) (fun _=>by rw[hcl,y];simp) (fun h0' p len cap hle=>?_) (fun K J a H r D O=>?_) (fun K a C r b' k f Z hb' E A=>?_) (fun K J a H C r b' k f l' hl' N W O D=>?_) h
    ·have hl0:l=[]:=by have:=congrArg List.length h0';rw[y] at this;exact Zw this
     subst hl0;have hf: ∀w,(Builtin.firstCells 1 0 (.string ⟨#[]⟩)).run P w=.ok #[] w:=fun w=>by simp[Builtin.firstCells]
     have hsT1:dF P e=some 1:=hsT
     cases p<;>simp[Builtin.append_,run_underlying Q,run_underlying U,dP hsT1,Builtin.lenOf,hle,hf,storeCells,ByteArray.size]
    ·rw[y] at D O⊢
     have hne':l.length≠0:=fun e=>r (by rw[Zw e];rfl)
     have hf:=Lib.run_firstCells_string (P:=P) w.drew 1 ⟨l.toArray⟩;rw[d] at hf;have h63': ¬(9223372036854775807<(l.length:Int)):=by omega
     have h48': ¬(281474976710656<Builtin.nextslicecap l.length 0*K.bytes):=by rw[nextslicecap_zero (by omega)];omega
     have hs1:K.size=1:=by rw[hi] at a;simp only[aT] at a;rw[←a,Y];rfl
     simp[Builtin.append_,run_underlying Q,run_underlying U,Go.sizeOf,typeInfo,zeroValue,a,H,hs1,Builtin.lenOf,hne',h63',h48',Question.forced,run_firstCells_none,hf,newRow,grownCap,d]
    ·have hs1:K.size=1:=C
     have:=Lib.run_append_room_string (P:=P) w t u o.type e K Q U a hs1 b' k f Z hb' ⟨l.toArray⟩ (by rw[d,←y];exact E) (by rw[d];rw[hcl] at A;simpa using A);rw[d] at this;rw[y,hcl];simpa using this
    have:=Lib.run_append_grow_string (P:=P) w t u o.type e K J Q U a H ⟨b',0,none⟩ k f l' hl' N ⟨l.toArray⟩ (by rw[d,←y];exact W) (by rw[d];rw[y] at O;omega) (by rw[d,←y];exact D);rw[d] at this;rw[y];exact this
   cases h
 cases h
end
section
variable {P:Program} {ρ:Operand→Value} {o:Oper} {B:Own} {w:World} {g:Gh} {bx:List (Nat×ah)} {E:Env} {fr:ah} {ac:Act} {r:Operand→V}
theorem fset_okZ {G:aW} {sh:List Kd} {y v:V} {p u:Value} {off:Nat} (a:Eg sh off v=true) (m:v.cells=[v]) (l:u.cells= #[u]) (n:fV sh y=true) (f:aV G y p) (t:aV G v u):fV sh (xS sh y off v)=true∧ ∃z,aV G (xS sh y off v) z∧p.cells.toList.set off u=z.cells.toList:=by
 unfold Eg at a
 cases c:sh[off]? with
 |none=>rw[c] at a;cases a
 |some k=>
  rw[c] at a;have a:fits k v=true:=a;have d:=oM n f;by_cases b: ∃q,sh=[q]
  ·obtain⟨q,rfl⟩:=b
   have x:off=0:=by have:=(List.getElem?_eq_some_iff.1 c).1;simpa using this
   subst x;have o:q=k:=by simpa using c
   subst o;obtain⟨s,j⟩: ∃s,p.cells.toList=[s]:=List.length_eq_one_iff.1 (by simpa using d);rw[j];refine⟨?_,u,t,by rw[l];rfl⟩;show bW [q] v.cells=true;rw[m];simp only[bW,a,ak]
  have g:=(List.getElem?_eq_some_iff.1 c).1;have w:2≤sh.length:=by
   match sh,b,g with
   |[],_,h=>simp at h
   |[q],b,_=>exact absurd ⟨q,rfl⟩ b
   |_::_::_,_,_=>simp
  obtain⟨i,rfl⟩:=XV n w;have e:xS sh (.agg i) off v=.agg (i.set off v):=by
   match sh,b with
   |[],_=>rfl
   |[q],b=>exact absurd ⟨q,rfl⟩ b
   |_::_::_,_=>rfl
  rw[e];unfold aV at f;obtain⟨r,rfl,f⟩:=f;refine⟨Dx a sh i off c n,.agg (r.set off u).toArray,?_,by simp[Value.cells]⟩;unfold aV;exact⟨_,rfl,IL t i r off f⟩
theorem Ju {G:aW} {sh:List Kd} {v:V} {u:Value} {off:Nat} (f:Eg sh off v=true) (d:v.cells=[v]) (c:u.cells= #[u]) (a:off<sh.length) (j:aV G v u): ∀(xs:ah) (l:List Value) (i:Nat),cZ G sh xs l→i<xs.length→cZ G sh (xs.set i (xS sh (xs.getD i .any) off v)) (l.set (i*sh.length+off) u)
 |[],_,_,_,h=>by simp at h
 |y::xs,l,i,h,o=>by
  unfold cZ at h;obtain⟨e,⟨p,b,k⟩,g⟩:=h
  cases i with
  |zero=>
   obtain⟨q,z,m,n⟩:=fset_okZ f d c e b j;show cZ G sh (xS sh y off v::xs) (l.set (0*sh.length+off) u);rw[acT,T4];unfold cZ;refine⟨q,⟨z,m,?_⟩,?_⟩
   ·rw[acK,k,n]
   rw[List.drop_set_of_lt a];exact g
  |succ i=>
   show cZ G sh (y::xs.set i (xS sh (xs.getD i .any) off v)) (l.set ((i+1)*sh.length+off) u);unfold cZ;have r:(i+1)*sh.length+off=sh.length+(i*sh.length+off):=by rw[Nat.succ_mul];omega
   refine⟨e,⟨p,b,?_⟩,?_⟩
   ·rw[List.take_set_of_le (by omega)];exact k
   have:(l.set ((i+1)*sh.length+off) u).drop sh.length=(l.drop sh.length).set (i*sh.length+off) u:=by rw[List.drop_set,if_neg (by omega),show(i+1)*sh.length+off-sh.length=i*sh.length+off by omega]
   rw[this];exact Ju f d c a j xs _ i g (by simpa using o)
theorem Eu {L off:Nat} {x:Int×Nat×Nat×List Kd×ah}: ∀(d:ah),CZ L off d=some x→ ∃e sh xs,V.slz L e sh xs (some x.2.1) x.1 off x.2.2.1 x.2.2.2.1 x.2.2.2.2∈d∧off<sh.length
 |[],h=>by cases h
 |v::l,h=>by
  have next:CZ L off l=some x→ ∃e sh xs,V.slz L e sh xs (some x.2.1) x.1 off x.2.2.1 x.2.2.2.1 x.2.2.2.2∈v::l∧off<sh.length:=fun h=>by obtain⟨e,sh,xs,g,f⟩:=Eu l h;exact⟨e,sh,xs,uO _ g,f⟩
  cases v with
  |slz L' e sh xs j i c k b ys=>
   cases j with
   |none=>exact next h
   |some L2=>
    have h:(bif (L==L'&&c==off)&&Nat.blt off sh.length then some (i,L2,k,b,ys) else CZ L off l)=some x:=h
    cases a:(L==L'&&c==off)&&Nat.blt off sh.length with
    |false=>rw[a] at h;exact next h
    |true=>rw[a,lC] at h;simp only[aT] at h;subst h;simp only[bF,iJ,GZ] at a;obtain⟨⟨rfl,rfl⟩,m⟩:=a;exact⟨e,sh,xs,rf,m⟩
  |_=>exact next h
theorem VH {L off:Nat} {x:Int×Nat×Nat×List Kd×ah} (h:Xn L off bx=some x): ∃k a e sh xs,aK bx k=some a∧V.slz L e sh xs (some x.2.1) x.1 off x.2.2.1 x.2.2.2.1 x.2.2.2.2∈a∧off<sh.length:=by
 unfold Xn at h;have b: ∀(l:List (Nat×ah)),Ib bx L off l=some x→ ∃k a e sh xs,aK bx k=some a∧V.slz L e sh xs (some x.2.1) x.1 off x.2.2.1 x.2.2.2.1 x.2.2.2.2∈a∧off<sh.length:=by
  intro l;induction l with
  |nil=>intro h;cases h
  |cons p l d=>
   intro h;obtain⟨k,j⟩:=p;unfold Ib at h;split at h
   ·rename_i a c
    split at h
    ·rename_i y g
     simp only[aT] at h;subst h;obtain⟨e,sh,xs,i,f⟩:=Eu a g;exact⟨k,a,e,sh,xs,c,i,f⟩
    exact d h
   exact d h
 exact b bx h
theorem Ew {L:Nat} {x:List Kd×ah}: ∀(g:ah),C4 L g=some x→ ∃e b i c d a ys,V.slz L e x.1 x.2 b i c d a ys∈g
 |[],h=>by cases h
 |v::l,h=>by
  have next:C4 L l=some x→ ∃e b i c d a ys,V.slz L e x.1 x.2 b i c d a ys∈v::l:=fun h=>by obtain⟨e,b,i,c,d,a,ys,j⟩:=Ew l h;exact⟨e,b,i,c,d,a,ys,uO _ j⟩
  cases v with
  |slz L' e sh xs b i c d a ys=>
   have h:(bif L==L' then some (sh,xs) else C4 L l)=some x:=h
   cases f:L==L' with
   |false=>rw[f] at h;exact next h
   |true=>rw[f,lC] at h;simp only[aT] at h;subst h;rw[iJ] at f;subst f;exact⟨e,b,i,c,d,a,ys,rf⟩
  |_=>exact next h
theorem VI {L:Nat} {x:List Kd×ah} (h:Xo L bx=some x): ∃k b e d i c f a ys,aK bx k=some b∧V.slz L e x.1 x.2 d i c f a ys∈b:=by
 unfold Xo at h;have g: ∀(l:List (Nat×ah)),Ic bx L l=some x→ ∃k b e d i c f a ys,aK bx k=some b∧V.slz L e x.1 x.2 d i c f a ys∈b:=by
  intro l;induction l with
  |nil=>intro h;cases h
  |cons p l m=>
   intro h;obtain⟨k,q⟩:=p;unfold Ic at h;split at h
   ·rename_i b j
    split at h
    ·rename_i y n
     simp only[aT] at h;subst h;obtain⟨e,d,i,c,f,a,ys,o⟩:=Ew b n;exact⟨k,b,e,d,i,c,f,a,ys,j,o⟩
    exact m h
   exact m h
 exact g bx h
theorem XW (hB:BOk P B g bx w) {k:Nat} {a:ah} {x:V} (f:aK bx k=some a) (l:x∈a): ∃v,aU g x v:=by obtain⟨b,c,e,_,_,_,d,_⟩:=hB.1 k a f;obtain⟨i,j⟩:=Zx l;obtain⟨v,_,h⟩:=d.get j;exact⟨v,h⟩
theorem z_row (q:Qv B g w) {L e f b:Nat} {i:Value} {l:List Value} (v:g.O L=some (i,e,f)) (m:g.C L=some l) (c:i.ownBlock=some b): ∃a n cap,i=.slice (some ⟨b,0,none⟩) n cap∧n≤cap∧w.heap[b]? =some (.cells a e (0,0))∧a.toList.take l.length=l∧a.size=cap*f∧l.length=n*f∧g.G b=none∧B.ok L b:=by
 rcases(q.1 L i e f v).2 with h|⟨x,n,cap,a,y,h,k,p,t,_,j,d,o⟩
 ·rw[h] at c;cases c
 rw[h] at c;simp only[Value.ownBlock,aT] at c;subst c;obtain⟨s,u,r⟩:=d.nested m;subst u;exact⟨a,n,cap,h,t,p,r,j,o,s,k⟩
theorem SY {t:TypeId} {a:Operand} {L e F:Nat} {i:Int} {off:Nat} {x:Int×Nat×Nat×List Kd×ah} (G:o.op=.load t a) (A:Qv B g w) (hB:BOk P B g bx w) (S:aU g (.epz L e F i off) (ρ a)) (E:Xn L off bx=some x) (d:bL P t=some false) (M:i=x.1):
  Does P ρ o B w g bx (.val (.sl x.2.2.1 x.2.2.2.1 (some x.2.1) x.2.2.2.2)):=by
 have R:execOp ρ o=(do pure (.value (←Instr.loadAt t (ρ a)))):=by simp only[execOp,G]
 obtain⟨v0,b,l,m,j,K,W,z,N⟩:=pK.1 S;obtain⟨k,X,Y,sh,xs,r,O,U⟩:=VH E;obtain⟨v,T⟩:=XW hB r O;obtain⟨l',f,h,Z,J,H,C,y⟩:=nJ.1 T;rw[m] at f;simp only[aT,bP] at f;obtain⟨rfl,rfl,rfl⟩:=f;rw[j] at h;simp only[aT] at h;subst h;subst M;obtain⟨D,n,cap,_,_,I,s,_⟩:=z_row A m j z;have c:x.1.toNat*sh.length+off<l.length:=by omega
 have p:l[x.1.toNat*sh.length+off]? =some l[x.1.toNat*sh.length+off]:=iK c;have Q:=y _ K p;have q:=LV I s p;rw[Addr.add_mid,T4] at q;refine bG R (u:=J) ?_ ⟨H,C⟩;rw[N,←Q];exact II d q
theorem PN {t:TypeId} {a y:Operand} {L e sz:Nat} {i:Int} {off:Nat} {sh:List Kd} {xs:ah} {j:Nat} {f:List Kd} {L3:Nat} {ys:ah} (ho:o.op=.store t a y) (hO:Qv B g w) (hB:BOk P B g bx w) (hE: ∀y,aU g (r y) (ac.eval y)) (ha:r a=.epz L e sz i off) (hx:r y=.sl j f (some L3) ys)
  (hf:Xo L bx=some (sh,xs)) (hs:dF P t=some 1) (M:sh.length=sz) {c A:Nat} {h:List Kd} (hz:zAt sh 0=some (c,A,h)) (hc:c=off) (X:j=A) (m:Kd.tq f h=true):
  Does P ac.eval o B w g bx (.Hg L e sh (oC xs i (xS sh (aG xs i) off (.sl j f none ys))) i off L3 j f ys):=by
 subst hc;subst X;obtain⟨_,R,_⟩:=Bq _ _ _ _ _ hz;rw[acy] at R;have D:=(List.getElem?_eq_some_iff.1 R).1;have G:=hE a;rw[ha] at G;obtain⟨v0,b,l,T,J,h3,h4,h5,h6⟩:=pK.1 G;obtain⟨k,cs,e',o2,i',c',e2'',K,ys'',k1,k2⟩:=VI hf;obtain⟨v,hv⟩:=XW hB k1 k2;obtain⟨l',S,O,x,_⟩:=nJ.1 hv;rw[T] at S;simp only[aT,bP] at S;obtain⟨rfl,rfl,e9⟩:=S;rw[J] at O;simp only[aT] at O;subst O;have x:zG g sh xs v0 l:=x;subst M;have E:=hE y;rw[hx] at E;obtain⟨p1,p2⟩:=E;obtain⟨q,n,cap,hv0,hn,hh,ht,hcs,hln,_⟩:=z_row hO T J h5;have Q:i.toNat*sh.length+c<l.length:=by omega
 have W:=nI (e:=j) (o:=none) p2;have d:(ac.eval y).cells= #[ac.eval y]∧(ac.eval y).oneCell'=true:=by unfold aV at W;obtain⟨p,cp,hq,_⟩:=W;rw[hq];exact⟨rfl,rfl⟩
 have u:i.toNat<xs.length:=by
  have I:=x.2.1;rw[I] at h4;refine abv fun Z=>?_
  have h9:=aa7 sh.length Z;omega
 have C:Eg sh c (.sl j f none ys)=true:=by unfold Eg;rw[R];show(j==j&&Kd.tq h f)=true;have:=Kd.cu _ _ m;subst this;rw[m];simp
 refine⟨v0,b,q,l,ac.eval y,T,J,h5,hh,Q,d.2,⟨?_,by rw[abI,x.2.1];unfold oC;rw[abI],?_⟩,p1,p2,?_⟩
 ·rcases x.1 with⟨I,h9⟩|⟨b',cp,I⟩
  ·rw[h9] at u;simp at u
  exact .inr ⟨b',cp,by rw[I];unfold oC;rw[abI]⟩
 ·unfold oC aG
  exact Ju C rfl d.1 D W xs l i.toNat x.2.2 u
 have N:i.toNat*sh.length+c+1≤q.size:=by have h7:n*sh.length≤cap*sh.length:=aa7 _ hn;omega
 have hcl:(ac.eval y).cells.toList=[ac.eval y]:=by rw[d.1]
 have s:=run_storeCells_at P b (i.toNat*sh.length+c) e [ac.eval y] 0 q w hh (by simpa using N) (by intro z H;rw[Ni] at H;rw[H];exact d.2);simp only[WY] at s;obtain⟨ii,Y,U⟩:=lm hs;have F:(ac.eval y).cells.size=1:=by rw[d.1];rfl
 simp[execOp,ho,h6,Instr.storeAt,Instr.sureAddr,storeVar,Go.sizeOf,typeInfo,Y,F,U,hcl] at s⊢;rw[s];rfl
theorem VJ {k:Nat} {v x:V} (h:Xp k v=some x): ∃n,Nat.blt n.toNat yX=true∧v=.fn BM [.int .i64 n,.box k 0]∧x=.int .i64 n:=by
 unfold Xp at h;split at h
 ·rename_i f n d
  obtain⟨b,a⟩:=aP h;simp only[bF,iJ] at b;obtain⟨⟨rfl,rfl⟩,c⟩:=b;simp only[aT] at a;exact⟨n,c,rfl,a.symm⟩
 cases h
theorem Ey {k:Nat}: ∀(vs xs:ah),Ie k vs=some xs→xs.length=vs.length∧ ∀(j:Nat) v x,vs[j]? =some v→xs[j]? =some x→Xp k v=some x
 |[],xs,h=>by simp only[Ie,aT] at h;subst h;exact⟨rfl,fun j v x b=>by simp at b⟩
 |v::vs,xs,h=>by
  unfold Ie at h;split at h
  ·rename_i x l f e
   simp only[aT] at h;subst h;obtain⟨g,d⟩:=Ey vs l e;refine⟨by simp[g],fun j c x' b a=>?_⟩
   cases j with
   |zero=>simp only[Nh,aT] at b a;rw[←b,←a];exact f
   |succ j=>exact d j c x' (by simpa using b) (by simpa using a)
  cases h
theorem VK {t:TypeId} {b:Array (Nat×Operand)} {vs:ah} (ho:o.op=.build t b) (hE: ∀y,aU g (r y) (ac.eval y))
  (h:arrC P t (b.toList.map fun(i,x)=>(i,r x))=some vs):Does P ac.eval o B w g bx (.val (.fn AM vs)):=by
 have he:execOp ac.eval o=(do pure (.value (←Instr.build t (b.map fun(i,x)=>(i,ac.eval x))))):=by simp only[execOp,ho]
 unfold arrC at h;split at h
 ·rename_i i n e hi hu
  split at h
  ·rename_i z m hz hs
   obtain⟨hc,L⟩:=aP h;clear h;simp only[bF,iJ] at hc;obtain⟨⟨⟨⟨rfl,hzs⟩,hnl⟩,R⟩,N⟩:=hc;have R:0<n:=by simpa[GZ] using R
   rw[kS,Km] at hnl;split at L
   ·rename_i i0 f0 k rest I
    split at L
    ·rename_i l hl
     simp only[aT] at L;subst L;obtain⟨S,l2⟩:=Ey _ _ hl;have hmm:((b.toList.map fun(i,x)=>(i,r x)).map fun p=>p.2)=b.toList.map fun p=>r p.2:=by simp
     rw[hmm] at S l2;have C:b.toList≠[]:=fun e=>by have:=congrArg List.length e;rw[Km,mr] at this;omega
     obtain⟨q,hq⟩: ∃q,b.toList[0]? =some q:=by
      cases T:b.toList with
      |nil=>exact absurd T C
      |cons q l=>exact⟨q,rfl⟩
     have d: ∀(j:Nat) (p:Nat×Operand),b.toList[j]? =some p→ ∃(n:Int) (D:Value),l[j]? =some (.int .i64 n)∧bQ g (.box k 0) D∧ac.eval p.2=.func (.func n.toNat) #[D] #[]:=by
      intro j p A;have M:j<l.length:=by rw[S,kS];exact(List.getElem?_eq_some_iff.1 A).1
      have hb:=l2 j (r p.2) l[j] (by rw[uE,A];rfl) (iK M);obtain⟨f,hf,hr,J⟩:=VJ hb;have h5:=hE p.2;rw[hr] at h5;obtain⟨a,ha,U⟩:=h5;obtain⟨iv,t',rfl,s,H⟩:=U.cons_inv;obtain⟨D,t',rfl,K,H⟩:=H.cons_inv;obtain rfl:=H.cO;have s:iv=.int .i64 f:=by have s:aV g.G (.int .i64 f) iv:=s;unfold aV at s;exact s
      subst s;exact⟨f,D,by rw[iK M,J],K,ha⟩
     obtain⟨f1,D,_,Q,_⟩:=d 0 q hq;have E: ∀c,bQ g (.box k 0) c→c=D:=fun c h'=>by obtain⟨b1,e1,rfl⟩:=h';obtain⟨b2,W,rfl⟩:=Q;rw[e1] at W;simp only[aT] at W;rw[W]
     have F:Instr.fill (fun i=>some (i*1,1)) z (b.toList.map fun p=>(p.1,ac.eval p.2))=some (b.toList.map fun p=>ac.eval p.2).toArray:=by
      rw[IK _ 0 z (fun j p I=>?_) (by rw[T4,kS,Km];omega)]
      ·simp
      simp only[uE] at I
      cases A:b.toList[j]? with
      |none=>rw[A] at I;cases I
      |some q=>rw[A] at I;simp only[xV,aT] at I;subst I;have h1:=Dv _ 0 N j (q.1,r q.2) (by rw[uE,A];rfl);obtain⟨f,c,_,_,H⟩:=d j q A;exact⟨h1,by simp only;rw[H];rfl⟩
     have O:(b.toList.map fun p=>ac.eval p.2)=(l.map fun x=>match x with| .int _ n=>Value.int .i64 n|_=>undef).map (QX D):=by
      apply ac2
      intro j;rw[uE,uE,uE]
      cases A:b.toList[j]? with
      |none=>
       have:l.length≤j:=by rw[S,kS];exact List.getElem?_eq_none_iff.1 A
       rw[abC this];rfl
      |some p=>obtain⟨f,c,K,H,h8⟩:=d j p A;rw[K];simp only[xV];rw[h8,E c H];rfl
     refine bG he (u:=.agg (b.toList.map fun p=>ac.eval p.2).toArray) ?_ ⟨D::(l.map fun x=>match x with| .int _ n=>Value.int .i64 n|_=>undef),?_,.cons Q ⟨by simp,fun j x v J Z=>?_⟩⟩
     ·have X:(zeroValue t).run P w=.ok (.agg z) w:=by simp[zeroValue,typeInfo,hi,hz]
      have hpt:(b.map fun(i,x)=>(i,ac.eval x)).toList=b.toList.map fun p=>(p.1,ac.eval p.2):=by simp
      simp only[Instr.build,Sem.run_bind,X,Result.andThen_ok,run_underlying hu,dP hs,Value.cells,hpt,F,Sem.run_pure]
     ·rw[XT,O]
     have Y:j<b.toList.length:=by have:=(List.getElem?_eq_some_iff.1 J).1;rw[S,kS] at this;exact this
     obtain⟨f,c,K,_⟩:=d j _ (iK Y);rw[K] at J;simp only[aT] at J;subst J;rw[uE,K] at Z;simp only[xV,aT] at Z;subst Z;show aV g.G _ _;unfold aV;rfl
    cases L
   cases L
  cases h
 cases h
end
section
variable {P:Program} {ρ:Operand→Value} {o:Oper} {B:Own} {w:World} {g:Gh} {bx:List (Nat×ah)} {E:Env} {fr:ah} {ac:Act}
theorem Jv {G:aW}: ∀(l:af) (a:List Value),cZ G [.int .u8] (aH l) ((l.map fun c=>Value.int .u8 (c.toNat:Int))++a)
 |[],a=>iy
 |c::l,a=>by unfold aH;rw[rA,rA,Nj];unfold cZ;refine⟨rfl,⟨.int .u8 (c.toNat:Int),by unfold aV;rfl,rfl⟩,?_⟩;exact Jv l a
theorem VL {s m:TypeId} {x:Operand} {X:V} {eff:Eff} (ho:o.op=.convert s m x) (Z:xX g.G w) (t:aU g X (ρ x)) (h:convV P s m X=some (true,eff)):Does P ρ o B w g bx eff:=by
 have F:execOp ρ o=(do pure (.value (←convert s m (ρ x)))):=by simp only[execOp,ho]
 unfold convV at h;split at h
 ·rename_i k0 k k' n r q
  simp only[ok,aT,bP,jC] at h;subst h;rw[di] at t;refine bG F (u:=.int k (qo k n)) ?_ (di.2 rfl);rw[t];simp[convert,run_underlying r,run_underlying q,Conv.intToInt,qo]
 ·rename_i l r q
  simp only[ok,aT,bP,jC] at h;subst h;refine bG F (u:=ρ x) ?_ t;rw[iB] at t;rw[t];simp[convert,run_underlying r,run_underlying q]
 ·rename_i e l r q
  split at h
  ·rename_i d
   simp only[aT,bP] at h;obtain⟨J,rfl⟩:=h;have J:l.length≤1152921504606846976:=FY J;rw[iB] at t;let cap:=grownCap w l.length 0 e
   let cells:Array Value:=((⟨l.toArray⟩:ByteArray).data.map fun b=>Value.int .u8 b.toNat)++Array.replicate (cap-l.length) (.int .u8 0)
   have N:l.length≤cap:=grownCap_ge w l.length 0 e;have i:cells.toList=(l.map fun c=>Value.int .u8 (c.toNat:Int))++List.replicate (cap-l.length) (.int .u8 0):=by simp[cells]
   have A:=fU w (.cells cells e);have z:(convert s m (ρ x)).run P w=.ok (.slice (some ⟨w.heap.size,0,none⟩) l.length cap) ((w.drew.alloc (.cells cells e)).freeze {block:=w.heap.size,off:=cells.size} 1):=by
    rw[t];have L:(⟨l.toArray⟩:ByteArray).size=l.length:=wY l;have O:(markStringish ⟨w.heap.size,0,none⟩).run P (w.drew.alloc (.cells cells e))=.ok () ((w.drew.alloc (.cells cells e)).freeze {block:=w.heap.size,off:=cells.size} 1):=by
     have T:(w.drew.alloc (.cells cells e)).shape? w.heap.size=some (e,cells.size):=by unfold World.shape?;rw[A]
     simp only[markStringish,Sem.run_bind,run_shape,T,Result.andThen_ok];rfl
    have S:(Conv.stringToBytes e ⟨l.toArray⟩).run P w=.ok (.slice (some ⟨w.heap.size,0,none⟩) l.length cap) ((w.drew.alloc (.cells cells e)).freeze {block:=w.heap.size,off:=cells.size} 1):=by
     unfold Conv.stringToBytes;rw[Sem.run_bind,run_choose,if_neg (by simp[Question.forced])];simp only[Result.andThen_ok,L];rw[Sem.run_bind];have hn:(newRow e (Array.map (fun(b:UInt8)=>Value.int .u8 b.toNat) (⟨l.toArray⟩:ByteArray).data++Array.replicate ((Question.appendCap l.length 0 e).cut (w.tape w.drawn (.appendCap l.length 0 e))-l.length) (.int .u8 0))).run P {w with drawn:=w.drawn+1}=.ok ⟨w.heap.size,0,none⟩ (w.drew.alloc (.cells cells e)):=by simp only[newRow,Sem.run_bind,run_newObj,Result.andThen_ok,Sem.run_pure];rfl
     rw[hn];simp only[Result.andThen_ok];rw[Sem.run_bind,O];rfl
    simp only[convert,Sem.run_bind,run_underlying r,run_underlying q,Result.andThen_ok,run_underlying d,S]
   obtain⟨f,R⟩: ∃f:Obj→Obj,(w.drew.alloc (.cells cells e)).freeze {block:=w.heap.size,off:=cells.size} 1={w.drew.alloc (.cells cells e) with heap:=(w.drew.alloc (.cells cells e)).heap.modify w.heap.size f}∧ ∃fr,f (.cells cells e)=.cells cells e fr:=
    ⟨_,by unfold World.freeze;rw[if_neg (by decide)],_,rfl⟩
   obtain⟨R,fr,Q⟩:=R;rw[R] at z;have hB:Below w.heap.size w {w.drew.alloc (.cells cells e) with heap:=(w.drew.alloc (.cells cells e)).heap.modify w.heap.size f}:=by
    have I:=fF w (.cells cells e);refine⟨I.os,I.tape,I.output,?_,?_⟩
    ·show w.heap.size≤((w.drew.alloc (.cells cells e)).heap.modify w.heap.size f).size
     rw[Array.size_modify];exact I.size
    intro k hk;show((w.drew.alloc (.cells cells e)).heap.modify w.heap.size f)[k]? =_;rw[acE,if_neg (by omega)];exact I.block k hk
   have hh:({w.drew.alloc (.cells cells e) with heap:=(w.drew.alloc (.cells cells e)).heap.modify w.heap.size f}:World).heap[w.heap.size]? =some (.cells cells e fr):=by show((w.drew.alloc (.cells cells e)).heap.modify w.heap.size f)[w.heap.size]? =_;rw[acE,if_pos rfl,A,xV,Q]
   have K:l.length≤cells.size:=by
    have:cells.toList.length=cells.size:=by simp
    rw[←this,i];simp
   refine⟨.slice (some ⟨w.heap.size,0,none⟩) l.length cap,_,upd g.G w.heap.size (cells.toList.take l.length),by rw[F];simp only[Sem.run_bind,z,Result.andThen_ok,Sem.run_pure],Oy Z hB hh l.length K,?_⟩;unfold aV;refine⟨some ⟨w.heap.size,0,none⟩,cap,by unfold aH;simp,by unfold aH;simpa using N,.inr ⟨w.heap.size,0,_,rfl,upd_same _ _ _,?_⟩⟩;have e1:cells.toList.take l.length=(l.map fun c=>Value.int .u8 (c.toNat:Int)):=by rw[i,List.take_append_of_le_length (by simp)];exact Qe (by simp)
   rw[e1,WX];have:=Jv (G:=upd g.G w.heap.size (l.map fun c=>Value.int .u8 (c.toNat:Int))) l [];rwa [FC] at this
  cases h
 ·rename_i e sh ow xs r q
  split at h
  ·rename_i d
   simp only[ok,aT,bP,jC] at h;subst h;have D:=lg t;unfold aV at D;obtain⟨p,cap,C,Y,D⟩:=D;refine bG F (u:=.string ⟨(gq xs).toArray⟩) ?_ (iB.2 rfl);rw[C];have e0: ∀y:Value,(convert s m y).run P w=(Conv.bytesToString y).run P w∨True:=fun _=> .inr trivial
   by_cases E:xs=[]
   ·subst E
    cases p with
    |none=>simp[convert,run_underlying r,run_underlying q,run_underlying d,Conv.bytesToString,gq];rfl
    |some a=>
     have M:(loadCells a 0).run P w=.ok (([]:List Int).map (Value.int .u8)).toArray w:=by simp[loadCells,loadCellsFrom]
     have:=run_bytesToString w a 0 cap [] M;simp only[mr];simp[convert,run_underlying r,run_underlying q,run_underlying d,this,gq];rfl
   rcases D with D|⟨b,off,l,rfl,U,hE⟩
   ·exact absurd D E
   have H:=Dy xs _ hE;have M:(loadCells ⟨b,off,none⟩ xs.length).run P w=.ok ((xs.map fun x=>asInt (ai x 0)).map (Value.int .u8)).toArray w:=by
    have:=run_loadCells_list (P:=P) w ⟨b,off,none⟩ ((xs.map fun x=>asInt (ai x 0)).map (Value.int .u8)) (fun j v C=>by
     rw[←H,Qt] at C;split at C
     ·rw[T3] at C
      rw[Addr.add_mid];exact jR Z U C
     cases C)
    simpa using this
   have W:=run_bytesToString w ⟨b,off,none⟩ xs.length cap _ M;rw[fold_push] at W;simp[convert,run_underlying r,run_underlying q,run_underlying d,W,gq]
  cases h
 ·rename_i e r q
  split at h
  ·rename_i d
   simp only[ok,aT,bP,jC] at h;subst h;rw[iI] at t;refine bG F (u:=.string ⟨([]:af).toArray⟩) ?_ (iB.2 rfl);rw[t];simp[convert,run_underlying r,run_underlying q,run_underlying d,Conv.bytesToString];rfl
  cases h
 cases h
theorem yx (hE:uQ E) {id:Nat} (b:jY E.P id=true) (args:Array Value):(callFunc id args).run E.P w=.ok (.enter id args) w:=by
 unfold jY at b;split at b
 ·rename_i fn c
  have a:fn.name≠ "runtime.NumGoroutine" :=by
   have:=Array.all_eq_true_iff_forall_mem.1 hE.names fn (abU c);have d:fn.body.isNone=false:=by cases f:fn.body with|none=>rw[f] at b;cases b|some _=>rfl
   rw[d] at this;simpa using this
  obtain⟨bd,e⟩:=Option.isSome_iff_exists.1 b;simp[callFunc,c,a,e]
 ·cases b
theorem S7 {r:Operand→V} {f:Operand} {b:Array Operand} {c:Array TypeId} {n:Int} {p:ah} {a:List Value} {eff:Eff} (q:o.op=.call ⟨.value f,b,c⟩) (hE:uQ E) (i:ac.eval f=Kw BM a) (m:PW (bQ g) (.int .i64 n::p) a) (l:PW (aU g) (b.toList.map r) (b.toList.map ac.eval))
  (h:(match o9 bx 0 (p++b.toList.map r) with
   |some (args,mb,ml)=>bif (jY E.P n.toNat&&Nat.blt n.toNat yX)&&o8 mb ml then some (true,Eff.call n.toNat args mb ml) else none
   |none=>none)=some (true,eff)):Does E.P ac.eval o B w g bx eff:=by
 split at h
 ·rename_i args mb ml d
  have s:=aP h;clear h;obtain⟨j,h⟩:=s;simp only[bF] at j;obtain⟨⟨j,v⟩,u⟩:=j;simp only[aT,bP,jC] at h;subst h;obtain⟨iv,a,rfl,e,k⟩:=m.cons_inv;have e:iv=.int .i64 n:=by have e:aV g.G (.int .i64 n) iv:=e;unfold aV at e;exact e
  subst e;rw[XR] at i;refine⟨a++b.toList.map ac.eval,p++b.toList.map r,?_,(k.mono (S:=Ny g) fun _ _ _=> .inr).append (l.mono (S:=Ny g) fun _ _ _=> .inl),d,u⟩;have t:a.toArray++Array.map ac.eval b++ #[]=(a++b.toList.map ac.eval).toArray:=by rw[←Qu];simp
  simp only[execOp,q,resolve,Deferred.ofValue,i,invoke,Sem.run_bind,Sem.run_pure,Result.andThen_ok,yx hE j,t]
 cases h
theorem Dz (hE:uQ E) (hP:E.P=P) (hG:xX g.G w) (hO:Qv B g w) (hBx:BOk P B g bx w) (hB:B.n≤w.heap.size∧ ∀b,w.heap.size≤b→B.m b) {r:Operand→V} (F: ∀y,aU g (r y) (ac.eval y)) {eff:Eff} (h:Uk P r bx o=some (true,eff)):Does P ac.eval o B w g bx eff:=by
 subst hP;have S: ∀{v:V} {u:Value},execOp ac.eval o=pure (.value u)→aU g v u→Does E.P ac.eval o B w g bx (.val v):=fun K O=>⟨_,by rw[K];rfl,O⟩
 unfold Uk at h;simp only at h;split at h
 ·
  rename_i x C;simp only[ok,aT,bP,jC] at h;subst h;exact S (by simp only[execOp,C]) (F x)
 ·
  rename_i x C;have A:=F x;split at h
  ·rename_i D
   rw[D,iI] at A;split at h
   ·rename_i e sh z hel
    simp only[aT,bP,jC] at h;subst h;obtain⟨_,_,_,_,_,_,_,_,h0,_⟩:=ja hel;exact⟨.slice none 0 0,w,g.G,by simp only[execOp,C,A];rfl,⟨Below.refl _ _,fun _ _=>rfl,hG⟩,h0,.inl ⟨rfl,rfl⟩⟩
   simp only[ok,aT,bP,jC] at h;subst h;exact S (by simp only[execOp,C]) (iI.2 A)
  simp only[ok,aT,bP,jC] at h;subst h;exact S (by simp only[execOp,C]) A
 ·
  rename_i c x y C;have hc:=F c;split at h
  ·rename_i b hb
   simp only[aT,bP,jC] at h;subst h;rw[hb,dH] at hc;refine⟨if b then ac.eval x else ac.eval y,?_,?_⟩
   ·simp only[execOp,C,hc,Go.asBool,Sem.run_bind,Sem.run_pure,Result.andThen_ok]
   cases b
   ·exact F y
   exact F x
  cases h
 ·
  rename_i t C;split at h
  ·rename_i i N
   split at h
   ·rename_i z hz
    split at h
    ·rename_i cs hcs
     obtain⟨h,Y⟩:=U1 h;simp only[aT,bP,jC] at h;subst h;exact SV C N hz hcs Y
    cases h
   cases h
  cases h
 ·
  rename_i t x C;split at h
  ·rename_i cs hcs
   obtain⟨h,Y⟩:=U1 h;simp only[aT,bP,jC] at h;subst h;exact adt C F hcs Y
  cases h
 ·rename_i t parts C
  split at h
  ·rename_i vs hb
   simp only[ok,aT,bP,jC] at h;subst h;exact VD C F hb
  split at h
  ·rename_i vs hb
   simp only[ok,aT,bP,jC] at h;subst h;exact VK C F hb
  exact SS C F h
 ·rename_i t n parts C
  exact Ea C hG F h
 ·
  rename_i t a C;have R:=F a;split at h
  ·rename_i sh x off D
   rw[D] at R;exact Et C hG R h
  ·rename_i L e sh xs i off D
   rw[D] at R;exact Et C hG (ado R) h
  ·rename_i L e sz i off D
   rw[D] at R;split at h
   ·rename_i j L2 e2 sh2 ys hf U
    simp only[aT,bP] at h;obtain⟨hc,rfl⟩:=h;have hij:i=j:=by unfold ieq at hc;simpa using hc
    exact SY C hO hBx R hf U hij
   cases h
  ·rename_i k off D
   rw[D] at R;split at h
   ·rename_i cells hl
    obtain⟨l1,l2⟩:=PD C hBx R hl;split at h
    ·rename_i n U hs
     split at h
     ·rename_i cs hcs
      simp only[ok,aT,bP,jC] at h;subst h;exact l1 n cs U hs hcs
     cases h
    ·rename_i U
     have Q:=aP h;obtain⟨K,O⟩:=Q;simp only[ok,aT,bP,jC] at O;subst O;exact l2 U (by simpa[GZ] using K)
    cases h
   cases h
  cases h
 ·
  rename_i t a x C;split at h
  ·rename_i k off vs D I
   split at h
   ·rename_i cells n hl hs
    have Q:=aP h;obtain⟨K,O⟩:=Q;simp only[aT,bP,jC] at O;subst O;simp only[bF,iJ] at K;exact SX C hBx F D I hl hs K.1 (aa3 K.2)
   cases h
  ·rename_i L e sh xs i off v D I
   split at h
   ·rename_i U hs
    have Q:=aP h;obtain⟨K,O⟩:=Q;simp only[aT,bP,jC] at O;subst O;exact PI C hO F D I hs K
   cases h
  ·rename_i L e sz i off e2 sh2 L3 ys D I
   split at h
   ·rename_i sh xs hf U hs
    have Q:=aP h;clear h;obtain⟨K,O⟩:=Q;simp only[aT,bP,jC] at O;subst O;rw[bF,iJ] at K;obtain⟨K,h3⟩:=K;split at h3
    ·rename_i c e2' sh2' hz
     simp only[bF,iJ] at h3;obtain⟨⟨h4,h5⟩,h6⟩:=h3;have A:r x=.sl e2 sh2 (some L3) ys:=by
      cases Y:r x with
      |sl e' s' o' x'=>rw[Y] at I;simpa[dG] using I
      |fn f c=>
       exfalso;rw[Y] at I;simp only[dG] at I
       cases T:Nat.blt f yX with
       |true=>rw[T,lC] at I;simp at I
       |false=>
        rw[T,jW] at I;obtain⟨_,h8⟩:=aP I
        cases c with
        |nil=>cases h8
        |cons p l=>
         obtain⟨X,h9⟩:=aP h8;simp only[aT] at h9;match l,h9,X with
         |[],h9,_=>simp at h9
         |[y],h9,X=>
          simp only[K8,List.all_nil,ac6] at X
          cases y with
          |int k n=>simp[bmV] at h9
          |_=>cases X
         |_::_::_,h9,_=>simp at h9
      |agg cs=>exfalso;rw[Y] at I;simp only[dG] at I;obtain⟨h8,h9⟩:=aP I;simp only[aT] at h9;subst h9;simp[V.one] at h8
      |_=>rw[Y] at I;first|(cases I;done)|(simp[dG] at I)
     exact PN C hO hBx F D A hf hs K hz h4 h5 h6
    cases h3
   cases h
  cases h
 ·
  rename_i x C;have A:=F x;split at h
  ·rename_i L e sh xs i off D
   simp only[ok,aT,bP,jC] at h;subst h;rw[D] at A;obtain⟨v0,b,_,_,_,_,_,W⟩:=mH.1 A;exact S (u:=ac.eval x) (by simp only[execOp,C,W]) A
  ·rename_i L e sz i off D
   simp only[ok,aT,bP,jC] at h;subst h;rw[D] at A;obtain⟨v0,b,l,_,_,_,_,_,W⟩:=pK.1 A;exact S (u:=ac.eval x) (by simp only[execOp,C,W]) A
  ·rename_i sh v off D
   simp only[ok,aT,bP,jC] at h;subst h;rw[D] at A;obtain⟨b,q,l,W,_⟩:=iU.1 A;exact S (u:=ac.eval x) (by simp only[execOp,C,W]) A
  ·rename_i k off D
   simp only[ok,aT,bP,jC] at h;subst h;rw[D] at A;obtain⟨b,_,W⟩:=d9.1 A;exact S (u:=ac.eval x) (by simp only[execOp,C,W]) A
  cases h
 ·
  rename_i op t x y yt C;split at h
  ·rename_i e1 e2
   have A:=F x;have hy:=F y;rw[e1] at A;rw[e2] at hy;exact Jt C A hy h
  ·rename_i u v e1 e2
   have A:=F x;have hy:=F y;rw[e1] at A;rw[e2] at hy;exact Jt C A hy h
  refine VC C (F x) (F y) h ?_;clear h;intro eff h;have Q:=aP h;clear h;obtain⟨K,h⟩:=Q;unfold resV at h;split at h
  ·rename_i c v I
   simp only[aT,bP] at h;obtain⟨rfl,rfl⟩:=h;refine SI C (F x) (F y) I ?_;intro a b R _;rw[R] at K;unfold UT at K;split at K
   ·split at K
    ·assumption
    cases K
   rename_i hne;exact absurd rfl (hne _)
  cases h
 ·
  rename_i t x C;split at h
  ·cases h
  ·rename_i d v hne hu D
   simp only[ok,aT,bP,jC] at h;subst h;exact FP C hu (fun ms e=>hne ms e) D (F x)
  cases h
 ·
  rename_i x xt t C;split at h
  ·cases h
  ·rename_i d z hne hu hz
   have A:=F x;obtain⟨k1,k2,k3⟩:=D9 (B:=B) (bx:=bx) (g:=g) (w:=w) (ρ:=ac.eval) C hu (fun ms e=>hne ms e) hz A;split at h
   ·rename_i D
    simp only[ok,aT,bP,jC] at h;subst h;exact k1 D
   ·rename_i u v D
    cases hut:u==t with
    |true=>
     rw[hut,lC] at h;have e:u=t:=by simpa using hut
     have Q:=aP h;clear h;obtain⟨I,h⟩:=Q;simp only[ok,aT,bP,jC] at h;subst h;exact k3 u _ D e (by cases v<;>first|rfl|cases I)
    |false=>
     rw[hut,jW] at h;have e:u≠t:=by simpa using hut
     simp only[ok,aT,bP,jC] at h;subst h;exact k2 u v D e
   cases h
  cases h
 ·
  rename_i x C;have A:=F x;split at h
  ·rename_i t v D
   simp only[aT,bP,jC] at h;subst h;rw[D] at A;obtain⟨u,hu,hru⟩:=jQ.1 A;refine⟨.iface t u,?_,by unfold aV;exact⟨u,rfl,hru⟩⟩;simp only[execOp,C,hu,Instr.panic,Sem.run_bind,run_goPanic];rfl
  cases h
 ·
  rename_i op t x C;have A:=F x;split at h
  ·rename_i b D
   simp only[ok,aT,bP,jC] at h;subst h;rw[D,dH] at A;exact⟨.bool (aL b),by simp only[execOp,C,A,Op.unary,Sem.run_bind,Sem.run_pure,Result.andThen_ok];rfl,dH.2 rfl⟩
  ·rename_i k n D
   simp only[ok,aT,bP,jC] at h;subst h;rw[D,di] at A;exact⟨.int k (dB k 0 n),by simp only[execOp,C,A,Op.unary,Op.intArith,Sem.run_bind,Sem.run_pure,Result.andThen_ok];rfl,di.2 rfl⟩
  cases h
 ·rename_i src dst x C
  exact VL C hG (F x) h
 ·
  rename_i f first M C
  cases hfc:(M.size==0&&Nat.blt 0 first.size&&Nat.blt f yX)&&(first.toList.map r).all V.single with
  |true=>
   rw[hfc,lC] at h;simp only[ok,aT,bP,jC] at h;subst h;simp only[bF,iJ] at hfc;obtain⟨⟨⟨hc0,hf0⟩,T⟩,hsg⟩:=hfc;have hf0:0<first.size:=by simpa[GZ] using hf0
   have hc0:M= #[]:=Array.eq_empty_of_size_eq_zero hc0;subst hc0;refine⟨.func (.func f) (first.map ac.eval) #[],by simp[execOp,C,Instr.makeFunc],?_⟩;refine⟨.int .i64 (f:Int)::first.toList.map ac.eval,by rw[XR,←acn];rfl,.cons (show aV g.G _ _ by unfold aV;rfl) ⟨by simp,fun i x v A I=>?_⟩⟩;rw[lM] at hsg;have hxs:=hsg x (GR A);simp only[uE] at A I
   cases N:first.toList[i]? with
   |none=>rw[N] at A;cases A
   |some y=>rw[N] at A I;simp only[xV,aT] at A I;subst A;subst I;exact bf hxs (F y)
  |false=>
  rw[hfc,jW] at h;have Q:=aP h;obtain⟨K,O⟩:=Q;simp only[ok,aT,bP,jC] at O;subst O;rw[bF,bF] at K;obtain⟨⟨K,T⟩,hsg⟩:=K;have hf0:first= #[]:=by
   have:first.size=0:=by simpa using K
   exact Array.eq_empty_of_size_eq_zero this
  subst hf0;refine⟨.func (.func f) #[] (M.map ac.eval),by simp[execOp,C,Instr.makeFunc],?_⟩;refine⟨M.toList.map ac.eval,by rw[Bb T,←acn],by simp,fun i x v A I=>?_⟩;rw[lM] at hsg;have hxs:=hsg x (GR A);simp only[uE] at A I
  cases N:M.toList[i]? with
  |none=>rw[N] at A;cases A
  |some y=>rw[N] at A I;simp only[xV,aT] at A I;subst A;subst I;exact bf hxs (F y)
 ·rename_i t l c C
  exact SN C hG (F l) (F c) h
 ·rename_i t x lo N C
  exact SL C F h
 ·
  rename_i t x f C;split at h
  ·rename_i fd hf
   split at h
   ·cases h
   ·rename_i n hn hs
    have A:=F x;have hn0:n≠0:=fun e=>hn e
    split at h
    ·rename_i sh v off D
     simp only[ok,aT,bP,jC] at h;subst h;rw[D] at A;obtain⟨b,q,l,W,hG2,hfit,u,hu,hc⟩:=iU.1 A;exact⟨.pointer (some ⟨b,q+off+fd.offset,none⟩),by simp only[execOp,C,W,Sem.run_bind,mW hf hs hn0,Result.andThen_ok,Sem.run_pure],iU.2 ⟨b,q,l,by rw[acJ],hG2,hfit,u,hu,hc⟩⟩
    ·rename_i L e sh xs i off D
     simp only[ok,aT,bP,jC] at h;subst h;rw[D] at A;obtain⟨v0,b,q1,q2,q3,q4,q5,W⟩:=mH.1 A;exact⟨.pointer (some ⟨b,i.toNat*sh.length+off+fd.offset,none⟩),by simp only[execOp,C,W,Sem.run_bind,mW hf hs hn0,Result.andThen_ok,Sem.run_pure],mH.2 ⟨v0,b,q1,q2,q3,q4,q5,by rw[acJ]⟩⟩
    ·rename_i L e sz i off D
     simp only[ok,aT,bP,jC] at h;subst h;rw[D] at A;obtain⟨v0,b,l,q1,q2,q3,q4,q5,W⟩:=pK.1 A;exact⟨.pointer (some ⟨b,i.toNat*sz+off+fd.offset,none⟩),by simp only[execOp,C,W,Sem.run_bind,mW hf hs hn0,Result.andThen_ok,Sem.run_pure],pK.2 ⟨v0,b,l,q1,q2,q3,q4,q5,by rw[acJ]⟩⟩
    ·rename_i k off D
     simp only[ok,aT,bP,jC] at h;subst h;rw[D] at A;obtain⟨b,hb,W⟩:=d9.1 A;exact⟨.pointer (some ⟨b,off+fd.offset,none⟩),by simp only[execOp,C,W,Sem.run_bind,mW hf hs hn0,Result.andThen_ok,Sem.run_pure],d9.2 ⟨b,hb,rfl⟩⟩
    cases h
   cases h
  cases h
 ·
  rename_i t x f C;split at h
  ·rename_i fd cs hf D
   have A:=F x;rw[D] at A;exact PE C hf A h
  cases h
 ·
  rename_i t x i C;split at h
  ·rename_i k n D
   have N:=F i;rw[D,di] at N;have A:=F x;split at h
   ·rename_i k off hB
    rw[hB] at A;exact KN C A N h
   exact FN C A N h
  cases h
 ·
  rename_i t x i C;split at h
  ·rename_i k n D
   have N:=F i;rw[D,di] at N;have A:=F x;split at h
   ·rename_i cs hB
    rw[hB] at A;exact J5 C A N h
   ·rename_i f vs hB
    rw[hB] at A;obtain⟨Z,h⟩:=aP h;rw[bF,iJ] at Z;rw[Z.1] at A;exact J4 C A N Z.2 h
   exact SK C A N h
  cases h
 ·
  rename_i x i C;split at h
  ·rename_i vs D
   have A:=F x;rw[D] at A;have Q:=aP h;obtain⟨K,O⟩:=Q;simp only[ok,aT,bP,jC] at O;subst O;rw[bF] at K;exact KM C A (by simpa[GZ] using K.1) K.2
  cases h
 ·
  rename_i c C;split at h
  ·rename_i f H
   split at h
   ·rename_i id M hf
    have hpsc: ∀(J:Array Operand),PW (aU g) (J.toList.map r) (J.toList.map ac.eval):=fun J=>⟨by simp,fun i x v A I=>by
     simp only[uE] at A I
     cases N:J.toList[i]? with
     |none=>rw[N] at A;cases A
     |some y=>rw[N] at A I;simp only[xV,aT] at A I;subst A;subst I;exact F y⟩
    have Z:=F f;rw[hf] at Z;obtain⟨a,hfa,hpa⟩:=Z;obtain⟨callee,J,ctypes⟩:=c;simp only at H h;subst H;have hps:=hpsc J
    cases Y:id==BM with
    |false=>
     rw[Y,jW] at h;split at h
     ·rename_i args mb ml hargs
      have Q:=aP h;clear h;obtain⟨hb,h⟩:=Q;simp only[bF] at hb;obtain⟨⟨hb,T⟩,hn⟩:=hb;simp only[aT,bP,jC] at h;subst h;rw[Bb T] at hfa;refine⟨J.toList.map ac.eval++a,J.toList.map r++M,?_,?_,hargs,hn⟩
      ·simp only[execOp,C,resolve,Deferred.ofValue,hfa,invoke,Sem.run_bind,Sem.run_pure,Result.andThen_ok,yx hE hb]
       simp
      exact(hps.mono fun _ _ _=> .inl).append (hpa.mono fun _ _ _=> .inr)
     cases h
    |true=>
     rw[Y,lC] at h;rw[iJ] at Y;rw[Y] at hfa;split at h
     ·exact S7 C hE hfa hpa hps h
     cases h
   cases h
  ·rename_i H
   split at h
   ·rename_i x y R
    exact BU (great:=false) C H R (F x) (F y) h
   cases h
  ·rename_i H
   split at h
   ·rename_i x y R
    exact BU (great:=true) C H R (F x) (F y) h
   cases h
  ·rename_i H
   split at h
   ·rename_i t x ht A
    exact adp C H ht A (F x) h
   cases h
  ·rename_i H
   split at h
   ·rename_i t x ht A
    split at h
    ·rename_i e' hu D
     simp only[ok,aT,bP,jC] at h;subst h;have I:=F x;rw[D,iI] at I;obtain⟨callee,args,argTypes⟩:=c;simp only at H ht A;subst H;obtain rfl:args= #[x]:=by rw[←Qu];simpa using A
     obtain rfl:argTypes= #[t]:=by rw[←Qu];simpa using ht
     refine⟨.int .i64 0,?_,di.2 rfl⟩;have hv2:ac.eval x=.slice none 0 0:=I;have hu2:(Builtin.cap_ #[t] o.type #[ac.eval x]).run E.P w=.ok (.int .i64 0) w:=by rw[hv2];simp[Builtin.cap_,run_underlying hu,goInt]
     simp[execOp,C,resolve,invoke,builtin,hu2]
    cases h
   cases h
  ·rename_i H
   split at h
   ·rename_i s x R
    exact PL C H R hG hO hB (F s) (F x) h
   cases h
  cases h
 cases h
theorem own_none {B:Own} {g:Gh} {w:World} (h:g.O=fun _=>none):Qv B g w:=⟨fun L v e a hL=>by(rw[h] at hL;cases hL),fun L L' v d e f a c b hL=>by(rw[h] at hL;cases hL)⟩
theorem mI (hE:uQ E) (N:E.P=P) (r:xX g.G w) (C:Qv B g w) (a:BOk P B g bx w) (hB:B.n≤w.heap.size∧ ∀b,w.heap.size≤b→B.m b) (D:mg g.G1 g.G) (q: ∀y,aU g (nk E fr y) (ac.eval y)) {eff:Eff} (h:Kh E fr bx o=some (true,eff)):Does P ac.eval o B w g bx eff:=by
 subst N;unfold Kh at h;simp only at h;have d: ∀{eff:Eff},Uk E.P (fun x=>(nk E fr x).Ef) bx o=some (true,eff)→Does E.P ac.eval o B w g bx eff:=fun h=>Dz hE rfl r C a hB (fun y=>zI (q y)) h
 cases F:o.op.operands.toList.any fun x=>(nk E fr x).QR with
 |false=>rw[F] at h;exact Dz hE rfl r C a hB q h
 |true=>
  rw[F,lC] at h;split at h
  ·rename_i c v M
   cases s:v.fJ with
   |false=>rw[s] at h;exact d h
   |true=>
    rw[s,lC] at h;simp only[aT,bP] at h;obtain⟨rfl,rfl⟩:=h;have z:xX g.g0.G w:=fun b l H=>by
     obtain⟨O,p,i⟩:=D b l H;obtain⟨c,e,f,L,I⟩:=r b O p;refine⟨c,e,f,L,?_⟩;obtain⟨t,rfl⟩:=i;have A:(c.toList.take (l++t).length).take l.length=l:=by rw[I];simp
     rw[acX] at A;rwa [acQ (by simp)] at A
    obtain⟨u,p,i⟩:=Dz (B:=B) (g:=g.g0) hE rfl z (own_none rfl) (⟨fun k J j=>(by cases j),fun k Q J K j=>(by cases j)⟩:BOk E.P B g.g0 [] w) hB (fun y=>LG (q y)) M;exact⟨u,p,Pz s D i⟩
  exact d h
end
end Nt.Ev
