/-
  The evaluator's operations, all of them. append, conversions, calls; and all operations together.
-/
import Derived.Test.YtknhlobahpgkeaaGreatDoorMA
import Derived.Lib.AppendStr
import Derived.MapKept
set_option linter.all false
set_option maxRecDepth 100000
namespace Nt.Ev
open Go Go.RowKit
section
variable {P:Program} {o:Oper} {B:Own} {w:World} {g:Gh} {bx:List (Nat×ah)} {r:Operand→V} {ac:Act}
theorem zI (a:Array (Nat×Operand)) (f:Operand→V) (r:Operand→Value):
  (a.toList.map fun(i,x)=>(i,f x)).map (·.1)=((a.map fun(i,x)=>(i,r x)).toList).map (·.1):=by
 simp[acm,Fy,ac0]
theorem Di (hE: ∀y,aT g (r y) (ac.eval y)) (a:Array (Nat×Operand)): ∀(i:Nat) (x:V) (v:Value),((a.toList.map fun(i,x)=>(i,r x))[i]?).map (fun(p:Nat×V)=>p.2)=some x→
  (((a.map fun(i,x)=>(i,ac.eval x)).toList)[i]?).map (fun(p:Nat×Value)=>p.2)=some v→ ∀y,x.deep=some y→aV g.G y v:=by
 intro i x v b c y e;simp only[acm,sW,Option.map_map,ac0] at b c
 cases d:a.toList[i]? with
 |none=>rw[d] at b;cases b
 |some p=>rw[d] at b c;simp only[xR,aR] at b c;subst b;subst c;exact oL (hE p.2) e
theorem UK {G:aU} {b:Value} (l:qo b≠.any) (n a:Nat) (k:b.cells.size=a) (j:0<a):PW (aV G) (MU (qo b) n a) ((Array.range (n*a)).map (b.cells[· % b.cells.size]!)).toList:=by
 obtain⟨m,c⟩:=oJ (vR G b) l;unfold MU;refine⟨by simp,fun i x v d h=>?_⟩;have g:i<n*a:=by have:=(List.getElem?_eq_some_iff.1 d).1;simpa using this
 simp only[sW,ab1 g,xR,aR] at d;subst d;have o:i%a<a:=acL _ j;simp only[acm,sW,Array.toList_range,ab1 g,xR,aR,k] at h;subst h;have f:i%a<(qo b).cells.length:=by omega
 refine c.2 (i%a) _ _ (getD_some f) ?_;have e:i%a<b.cells.size:=by omega
 simp[e]
theorem DV {t:TypeId} {n:Nat} {d:Array (Nat×Operand)} {eff:Eff} (ho:o.op=.buildSlice t n d) (hG:xU g.G w) (hE: ∀y,aT g (r y) (ac.eval y))
  (h:wB P t n (d.toList.map fun(i,x)=>(i,r x))=some (true,eff)):Does P ac.eval o B w g bx eff:=by
 have he:execOp ac.eval o=(do pure (.value (←Instr.buildSlice t n (d.map fun(i,x)=>(i,ac.eval x))))):=by simp only[execOp,ho]
 unfold wB at h;split at h
 ·rename_i e sh z K
  obtain⟨hu,i,zv,hi,hz,rfl,_,s,u,L,hby,q⟩:=jc K;by_cases W:n=0
  ·subst W
   simp only[Pb,lm] at h;split at h
   ·rename_i X
    simp only[aR,bM,jA] at h;subst h;have N:d= #[]:=by have:=congrArg List.length X;simp at this;exact this
    subst N;obtain⟨G',hN,R⟩:=oF (e:=e) (sh:=sh) (xs:=[]) (cap:=0) (c:= #[]) hG (iD w (.cells #[] e)) (heap_alloc_new w _) u (lg _) (by unfold maxLen;omega) (by simp) iR;refine⟨_,_,G',?_,hN,R⟩;rw[he];have e0: ∀f:Nat→Value,Array.map f (Array.range 0)= #[]:=fun f=>by rw[←Px];simp
    simp[Instr.buildSlice,run_underlying hu,Go.sizeOf,typeInfo,hi,Instr.fill,newRow,e0]
   cases h
  have S:(n==0)=false:=by simpa using W
  rw[S] at h;simp only[jW] at h;split at h
  ·rename_i ag k hag A
   have T:=aP h;clear h;obtain⟨v,h⟩:=T;simp only[aR,bM,jA] at h;subst h;simp only[bC] at v;obtain⟨⟨Q,U⟩,E⟩:=v;have E:=aa6 E;have H:qo zv≠.any:=fun e=>by rw[e,mI] at q;cases q
   have J:=UK (G:=g.G) H n sh.length L u;obtain⟨j,O,F⟩:=uk _ _ _ k _ (zI d _ ac.eval) (Di hE d) J A;have l:k.length=n*sh.length:=by
    have h1: ∀(pl:Nat→Option (Nat×Nat)) (I:List (Nat×V)) (a b:ah),xX pl a I=some b→b.length=a.length:=by
     intro pl I;induction I with
     |nil=>intro a b h;simp only[xX,aR] at h;rw[h]
     |cons p I M=>
      intro a b h;obtain⟨i,x⟩:=p;simp only[xX] at h;split at h
      ·have T:=aP h
       obtain⟨v,h2⟩:=T;simp only[bC,iM] at v;have:=aa6 v.2;rw[M _ _ h2];unfold over;simp;omega
      cases h
    rw[h1 _ _ _ _ A];unfold MU;simp
   have D: ∀(m:Nat) (k:ah),(chunks ag sh.length m k).length=m:=by
    intro m;induction m with
    |zero=>intro k;rfl
    |succ m M=>intro k;unfold chunks;rw[fI,M]
   have C:=qO Q n k j.toList F l u U;have Y:j.size=n*sh.length:=by have:=F.1;rw[l] at this;simpa using this.symm
   obtain⟨G',hN,R⟩:=oF (e:=e) (sh:=sh) (xs:=chunks ag sh.length n k) (cap:=n) (c:=j) hG (iD w (.cells j e)) (heap_alloc_new w _) u (by rw[D];exact lg _) (by unfold maxLen;have:=ac3 n u;omega) Y (zH _ _ C).2;refine⟨_,_,G',?_,hN,R⟩;rw[he,D];have Z: ¬n*i.size=0:=by rw[s];have:=Nat.mul_pos (Nat.pos_of_ne_zero W) u;omega
   have hr:=run_buildSlice (P:=P) w t e n (d.map fun(i,x)=>(i,ac.eval x)) j i zv hu hi hz (by rw[s];omega) Z (by rw[s];exact O);simp only[Sem.run_bind,hr,Result.andThen_ok,Sem.run_pure]
  cases h
 cases h
theorem UL {a:Array Field} (h:a.all (fun f=>(dx P f.type).isSome)=true):(a.mapM fun(f:Field)=>(do pure (f.offset,←Go.sizeOf f.type):Sem (Nat×Nat))).run P w=.ok (a.map fun f=>(f.offset,(dx P f.type).getD 0)) w:=by
 rw[Array.mapM_eq_mapM_toList];have b: ∀l:List Field,(∀f∈l,(dx P f.type).isSome=true)→(l.mapM fun(f:Field)=>(do pure (f.offset,←Go.sizeOf f.type):Sem (Nat×Nat))).run P w=.ok (l.map fun f=>(f.offset,(dx P f.type).getD 0)) w:=by
  intro l;induction l with
  |nil=>intro _;rfl
  |cons f l j=>intro d;have c:=d f (by simp);obtain⟨n,e⟩:=Option.isSome_iff_exists.1 c;rw[acW];simp only[Sem.run_bind,dK e,Result.andThen_ok,Sem.run_pure,j (fun x i=>d x (by simp[i]))];simp[e]
 have:=b a.toList (fun f c=>by have g:=Array.all_eq_true_iff_forall_mem.1 h f (by simpa using c);exact g);simp only[Sem.run_bind,Sem.run_map,this,Result.andThen_ok];congr 1;rw[←Px];simp
theorem RP {t:TypeId} {a:Array (Nat×Operand)} {eff:Eff} (L:o.op=.build t a) (hE: ∀y,aT g (r y) (ac.eval y))
  (h:T4 P t (a.toList.map fun(i,x)=>(i,r x))=some (true,eff)):Does P ac.eval o B w g bx eff:=by
 have I:execOp ac.eval o=(do pure (.value (←Instr.build t (a.map fun(i,x)=>(i,ac.eval x))))):=by simp only[execOp,L]
 unfold T4 at h;split at h
 ·rename_i i H
  split at h
  ·rename_i z E C D
   split at h
   ·rename_i A m
    have M:=aP h;clear h;obtain⟨J,h⟩:=M;simp only[ok,aR,bM,jA] at h;subst h;have d:PW (aV g.G) (z.toList.map E9) z.toList:=⟨by simp,fun j x v q F=>by simp only[sW,F,xR,aR] at q;subst q;exact vQ g.G v⟩
    obtain⟨b,c,p⟩:=uk _ _ _ A z (zI a _ ac.eval) (Di hE a) d m;have s:T3 P E=fun(j:Nat)=>((E.map fun(f:Field)=>(f.offset,(dx P f.type).getD 0))[j]?):=by
     funext j
     unfold T3;rw[Array.getElem?_map]
     cases Q:E[j]? with
     |none=>rfl
     |some f=>have K:=Array.all_eq_true_iff_forall_mem.1 J f (abT Q);obtain⟨n,O⟩:=Option.isSome_iff_exists.1 K;simp[O]
    rw[s] at c;refine bB I (u:=.agg b) ?_ (iU.2 ⟨b.toList,by simp,p⟩);have l:(zeroValue t).run P w=.ok (.agg z) w:=by simp[zeroValue,typeInfo,H,C]
    simp only[Instr.build,Sem.run_bind,l,Result.andThen_ok,run_underlying D,UL J,Value.cells,c,Sem.run_pure]
   cases h
  ·rename_i z k e C D
   split at h
   ·rename_i n N
    split at h
    ·rename_i A m
     simp only[ok,aR,bM,jA] at h;subst h;have d:PW (aV g.G) (z.toList.map E9) z.toList:=⟨by simp,fun j x v q F=>by simp only[sW,F,xR,aR] at q;subst q;exact vQ g.G v⟩
     obtain⟨b,c,p⟩:=uk _ _ _ A z (zI a _ ac.eval) (Di hE a) d m;refine bB I (u:=.agg b) ?_ (iU.2 ⟨b.toList,by simp,p⟩);have l:(zeroValue t).run P w=.ok (.agg z) w:=by simp[zeroValue,typeInfo,H,C]
     simp only[Instr.build,Sem.run_bind,l,Result.andThen_ok,run_underlying D,dK N,Value.cells,c,Sem.run_pure]
    cases h
   cases h
  cases h
 cases h
theorem oH {x:V} {Q:ah} {u:Value} (h:dA x=some Q) (d:aT g x u):PW (aT g) Q u.cells.toList∧ ∀c∈u.cells.toList,c.oneCell'=true:=by
 have one: ∀(y:V) (c:Value),y.one=true→aV g.G y c→aT g y c∧c.oneCell'=true:=by
  intro y c w m
  cases y with
  |sl e sh S xs=>
   cases S with
   |none=>exact⟨m,by unfold aV at m;obtain⟨p,cap,rfl,_⟩:=m;rfl⟩
   |some L=>cases w
  |bool b=>refine⟨m,?_⟩;unfold aV at m;subst m;rfl
  |int k n=>refine⟨m,?_⟩;unfold aV at m;subst m;rfl
  |str l=>refine⟨m,?_⟩;unfold aV at m;subst m;rfl
  |nilsl=>refine⟨m,?_⟩;unfold aV at m;subst m;rfl
  |rptr sh x off=>refine⟨m,?_⟩;unfold aV at m;obtain⟨b,q,l,rfl,_⟩:=m;rfl
  |nilif=>refine⟨m,?_⟩;unfold aV at m;subst m;rfl
  |nilp=>refine⟨m,?_⟩;unfold aV at m;subst m;rfl
  |iface t x=>refine⟨m,?_⟩;unfold aV at m;obtain⟨u,rfl,_⟩:=m;rfl
  |_=>cases w
 cases x with
 |agg W=>
  unfold dA at h;have X:=aP h;obtain⟨o,P⟩:=X;simp only[aR] at P;subst P;obtain⟨a,rfl,F⟩:=iU.1 d;rw[sH];rw[l8] at o;refine⟨F.mono fun y w v r=>(one y v (o y w) r).1,fun c C=>?_⟩;obtain⟨j,I,rfl⟩:=acr C;have H:j<W.length:=by rw[F.1];exact I
  exact(one _ _ (o _ (Ga H)) (F.2 j _ _ (iZ H) (iZ I))).2
 |any=>cases h
 |tup vs=>cases h
 |old _=>cases h
 |eptr _ _ _ _ _ _=>cases h
 |bool b=>simp only[dA,aR] at h;subst h;have o:=dB.1 d;subst o;exact⟨.cons d .nil,by simp[Value.cells,Value.oneCell']⟩
 |int k n=>simp only[dA,aR] at h;subst h;have o:=cu.1 d;subst o;exact⟨.cons d .nil,by simp[Value.cells,Value.oneCell']⟩
 |str l=>simp only[dA,aR] at h;subst h;have o:=gJ.1 d;subst o;exact⟨.cons d .nil,by simp[Value.cells,Value.oneCell']⟩
 |nilsl=>simp only[dA,aR] at h;subst h;have o:=iK.1 d;subst o;exact⟨.cons d .nil,by simp[Value.cells,Value.oneCell']⟩
 |sl e sh S xs=>simp only[dA,aR] at h;subst h;have o:=lz d;unfold aV at o;obtain⟨p,cap,rfl,_⟩:=o;exact⟨.cons d .nil,by simp[Value.cells,Value.oneCell']⟩
 |rptr sh y off=>simp only[dA,aR] at h;subst h;obtain⟨b,q,l,rfl,_⟩:=iW.1 d;exact⟨.cons d .nil,by simp[Value.cells,Value.oneCell']⟩
 |box k off=>simp only[dA,aR] at h;subst h;obtain⟨b,_,rfl⟩:=dV.1 d;exact⟨.cons d .nil,by simp[Value.cells,Value.oneCell']⟩
 |fn f c=>
  simp only[dA] at h
  cases A:Nat.blt f yU with
  |true=>rw[A,lm] at h;simp only[aR] at h;subst h;have K:=d;obtain⟨a,rfl,_⟩:=K;rw[A8 A] at d⊢;exact⟨.cons d .nil,by simp[Value.cells,Value.oneCell']⟩
  |false=>
   rw[A,jW] at h;obtain⟨R,O⟩:=aP h;clear h;rw[iM] at R;subst R
   cases c with
   |nil=>cases O
   |cons p l=>
    obtain⟨z,U⟩:=aP O;clear O;simp only[aR] at U;subst U;obtain⟨a,rfl,F⟩:=d;obtain⟨N,lv,rfl,M,s⟩:=F.cons_inv;rw[WK,sH];rw[l8] at z;have E: ∀y∈l,∀v,bP g y v→aT g (bmV p y) (P7 N v)∧(P7 N v).oneCell'=true:=by
     intro y w v r;have T:=z y w
     cases y with
     |int k n=>
      have hn:Nat.blt n.toNat yU=true:=T;have r:v=.int k n:=by simp only[bP] at r;unfold aV at r;exact r
      subst r;exact⟨⟨[.int .i64 n,N],rfl,.cons (show aV g.G _ _ by unfold aV;rfl) (.cons M .nil)⟩,rfl⟩
     |_=>cases T
    refine⟨⟨by simp[s.1],fun j x v d r=>?_⟩,fun c C=>?_⟩
    ·rw[sW,Option.map_eq_some_iff] at d r
     obtain⟨y,w,rfl⟩:=d;obtain⟨J,B,rfl⟩:=r;exact(E y (F9 w) J (s.2 j y J w B)).1
    obtain⟨J,B,rfl⟩:=List.mem_map.1 C;obtain⟨j,I⟩:=aa5 B;have D:j<l.length:=by rw[s.1];exact(List.getElem?_eq_some_iff.1 I).1
    exact(E _ (Ga D) J (s.2 j _ J (iZ D) I)).2
 |nilif=>simp only[dA,aR] at h;subst h;have o:=mQ.1 d;subst o;exact⟨.cons d .nil,by simp[Value.cells,Value.oneCell']⟩
 |nilp=>simp only[dA,aR] at h;subst h;have o:=Y8.1 d;subst o;exact⟨.cons d .nil,by simp[Value.cells,Value.oneCell']⟩
 |iface t y=>simp only[dA,aR] at h;subst h;obtain⟨u,rfl,_⟩:=jQ.1 d;exact⟨.cons d .nil,by simp[Value.cells,Value.oneCell']⟩
 |bxa _ _=>cases h
 |out _ _ _=>cases h
 |ni _ _ _=>cases h
 |epz _ _ _ _ _=>cases h
 |keep _ _=>cases h
 |slz L e sh xs Z i c e2 Y ys=>simp only[dA,aR] at h;subst h;obtain⟨l,_,_,⟨r,_⟩,_⟩:=nL.1 d;refine⟨?_,?_⟩<;>rcases r with⟨rfl,rfl⟩|⟨b,cap,rfl⟩<;>first|exact .cons d .nil|(intro c C;simp[Value.cells] at C;subst C;rfl)
theorem UM {z:Value} {j:ah} (h:MX z=some j):PW (aT g) j z.cells.toList∧ ∀c∈z.cells.toList,c.oneCell'=true:=by
 unfold MX at h;split at h
 ·rename_i l d
  simp only[aR] at h;subst h;exact oH d (bZ (IP z) (vR g.G z))
 split at h
 ·rename_i a m
  obtain⟨k,f⟩:=aP h;simp only[aR] at f;subst f;rw[l8] at k;refine⟨⟨by simp[Value.cells],fun i x v e b=>?_⟩,fun c d=>k c d⟩;have b:a.toList[i]? =some v:=b;rw[sW,b] at e;simp only[xR,aR] at e;subst e;exact bZ (IL v) (vQ g.G v)
 cases h
theorem Zh {t:TypeId} {x:Operand} {a:ah} (b:o.op=.box t x) (hE: ∀y,aT g (r y) (ac.eval y)) (h:dA (r x)=some a) (c:nG a=true→o8 P t a.length=true):Does P ac.eval o B w g bx (.nX t a):=by obtain⟨e,d⟩:=oH h (hE x);refine⟨(ac.eval x).cells,?_,e,d,c⟩;simp[execOp,b,Instr.box,newVar,newRow]
theorem RQ {t:TypeId} {i:TypeInfo} {z:Value} {a:ah} (b:o.op=.alloc t) (f:P.info? t=some i) (j:i.zero=some z) (h:MX z=some a) (c:nG a=true→o8 P t a.length=true):Does P ac.eval o B w g bx (.nX t a):=by obtain⟨e,d⟩:=UM (g:=g) h;refine⟨z.cells,?_,e,d,c⟩;simp[execOp,b,Instr.alloc,zeroValue,typeInfo,f,j,newVar,newRow]
theorem RS {t:TypeId} {a x:Operand} {k off n:Nat} {cells vs:ah} (D:o.op=.store t a x) (hB:BOk P B g bx w) (hE: ∀y,aT g (r y) (ac.eval y)) (J:r a=.box k off) (I:dA (r x)=some vs)
  (s:aJ bx k=some cells) (G:dx P t=some n) (M:vs.length=n) (K:off+n≤cells.length):Does P ac.eval o B w g bx (.put k off vs):=by
 have j:=hE a;rw[J] at j;obtain⟨b,q,C⟩:=dV.1 j;obtain⟨L,c,e,d,A,u,f,v,E⟩:=hB.1 k cells s;rw[q] at d;simp only[aR] at d;subst d;obtain⟨p,z⟩:=oH I (hE x);have l:(ac.eval x).cells.size=n:=by have:=p.1;simp only[Kq] at this;omega
 have F:cells.length=c.size:=by rw[f.1];simp
 refine⟨b,c,e,(ac.eval x).cells.toList,cells,q,s,u,f,?_,p,z,by omega⟩;have h:=run_storeCells_at P b off e (ac.eval x).cells.toList 0 c w u (by simp;omega) z;simp only[VU] at h;obtain⟨i,H,m⟩:=lC G;simp[execOp,D,C,Instr.storeAt,Instr.sureAddr,storeVar,Go.sizeOf,typeInfo,H,l,m,h]
theorem flat_rep {k:Kd} {x:V} {v:Value} (b:flatK k=true) (a:fits k x=true) (h:aT g x v):aV g.G x v:=by
 cases k<;>first|cases b|skip
 all_goals cases x<;>first|exact h|(simp[fits] at a)
theorem H6 {G:aU} {v:V} {u:Value} (e:aV G v u): ∀(b:ah) (c:List Value) (off:Nat),nu G b c→nu G (b.set off v) (c.set off u)
 |[],c,off,h=>by unfold nu at h;subst h;show nu G [] [];unfold nu;rfl
 |y::b,c,off,h=>by
  unfold nu at h;obtain⟨a,t,rfl,f,d⟩:=h
  cases off with
  |zero=>show nu G (v::b) (u::t);unfold nu;exact⟨u,t,rfl,e,d⟩
  |succ off=>show nu G (y::b.set off v) (a::t.set off u);unfold nu;exact⟨a,_,rfl,f,H6 e b t off d⟩
theorem Ql (a b:Bool):ak a b=true↔a=true∧b=true:=by cases a<;>cases b<;>decide
theorem Dj {k:Kd} {v:V} (c:fits k v=true): ∀(sh:List Kd) (b:ah) (off:Nat),sh[off]? =some k→fU sh b=true→fU sh (b.set off v)=true
 |[],_,_,h,_=>by simp at h
 |q::sh,[],_,_,h=>by cases h
 |q::sh,y::b,0,h,a=>by simp only[O8,aR] at h;subst h;have a:ak (fits q y) (fU sh b)=true:=a;show ak (fits q v) (fU sh b)=true;rw[Ql] at a⊢;exact⟨c,a.2⟩
 |q::sh,y::b,off+1,h,a=>by have a:ak (fits q y) (fU sh b)=true:=a;show ak (fits q y) (fU sh (b.set off v))=true;rw[Ql] at a⊢;exact⟨a.1,Dj c sh b off (by simpa using h) a.2⟩
theorem WM {sh:List Kd} {y:V} (a:ig sh y=true) (d:2≤sh.length): ∃c,y=.agg c:=by
 have b:=j4 _ _ a
 cases y<;>first|exact⟨_,rfl⟩|(simp[V.cells] at b;omega)
theorem fset_ok {G:aU} {sh:List Kd} {y v:V} {p u:Value} {off:Nat} (a:Kz sh off v=true) (m:ig sh y=true) (f:aV G y p) (j:aV G v u):ig sh (xP sh y off v)=true∧ ∃z,aV G (xP sh y off v) z∧p.cells.toList.set off u=z.cells.toList:=by
 unfold Kz at a;rw[bC] at a;obtain⟨o,a⟩:=a;unfold D4 at a
 cases c:sh[off]? with
 |none=>rw[c] at a;cases a
 |some k=>
  rw[c] at a;have a:fits k v=true:=a;have d:=oK m f;by_cases b: ∃q,sh=[q]
  ·obtain⟨q,rfl⟩:=b
   have x:off=0:=by have:=(List.getElem?_eq_some_iff.1 c).1;simpa using this
   subst x;have n:q=k:=by simpa using c
   subst n;have A:flatK q=true:=by simpa using o
   obtain⟨s,l⟩: ∃s,p.cells.toList=[s]:=List.length_eq_one_iff.1 (by simpa using d);rw[l];have t:ig [q] v=true∧u.cells.toList=[u]:=by
    cases q<;>first|(cases A;done)|skip
    all_goals (cases v<;>first|(simp[fits] at a;done)|skip)
    all_goals (unfold aV at j;subst j;refine⟨?_,rfl⟩;simp only[ig,V.cells,fU,ak,a])
   exact⟨t.1,u,j,by rw[t.2];rfl⟩
  have g:=(List.getElem?_eq_some_iff.1 c).1;have w:2≤sh.length:=by
   match sh,b,g with
   |[],_,h=>simp at h
   |[q],b,_=>exact absurd ⟨q,rfl⟩ b
   |_::_::_,_,_=>simp
  obtain⟨i,rfl⟩:=WM m w;have e:xP sh (.agg i) off v=.agg (i.set off v):=by
   match sh,b with
   |[],_=>rfl
   |[q],b=>exact absurd ⟨q,rfl⟩ b
   |_::_::_,_=>rfl
  rw[e];unfold aV at f;obtain⟨r,rfl,f⟩:=f;refine⟨Dj a sh i off c m,.agg (r.set off u).toArray,?_,by simp[Value.cells]⟩;unfold aV;exact⟨_,rfl,H6 j i r off f⟩
theorem K7 {G:aU} {sh:List Kd} {v:V} {u:Value} {off:Nat} (d:Kz sh off v=true) (a:off<sh.length) (f:aV G v u): ∀(xs:ah) (l:List Value) (i:Nat),cO G sh xs l→i<xs.length→cO G sh (xs.set i (xP sh (xs.getD i .any) off v)) (l.set (i*sh.length+off) u)
 |[],_,_,_,h=>by simp at h
 |y::xs,l,i,h,m=>by
  unfold cO at h;obtain⟨c,⟨n,b,g⟩,e⟩:=h
  cases i with
  |zero=>
   obtain⟨o,z,j,k⟩:=fset_ok d c b f;show cO G sh (xP sh y off v::xs) (l.set (0*sh.length+off) u);rw[acR,S8];unfold cO;refine⟨o,⟨z,j,?_⟩,?_⟩
   ·rw[acI,g,k]
   rw[List.drop_set_of_lt a];exact e
  |succ i=>
   show cO G sh (y::xs.set i (xP sh (xs.getD i .any) off v)) (l.set ((i+1)*sh.length+off) u);unfold cO;have p:(i+1)*sh.length+off=sh.length+(i*sh.length+off):=by rw[Nat.succ_mul];omega
   refine⟨c,⟨n,b,?_⟩,?_⟩
   ·rw[List.take_set_of_le (by omega)];exact g
   have:(l.set ((i+1)*sh.length+off) u).drop sh.length=(l.drop sh.length).set (i*sh.length+off) u:=by rw[List.drop_set,if_neg (by omega),show(i+1)*sh.length+off-sh.length=i*sh.length+off by omega]
   rw[this];exact K7 d a f xs _ i e (by simpa using m)
theorem OE {t:TypeId} {a x:Operand} {L e:Nat} {sh:List Kd} {xs:ah} {i:Int} {off:Nat} {v:V} (ho:o.op=.store t a x) (hO:Ph B g w) (hE: ∀y,aT g (r y) (ac.eval y)) (ha:r a=.eptr L e sh xs i off) (hx:dA (r x)=some [v])
  (hs:dx P t=some 1) (f:Kz sh off v=true):Does P ac.eval o B w g bx (.Gn L e sh (oz xs i (xP sh (aG xs i) off v))):=by
 have I:=hE a;rw[ha] at I;obtain⟨v0,b,h1,h2,h3,h4,F,h6⟩:=mJ.1 I;have d:=f;unfold Kz at d;rw[bC] at d;obtain⟨q,c⟩:=d;unfold D4 at c
 cases J:sh[off]? with
 |none=>rw[J] at c;cases c
 |some k=>
 rw[J] at c;have c:fits k v=true:=c;have E:=(List.getElem?_eq_some_iff.1 J).1;have S:flatK k=true:=by rw[l8] at q;exact q k (F9 J)
 rcases(hO.1 L v0 e sh.length h1).2 with D|⟨U,n,cap,m,l,D,hBb,hh,N,hcm,hcs,O,hl⟩
 ·rw[D] at F;cases F
 rw[D] at F;simp only[Value.ownBlock,aR] at F;subst F;have M:=h2;rcases h2 with⟨_,C⟩|⟨b2,cap2,l2,j,Z,s,K,H⟩
 ·rw[C] at h4;simp at h4;omega
 rw[D] at j;simp only[Value.slice.injEq,aR,Addr.mk.injEq] at j;obtain⟨⟨rfl,_,_⟩,G,hcc⟩:=j;have e9:=(O.known s).1;rw[e9] at s K H;have O:=s;obtain⟨T,Y⟩:=oH hx (hE x);have A:(ac.eval x).cells.size=1:=by have:=T.1;simp only[Kq] at this;simpa using this.symm
 obtain⟨u,hu⟩: ∃u,(ac.eval x).cells.toList=[u]:=List.length_eq_one_iff.1 (by rw[Kq];exact A);rw[hu] at T Y;have Q:=flat_rep S c T.head;have h:i.toNat<xs.length:=by omega
 have z:i.toNat*sh.length+off<xs.length*sh.length:=by have:(i.toNat+1)*sh.length≤xs.length*sh.length:=aa4 _ h;rw[Nat.succ_mul] at this;omega
 refine⟨v0,U,m,l,i.toNat*sh.length+off,u,xs,h1,by rw[D];rfl,hh,O,by rw[hl,G];exact z,M,by unfold oz;rw[abG],q,?_,Y u (by simp),?_⟩
 ·unfold oz aG
  exact K7 f E Q xs l i.toNat H h
 have R:i.toNat*sh.length+off+1≤m.size:=by have h4':n*sh.length≤cap*sh.length:=aa4 _ N;rw[←G] at z;omega
 have p:=run_storeCells_at P U (i.toNat*sh.length+off) e [u] 0 m w hh (by simpa using R) Y;simp only[VU] at p;obtain⟨ii,X,W⟩:=lC hs;have hp:ac.eval a=.pointer (some ⟨U,i.toNat*sh.length+off,none⟩):=h6;simp[execOp,ho,hp,Instr.storeAt,Instr.sureAddr,storeVar,Go.sizeOf,typeInfo,X,A,W,hu] at p⊢;rw[p];rfl
theorem fold_push: ∀(l:List Int) (a:ByteArray),l.foldl (fun r n=>r.push (UInt8.ofNat n.toNat)) a=⟨a.data++(l.map fun n=>UInt8.ofNat n.toNat).toArray⟩
 |[],a=>by simp
 |n::l,a=>by
  rw[List.foldl_cons,fold_push l];apply ByteArray.ext;simp[ByteArray.push]
theorem Dk {G:aU}: ∀(xs:ah) (cells:List Value),cO G [.int .u8] xs cells→cells.take xs.length=(xs.map fun x=>asInt (ai x 0)).map (Value.int .u8)
 |[],cells,_=>by simp
 |x::xs,cells,h=>by
  unfold cO at h;obtain⟨b,⟨u,g,f⟩,p⟩:=h;have m:=Dk xs _ p;have q: ∃n,x=.int .u8 n∨x=.agg [.int .u8 n]:=by
   cases x with
   |int k n=>
    by_cases i:IntKind.u8=k
    ·subst i;exact⟨n,.inl rfl⟩
    have e:(IntKind.u8==k)=false:=by simpa using i
    simp only[ig,V.cells,fU,fits,ak,e] at b
    cases b
   |agg j=>
    cases j with
    |nil=>simp[ig,V.cells,fU] at b
    |cons c j=>
     cases j with
     |nil=>
      cases c with
      |int k n=>
       by_cases i:IntKind.u8=k
       ·subst i;exact⟨n,.inr rfl⟩
       have e:(IntKind.u8==k)=false:=by simpa using i
       simp only[ig,V.cells,fU,fits,ak,e] at b
       cases b
      |_=>simp[ig,V.cells,fU,fits,ak] at b
     |cons d j=>exfalso;unfold ig V.cells at b;have:=j4 _ _ b;simp at this
   |_=>simp[ig,V.cells,fU,fits,ak] at b
  cases cells with
  |nil=>have:=oK b g;rw[←f] at this;simp at this
  |cons c cells=>
   simp only[vg,acp,List.take_zero] at f;simp only[vg,acN,Yx] at m;obtain⟨n,rfl|rfl⟩:=q
   ·unfold aV at g
    subst g;simp[Value.cells] at f;subst f;simp[m,asInt,ai]
   unfold aV at g;obtain⟨a,rfl,hL⟩:=g;rw[fH] at hL;obtain⟨v,t,rfl,o,l⟩:=hL.cons_inv;have:=l.di;subst this;unfold aV at o;subst o;simp[Value.cells] at f;subst f;simp[m,asInt,ai]
end
section
variable {P:Program} {ρ:Operand→Value} {o:Oper} {B:Own} {w:World} {g:Gh} {bx:List (Nat×ah)} {E:Env} {fr:ah} {ac:Act}
theorem JA {t e g:TypeId} {n:Nat} {p q:Option Addr} {len cap c:Nat} (f:P.underlying t=some (.slice e)) (d:dx P e=some n) (a:len≤cap):
  (Builtin.append_ #[t,t] g #[.slice p len cap,.slice q 0 c]).run P w=.ok (.slice p len cap) w:=by
 have b:(Builtin.firstCells n 0 (.slice q 0 c)).run P w=.ok #[] w:=by cases q<;>simp[Builtin.firstCells,loadCells,loadCellsFrom]
 cases p<;>simp[Builtin.append_,run_underlying f,dK d,Builtin.lenOf,a,b,storeCells]
theorem ic {a old:Nat} {e:TypeId} (h:a≤33554432):grownCap w a old e≤maxLen:=grownCap_le_maxLen w a old e (by unfold maxLen;omega)
theorem tail_row {sh:List Kd} {X:V} {ys:ah} {u:Value} (c:aT g X u) (h:tailV sh X=some ys): ∃p cap,u=.slice p ys.length cap∧(ys=[]∨ ∃b off l,p=some ⟨b,off,none⟩∧g.G b=some l∧cO g.G sh ys (l.drop off)):=by
 unfold tailV at h;split at h
 ·rename_i e i m zs
  have f:=aP h;obtain⟨k,d⟩:=f;simp only[aR] at d;subst d;obtain rfl:=Kd.fA _ _ k;have a:=lz c;unfold aV at a;obtain⟨p,cap,j,_,a⟩:=a;exact⟨p,cap,j,a⟩
 ·simp only[aR] at h
  subst h;rw[iK] at c;exact⟨none,0,c,.inl rfl⟩
 cases h
theorem fT (w:World) (o:Obj):(w.drew.alloc o).heap[w.heap.size]? =some o:=heap_alloc_new w.drew o
theorem fB (w:World) (o:Obj):Below w.heap.size w (w.drew.alloc o):=by have h:=iD w.drew o;exact⟨h.os,h.tape,h.output,h.size,h.block⟩
theorem K8 {w:World} {b e:Nat} {a:Array Value} {l:List Value} (g:w.heap[b]? =some (.cells a e (0,0))) (h:a.toList.take l.length=l) {j:Nat} {v:Value} (d:l[j]? =some v):w.cell? ((⟨b,0,none⟩:Addr).add j)=some v:=by
 rw[Addr.add_mid,S8];refine jR (G:=fun k=>if k=b then some l else none) (fun k m c=>?_) (if_pos rfl) d;have c:(if k=b then some l else none)=some m:=c;split at c
 ·rename_i f
  simp only[aR] at c;subst c;subst f;exact⟨a,e,(0,0),g,h⟩
 cases c
section
variable {s x:Operand} {t u:TypeId} {e:Nat} {sh:List Kd} {z:V} {ys:ah} {xv:Value} {news:List Value}
theorem Zi (h:ρ x=xv) (n:elemOf P t=some (e,sh,z))
  (d: ∀v w',(Builtin.append_ #[t,u] o.type #[ρ s,ρ x]).run P w=.ok v w'→(execOp ρ o).run P w=.ok (.value v) w') (B:xU g.G w) (q:aT g .nilsl (ρ s)) (k:ys≠[]) (a:news.length=ys.length*sh.length) (b:ys.length≤16777216)
  (Rn: ∀i c,P.info? e=some i→i.zero=some c→ys≠[]→ys.length*i.bytes≤281474976710656→ys.length≤16777216→(Builtin.append_ #[t,u] o.type #[.slice none 0 0,xv]).run P w=.ok (.slice (some ⟨w.heap.size,0,none⟩) ys.length (grownCap w ys.length 0 e)) (w.drew.alloc (.cells (news.toArray++Builtin.zeroCells c.cells (grownCap w ys.length 0 e-ys.length)) e))):
  ∃u w',(execOp ρ o).run P w=.ok (.value u) w'∧Below w.heap.size w w'∧zn g.G w' (w.heap.size≤ ·) e sh.length ys.length u news:=by
 obtain⟨F,i,c,A,D,_,_,E,y,m,j,p⟩:=jc n;rw[iK] at q;have r:=Rn i c A D k (by
  calc ys.length*i.bytes≤16777216*8388608:=abW b j
   _≤281474976710656:=by decide) b
 have f:=grownCap_ge w ys.length 0 e;refine⟨_,_,d _ _ (by rw[q,h];exact r),fB w _,y,a,.inr ⟨w.heap.size,_,_,rfl,lg _,fT w _,f,ic (by omega),?_,?_,?_⟩⟩
 ·simp only[abY,abo,size_zeroCells,m,a,←JI]
  congr 1;omega
 ·simp only[ab2,abN]
 cases C:g.G w.heap.size with
 |none=>rfl
 |some l=>exact absurd (fw B C) (Nat.lt_irrefl _)
theorem Zj {L:Nat} {xs:ah} {l:List Value} (J:ρ x=xv) (hel:elemOf P t=some (e,sh,z))
  (N: ∀v w',(Builtin.append_ #[t,u] o.type #[ρ s,ρ x]).run P w=.ok v w'→(execOp ρ o).run P w=.ok (.value v) w') (hG:xU g.G w) (hO:Ph B g w) (hB:B.n≤w.heap.size∧ ∀b,w.heap.size≤b→B.m b)
  (hOL:g.O L=some (ρ s,e,sh.length)) (hC:g.C L=some l) (hzG:zG g sh xs (ρ s) l) (A:ys≠[]) (p:news.length=ys.length*sh.length) (Q:xs.length+ys.length≤16777216)
  (Rn: ∀i y,P.info? e=some i→i.zero=some y→ys≠[]→ys.length*i.bytes≤281474976710656→ys.length≤16777216→(Builtin.append_ #[t,u] o.type #[.slice none 0 0,xv]).run P w=.ok (.slice (some ⟨w.heap.size,0,none⟩) ys.length (grownCap w ys.length 0 e)) (w.drew.alloc (.cells (news.toArray++Builtin.zeroCells y.cells (grownCap w ys.length 0 e-ys.length)) e)))
  (Rr: ∀i,P.info? e=some i→i.size=sh.length→ys≠[]→ ∀b a c (d:Array Value),w.heap[b]? =some (.cells d e (0,0))→a+ys.length≤c→a*sh.length+news.length≤d.size→(Builtin.append_ #[t,u] o.type #[.slice (some ⟨b,0,none⟩) a c,xv]).run P w=.ok (.slice (some ⟨b,0,none⟩) (a+ys.length) c) (w.setRow b (d.toList.take (a*sh.length)++news++d.toList.drop (a*sh.length+news.length)).toArray))
  (Rg: ∀i y,P.info? e=some i→i.zero=some y→i.size=sh.length→ys≠[]→ ∀b a c (l:List Value),l.length=a*i.size→(∀j v,l[j]? =some v→w.cell? ((⟨b,0,none⟩:Addr).add j)=some v)→c<a+ys.length→a+ys.length≤16777216→Builtin.nextslicecap (a+ys.length) c*i.bytes≤281474976710656→
   (Builtin.append_ #[t,u] o.type #[.slice (some ⟨b,0,none⟩) a c,xv]).run P w=.ok (.slice (some ⟨w.heap.size,0,none⟩) (a+ys.length) (grownCap w (a+ys.length) c e)) (w.drew.alloc (.cells (l.toArray++news.toArray++Builtin.zeroCells y.cells (grownCap w (a+ys.length) c e-(a+ys.length))) e))):
  ∃u w',(execOp ρ o).run P w=.ok (.value u) w'∧w.grownBy w' (ρ s).ownBlock∧(∀b,(ρ s).ownBlock=some b→g.G b=none)∧zn g.G w' (B.ok L) e sh.length (xs.length+ys.length) u (l++news)∧(u.ownBlock=(ρ s).ownBlock∨ ∀b,u.ownBlock=some b→w.heap.size≤b):=by
 obtain⟨hu,i,y,hi,hz,_,_,I,h0,W,Z,F⟩:=jc hel;have hpos:0<ys.length:=List.length_pos_iff.2 A;have E:(xs.length+ys.length)*i.bytes≤140737488355328:=by
  calc (xs.length+ys.length)*i.bytes≤16777216*8388608:=abW Q Z
   _≤140737488355328:=by decide
 have hGn:g.G w.heap.size=none:=by
  cases hq:g.G w.heap.size with
  |none=>rfl
  |some l=>exact absurd (fw hG hq) (Nat.lt_irrefl _)
 obtain⟨r,R,_⟩:=hzG;have D:(l++news).length=(xs.length+ys.length)*sh.length:=by rw[iH,R,p,JI]
 rcases r with⟨r,hx0⟩|⟨b,cap,r⟩
 ·subst hx0
  have hl0:l=[]:=Yv (by rw[R];simp);subst hl0;simp only[qz,S8,Fx] at D Q⊢;have H:ys.length≤16777216:=Q;have S:=Rn i y hi hz A (by
   calc ys.length*i.bytes≤16777216*8388608:=abW H Z
    _≤281474976710656:=by decide) H
  have K:=grownCap_ge w ys.length 0 e;have h:=fB w (.cells (news.toArray++Builtin.zeroCells y.cells (grownCap w ys.length 0 e-ys.length)) e);refine⟨_,_,N _ _ (by rw[r,J];exact S),⟨h.os,h.tape,h.output,h.size,fun k q _=>h.block k q⟩,(fun b h=>by rw[r] at h;cases h),⟨h0,D,.inr ⟨w.heap.size,_,_,rfl,⟨hB.2 _ (lg _),fun _=>hB.1⟩,fT w _,K,ic (by omega),?_,?_,hGn⟩⟩,.inr ?_⟩
  ·simp only[abY,abo,size_zeroCells,W,p,←JI]
   congr 1;omega
  ·simp only[ab2,abN]
  intro k q;simp[Value.ownBlock] at q;omega
 rcases(hO.1 L _ _ _ hOL).2 with U|⟨b',n,cap',d,l',M,hBb,hh,hn,hcm,hcs,X,hl'⟩
 ·rw[r] at U;cases U
 rw[r] at M;simp only[Value.slice.injEq,aR,Addr.mk.injEq] at M;obtain⟨⟨rfl,_,_⟩,hn2,rfl⟩:=M;obtain⟨Gf,e9,Y⟩:=X.nested hC;subst e9;have T: ∀k,(ρ s).ownBlock=some k→g.G k=none:=fun k q=>by rw[r] at q;simp only[Value.ownBlock,aR] at q;rw[←q];exact Gf
 by_cases f:xs.length+ys.length≤cap
 ·have F:xs.length*sh.length+news.length≤d.size:=by rw[p,hcs,←JI];exact aa4 _ f
  have S:=Rr i hi I A b xs.length cap d hh f F;rw[←R,Y] at S;have hset:=setRow_heap w b d (l++news++d.toList.drop (l.length+news.length)).toArray e (0,0) hh;refine⟨.slice (some ⟨b,0,none⟩) (xs.length+ys.length) cap,w.setRow b (l++news++d.toList.drop (l.length+news.length)).toArray,N _ _ (by rw[r,J];exact S),⟨rfl,rfl,rfl,by simp,fun k _ q=>setRow_other w b k _ (fun ek=>q (by rw[r,ek];rfl))⟩,T,⟨h0,D,.inr ⟨b,cap,_,rfl,hBb,hset,f,hcm,?_,?_,Gf⟩⟩,.inl (by rw[r];rfl)⟩
  ·simp only[abo,iH,Tn,Kq]
   rw[R];omega
  rw[DX,←DX l,abN]
 have S:=Rg i y hi hz I A b xs.length cap l (by rw[R,I]) (fun j v hj=>K8 hh Y hj) (by omega) (by omega) (growslice_fits (by omega) E);have K:=grownCap_ge w (xs.length+ys.length) cap e;have h:=fB w (.cells (l.toArray++news.toArray++Builtin.zeroCells y.cells (grownCap w (xs.length+ys.length) cap e-(xs.length+ys.length))) e);refine⟨_,_,N _ _ (by rw[r,J];exact S),⟨h.os,h.tape,h.output,h.size,fun k q _=>h.block k q⟩,T,⟨h0,D,.inr ⟨w.heap.size,_,_,rfl,⟨hB.2 _ (lg _),fun _=>hB.1⟩,fT w _,K,ic (by omega),?_,?_,hGn⟩⟩,.inr ?_⟩
 ·simp only[abY,abo,size_zeroCells,W,p,R,←JI]
  congr 1;omega
 ·have e3:(l.toArray++news.toArray++Builtin.zeroCells y.cells (grownCap w (xs.length+ys.length) cap e-(xs.length+ys.length))).toList=l++news++(Builtin.zeroCells y.cells (grownCap w (xs.length+ys.length) cap e-(xs.length+ys.length))).toList:=by simp
  rw[e3,abN]
 intro k q;simp[Value.ownBlock] at q;omega
end
theorem Bo: ∀(sh:List Kd) (i c d:Nat) (a:List Kd),zAt sh i=some (c,d,a)→i≤c∧sh[c-i]? =some (.sl d a)∧a.all flatK=true∧0<a.length∧ ∀j k,sh[j]? =some k→j≠c-i→flatK k=true
 |[],i,c,d,a,h=>by cases h
 |k::l,i,c,d,a,h=>by
  have b: ∀(p:flatK k=true) (h:zAt l (i+1)=some (c,d,a)),i≤c∧(k::l)[c-i]? =some (.sl d a)∧a.all flatK=true∧0<a.length∧ ∀j f,(k::l)[j]? =some f→j≠c-i→flatK f=true:=by
   intro p h;obtain⟨m,o,t,s,q⟩:=Bo l (i+1) c d a h;refine⟨by omega,by rw[show c-i=c-(i+1)+1 by omega];simpa using o,t,s,fun j f n g=>?_⟩
   cases j with
   |zero=>simp only[O8,aR] at n;rw[←n];exact p
   |succ j=>exact q j f (by simpa using n) (by omega)
  cases k with
  |sl e sh=>
   have h:(bif (sh.all flatK&&Nat.blt 0 sh.length)&&l.all flatK then some (i,e,sh) else none)=some (c,d,a):=h;obtain⟨m,o⟩:=aP h;simp only[aR,bM] at o;obtain⟨rfl,rfl,rfl⟩:=o;rw[bC,bC,l8 (l:=l),Gb] at m;refine⟨lg _,by rw[Yz];rfl,m.1.1,m.1.2,fun j f n g=>?_⟩
   cases j with
   |zero=>exact absurd (Yz i).symm g
   |succ j=>exact m.2 f (F9 (by simpa using n))
  |bool=>exact b rfl (aP (show(bif flatK .bool then zAt l (i+1) else none)=some (c,d,a) from h)).2
  |int r=>exact b rfl (aP (show(bif flatK (.int r) then zAt l (i+1) else none)=some (c,d,a) from h)).2
  |str=>exact b rfl (aP (show(bif flatK .str then zAt l (i+1) else none)=some (c,d,a) from h)).2
  |oth=>cases h
theorem Qm {G G':aU} {sh:List Kd} {c:Nat} {ys:ah} {l:List Value} (h:YH c ys=true) (hE:cO G sh ys l):cO G' sh ys l∧ys.length=1∧(c<sh.length→ ∀y,l[c]? =some y→y=.slice none 0 0):=by
 unfold YH at h;split at h
 ·rename_i y
  rw[bC,l8] at h;obtain⟨A,p⟩:=h;unfold cO at hE;obtain⟨s,⟨u,f,x⟩,_⟩:=hE;have D:y≠.any:=fun e=>by rw[e,mI] at s;cases s
  have i:=(oJ f D).2;have g: ∀z∈y.cells,∀v,aV G z v→aV G' z v:=by
   intro z r v d;have:=A z r
   cases z with
   |bool b=>unfold aV at d⊢;exact d
   |int k n=>unfold aV at d⊢;exact d
   |str t=>unfold aV at d⊢;exact d
   |nilsl=>unfold aV at d⊢;exact d
   |_=>cases this
  have q:aV G' y u:=by
   cases y with
   |agg F=>unfold aV at f⊢;obtain⟨a,rfl,B⟩:=f;rw[fH] at B;exact⟨a,rfl,(fH _ _).2 (B.mono fun z r v d=>g z r v d)⟩
   |bool b=>unfold aV at f⊢;exact f
   |int k n=>unfold aV at f⊢;exact f
   |str t=>unfold aV at f⊢;exact f
   |nilsl=>unfold aV at f⊢;exact f
   |_=>exact absurd (A _ (by unfold V.cells;exact uY)) (by simp)
  refine⟨by unfold cO;exact⟨s,⟨u,q,x⟩,iR⟩,rfl,fun E v d=>?_⟩;have j:u.cells.toList[c]? =some v:=by rw[←x,SY,if_pos E];exact d
  have m:=i.1;have o:c<y.cells.length:=by rw[m];exact(List.getElem?_eq_some_iff.1 j).1
  have w:=i.2 c _ v (iZ o) j;have C:y.cells.getD c .any=y.cells[c]:=by rw[mg,iZ o];rfl
  rw[C] at p;generalize y.cells[c]=z at p w
  cases z with
  |nilsl=>unfold aV at w;exact w
  |_=>cases p
 cases h
theorem wF {s x:Operand} {S:V} {eff:Eff} {t u:TypeId} {e:Nat} {sh:List Kd} {z:V} {ys:ah} {xv:Value} {news:List Value} (Q:ρ x=xv) (hel:elemOf P t=some (e,sh,z))
  (U: ∀v w',(Builtin.append_ #[t,u] o.type #[ρ s,ρ x]).run P w=.ok v w'→(execOp ρ o).run P w=.ok (.value v) w') (hG:xU g.G w) (hO:Ph B g w) (hB:B.n≤w.heap.size∧ ∀b,w.heap.size≤b→B.m b)
  (hs:aT g S (ρ s)) (hE0:ys≠[]→cO g.G sh ys news) (Y:ys≠[]→news.length=ys.length*sh.length)
  (R0:ys=[]→ ∀p len cap,len≤cap→(Builtin.append_ #[t,u] o.type #[.slice p len cap,xv]).run P w=.ok (.slice p len cap) w)
  (Rn: ∀i N,P.info? e=some i→i.zero=some N→ys≠[]→ys.length*i.bytes≤281474976710656→ys.length≤16777216→(Builtin.append_ #[t,u] o.type #[.slice none 0 0,xv]).run P w=.ok (.slice (some ⟨w.heap.size,0,none⟩) ys.length (grownCap w ys.length 0 e)) (w.drew.alloc (.cells (news.toArray++Builtin.zeroCells N.cells (grownCap w ys.length 0 e-ys.length)) e)))
  (Rr: ∀i,P.info? e=some i→i.size=sh.length→ys≠[]→ ∀b d r (f:Array Value),w.heap[b]? =some (.cells f e (0,0))→d+ys.length≤r→d*sh.length+news.length≤f.size→(Builtin.append_ #[t,u] o.type #[.slice (some ⟨b,0,none⟩) d r,xv]).run P w=.ok (.slice (some ⟨b,0,none⟩) (d+ys.length) r) (w.setRow b (f.toList.take (d*sh.length)++news++f.toList.drop (d*sh.length+news.length)).toArray))
  (Rg: ∀i N,P.info? e=some i→i.zero=some N→i.size=sh.length→ys≠[]→ ∀b d r (l:List Value),l.length=d*i.size→(∀j v,l[j]? =some v→w.cell? ((⟨b,0,none⟩:Addr).add j)=some v)→r<d+ys.length→d+ys.length≤16777216→Builtin.nextslicecap (d+ys.length) r*i.bytes≤281474976710656→
   (Builtin.append_ #[t,u] o.type #[.slice (some ⟨b,0,none⟩) d r,xv]).run P w=.ok (.slice (some ⟨w.heap.size,0,none⟩) (d+ys.length) (grownCap w (d+ys.length) r e)) (w.drew.alloc (.cells (l.toArray++news.toArray++Builtin.zeroCells N.cells (grownCap w (d+ys.length) r e-(d+ys.length))) e)))
  (h:(match S with
     | .nilsl=>some (rP ys,Eff.own e sh ys)
     | .sl e' sh' (some L) xs=>bif e==e'&&Kd.Cs sh sh' then some (eD xs ys,Eff.app L e sh (aX xs ys)) else none
     |_=>none)=some (true,eff)):Does P ρ o B w g bx eff:=by
 obtain⟨hu,i,N,hi,hz,_,_,O,h0,hzc,hby,X⟩:=jc hel;have hsT:dx P e=some sh.length:=by unfold dx;rw[hi];simp[O]
 split at h
 ·
  simp only[aR,bM] at h;obtain⟨I,rfl⟩:=h;have I:ys.length≤16777216:=Fw I;rw[iK] at hs;by_cases y:ys=[]
  ·subst y
   refine⟨.slice none 0 0,w,g.G,U _ _ ?_,⟨Below.refl _ _,fun _ _=>rfl,hG⟩,h0,.inl ⟨rfl,rfl⟩⟩;rw[hs,Q];exact R0 rfl none 0 0 (lg _)
  have hE:=hE0 y;have A:=Y y;have hpos:0<ys.length:=List.length_pos_iff.2 y;have hr:=Rn i N hi hz y (by
   calc ys.length*i.bytes≤16777216*8388608:=abW I hby
    _≤281474976710656:=by decide) I
  have hge:=grownCap_ge w ys.length 0 e;have hap:=oF (e:=e) (sh:=sh) (xs:=ys) (cap:=grownCap w ys.length 0 e) (c:=news.toArray++Builtin.zeroCells N.cells (grownCap w ys.length 0 e-ys.length)) (w':=w.drew.alloc (.cells (news.toArray++Builtin.zeroCells N.cells (grownCap w ys.length 0 e-ys.length)) e)) hG
   (fB w _) (fT w _) h0 hge (ic (by omega)) (by
    simp only[abY,abo,size_zeroCells,hzc,A,←JI];congr 1;omega) (by
    simp only[ab2,←A,abN];exact hE)
  obtain⟨G',hN,hF⟩:=hap;exact⟨_,_,G',U _ _ (by rw[hs,Q];exact hr),hN,hF⟩
 ·
  rename_i e' sh' L xs;have hh:=aP h;clear h;obtain⟨hc2,h⟩:=hh;simp only[aR,bM] at h;obtain⟨I,rfl⟩:=h;have I:xs.length+ys.length≤16777216:=Fw I;simp only[bC,iM] at hc2;obtain⟨rfl,hsh⟩:=hc2;obtain rfl:=Kd.fA _ _ hsh;obtain⟨hOL,hown⟩:=hs;have hbytes:(xs.length+ys.length)*i.bytes≤140737488355328:=by
   calc (xs.length+ys.length)*i.bytes≤16777216*8388608:=abW I hby
    _≤140737488355328:=by decide
  obtain⟨_,J⟩:=hO.1 L _ _ _ hOL;have M: ∀(G':aU),G'=g.G→ys=[]→Does P ρ o B w g bx (.app L e sh (aX xs ys)):=by
   rintro G' rfl rfl;have hxe:aX xs []=xs:=by unfold aX;simp
   rw[hxe];have hlc: ∃p cap,ρ s=.slice p xs.length cap∧xs.length≤cap:=by
    rcases hown with⟨D,R⟩|⟨b,cap,l,D,E,_⟩
    ·exact⟨none,0,by rw[D,R];rfl,by rw[R];exact lg _⟩
    exact⟨_,cap,D,E⟩
   obtain⟨p,cap,D,E⟩:=hlc;refine⟨ρ s,ρ s,w,g.G,hOL,U _ _ (by rw[D,Q];exact R0 rfl p _ cap E),⟨rfl,rfl,rfl,lg _,fun _ _ _=>rfl⟩,fun _ _ _=>rfl,.refl _,hG,⟨h0,?_⟩,.inl rfl⟩;rcases hown with⟨D,R⟩|⟨b,cap,l,D,E,Gf,hl,hE⟩
   ·exact .inl ⟨D,R⟩
   rcases J with J|⟨b',n,K,f,l',C,T,hh,hn,hcm,hcs,hGb',hl'⟩
   ·rw[D] at J;cases J
   rw[D] at C;simp only[Value.slice.injEq,aR,Addr.mk.injEq] at C;obtain⟨⟨rfl,_,_⟩,hn2,rfl⟩:=C;exact .inr ⟨b,cap,f,l,D,T,hh,E,hcm,hcs,Gf,hl,hE⟩
  by_cases y:ys=[]
  ·exact M _ rfl y
  have hE2:=hE0 y;have A:=Y y;have hpos:0<ys.length:=List.length_pos_iff.2 y;have F:(aX xs ys).length=xs.length+ys.length:=by unfold aX;simp
  rcases hown with⟨D,R⟩|⟨b,cap,l,D,E,Gf,hl,hE⟩
  ·
   subst R;have hle':ys.length≤16777216:=by simpa using I
   have hr:=Rn i N hi hz y (by
    calc ys.length*i.bytes≤16777216*8388608:=abW hle' hby
     _≤281474976710656:=by decide) hle'
   have hge:=grownCap_ge w ys.length 0 e;have hxe:aX [] ys=ys:=rfl;rw[hxe];obtain⟨G',hN,hF⟩:=oF (e:=e) (sh:=sh) (xs:=ys) (cap:=grownCap w ys.length 0 e) (c:=news.toArray++Builtin.zeroCells N.cells (grownCap w ys.length 0 e-ys.length)) (w':=w.drew.alloc (.cells (news.toArray++Builtin.zeroCells N.cells (grownCap w ys.length 0 e-ys.length)) e)) hG
    (fB w _) (fT w _) h0 hge (ic (by omega)) (by
     simp only[abY,abo,size_zeroCells,hzc,A,←JI];congr 1;omega) (by
     simp only[ab2,←A,abN];exact hE2)
   obtain⟨W,hGs,hGk⟩:=hN;refine⟨ρ s,_,_,G',hOL,U _ _ (by rw[D,Q];exact hr),⟨W.os,W.tape,W.output,W.size,fun k q _=>W.block k q⟩,fun k q _=>hGs k q,fun k m q=>⟨m,by rw[hGs k (fw hG q)];exact q,Tm _⟩,hGk,⟨hF.1,?_⟩,.inr ?_⟩
   ·rcases hF.2 with hF|⟨b',K,f,l',C,T,Z⟩
    ·exact .inl hF
    exact .inr ⟨b',K,f,l',C,⟨hB.2 _ T,fun _=>Cr hB.1 T⟩,Z⟩
   intro k q;simp[Value.ownBlock] at q;omega
  rcases J with J|⟨b',n,K,f,l',C,T,hh,hn,hcm,hcs,hGb',hl'⟩
  ·rw[D] at J;cases J
  rw[D] at C;simp only[Value.slice.injEq,aR,Addr.mk.injEq] at C;obtain⟨⟨rfl,_,_⟩,hn2,rfl⟩:=C;obtain⟨cur',e2,fr2,hh2,htk⟩:=hG b l Gf;rw[hh] at hh2;simp only[aR,Obj.cells.injEq] at hh2;obtain⟨rfl,_,_⟩:=hh2;rw[hl] at htk;have hcatE: ∀G',lN g.G G'→cO G' sh (aX xs ys) (l++news):=fun G' hm=>wD xs ys l news (iV hm sh xs _ _ hE (Tm _)) (iV hm sh ys _ _ hE2 (Tm _)) hl
  have hcatl:(l++news).length=(aX xs ys).length*sh.length:=by rw[iH,hl,A,F,JI]
  by_cases H:xs.length+ys.length≤cap
  ·
   have X:xs.length*i.size+news.length≤f.size:=by rw[A,hcs,O,←JI];exact aa4 _ H
   have hr:=Rr i hi O y b xs.length cap f hh H (by rw[O] at X;exact X);rw[htk] at hr;have hblt:b<w.heap.size:=(Array.getElem?_eq_some_iff.1 hh).1;have hset:=setRow_heap w b f (l++news++f.toList.drop (xs.length*sh.length+news.length)).toArray e (0,0) hh;have hmore:lN g.G (upd g.G b (l++news)):=by
    intro k m q;by_cases ek:k=b
    ·subst ek
     rw[Gf] at q;simp only[aR] at q;subst q;exact⟨_,upd_same _ _ _,List.prefix_append _ _⟩
    exact⟨m,by rw[gW _ _ _ _ ek];exact q,Tm _⟩
   refine⟨ρ s,_,_,upd g.G b (l++news),hOL,U _ _ (by rw[D,Q];exact hr),?_,?_,hmore,?_,⟨h0,.inr ⟨b,cap,_,l++news,by rw[F],T,hset,by rw[F];exact H,hcm,?_,upd_same _ _ _,hcatl,hcatE _ hmore⟩⟩,?_⟩
   ·exact⟨rfl,rfl,rfl,by simp,fun k _ q=>setRow_other w b k _ (fun ek=>q (by rw[D,ek];rfl))⟩
   ·intro k q hne2
    exact gW _ _ _ _ (fun ek=>hne2 (by rw[D,ek];rfl))
   ·intro k m q
    by_cases ek:k=b
    ·subst ek
     rw[upd_same] at q;simp only[aR] at q;subst q;exact⟨_,e,(0,0),hset,by rw[DX,←DX l,abN]⟩
    rw[gW _ _ _ _ ek] at q;obtain⟨c3,e3,f3,hc3,ht3⟩:=hG k m q;exact⟨c3,e3,f3,by rw[setRow_other w b k _ ek];exact hc3,ht3⟩
   ·simp only[abo,iH,Tn,Kq]
    rw[hl];have h5:(xs.length+ys.length)*sh.length≤cap*sh.length:=aa4 _ H;rw[JI] at h5;have e1:f.toList.length=f.size:=by simp
    omega
   refine .inl ?_;rw[D];rfl
  ·
   have holds: ∀j v,l[j]? =some v→w.cell? ((⟨b,0,none⟩:Addr).add j)=some v:=by intro j v hjv;rw[Addr.add_mid,S8];exact jR hG Gf hjv
   have hr:=Rg i N hi hz O y b xs.length cap l (by rw[hl,O]) holds (by omega) (by omega) (growslice_fits (by omega) hbytes);have hge:=grownCap_ge w (xs.length+ys.length) cap e;obtain⟨G',hN,hF⟩:=oF (e:=e) (sh:=sh) (xs:=aX xs ys) (cap:=grownCap w (xs.length+ys.length) cap e) (c:=l.toArray++news.toArray++Builtin.zeroCells N.cells (grownCap w (xs.length+ys.length) cap e-(xs.length+ys.length)))
    (w':=w.drew.alloc (.cells (l.toArray++news.toArray++Builtin.zeroCells N.cells (grownCap w (xs.length+ys.length) cap e-(xs.length+ys.length))) e)) hG (fB w _) (fT w _) h0 (by rw[F];exact hge) (ic (by omega)) (by
     simp only[abY,abo,size_zeroCells,hzc,A,hl,←JI];congr 1;omega) (by
     simp only[ab2,←hcatl,abN];exact hcatE _ (.refl _))
   obtain⟨W,hGs,hGk⟩:=hN;refine⟨ρ s,_,_,G',hOL,U _ _ (by rw[D,Q];exact hr),⟨W.os,W.tape,W.output,W.size,fun k q _=>W.block k q⟩,fun k q _=>hGs k q,fun k m q=>⟨m,by rw[hGs k (fw hG q)];exact q,Tm _⟩,hGk,⟨hF.1,?_⟩,.inr ?_⟩
   ·rcases hF.2 with⟨hF,_⟩|⟨b',K,cur',l',C,hBb',Z⟩
    ·cases hF
    rw[F] at C;exact .inr ⟨b',K,cur',l',by rw[F];exact C,⟨hB.2 _ hBb',fun _=>Cr hB.1 hBb'⟩,Z⟩
   intro k q;simp[Value.ownBlock] at q;omega
 cases h
theorem OH {s x:Operand} {S:V} {eff:Eff} {t u:TypeId} {e:Nat} {sh:List Kd} {z:V} {ys:ah} {U:Value} {news:List Value} (E:ys≠[]) (F:ρ x=U) (r:elemOf P t=some (e,sh,z))
  (I: ∀v w',(Builtin.append_ #[t,u] o.type #[ρ s,ρ x]).run P w=.ok v w'→(execOp ρ o).run P w=.ok (.value v) w') (hG:xU g.G w) (hO:Ph B g w) (hB:B.n≤w.heap.size∧ ∀b,w.heap.size≤b→B.m b)
  (hs:aT g S (ρ s)) (hE:cO g.G sh ys news) (k:news.length=ys.length*sh.length)
  (Rn: ∀i T,P.info? e=some i→i.zero=some T→ys≠[]→ys.length*i.bytes≤281474976710656→ys.length≤16777216→(Builtin.append_ #[t,u] o.type #[.slice none 0 0,U]).run P w=.ok (.slice (some ⟨w.heap.size,0,none⟩) ys.length (grownCap w ys.length 0 e)) (w.drew.alloc (.cells (news.toArray++Builtin.zeroCells T.cells (grownCap w ys.length 0 e-ys.length)) e)))
  (Rr: ∀i,P.info? e=some i→i.size=sh.length→ys≠[]→ ∀b a d (A:Array Value),w.heap[b]? =some (.cells A e (0,0))→a+ys.length≤d→a*sh.length+news.length≤A.size→(Builtin.append_ #[t,u] o.type #[.slice (some ⟨b,0,none⟩) a d,U]).run P w=.ok (.slice (some ⟨b,0,none⟩) (a+ys.length) d) (w.setRow b (A.toList.take (a*sh.length)++news++A.toList.drop (a*sh.length+news.length)).toArray))
  (Rg: ∀i T,P.info? e=some i→i.zero=some T→i.size=sh.length→ys≠[]→ ∀b a d (l:List Value),l.length=a*i.size→(∀j v,l[j]? =some v→w.cell? ((⟨b,0,none⟩:Addr).add j)=some v)→d<a+ys.length→a+ys.length≤16777216→Builtin.nextslicecap (a+ys.length) d*i.bytes≤281474976710656→
   (Builtin.append_ #[t,u] o.type #[.slice (some ⟨b,0,none⟩) a d,U]).run P w=.ok (.slice (some ⟨w.heap.size,0,none⟩) (a+ys.length) (grownCap w (a+ys.length) d e)) (w.drew.alloc (.cells (l.toArray++news.toArray++Builtin.zeroCells T.cells (grownCap w (a+ys.length) d e-(a+ys.length))) e)))
  (h:(match S with
     | .nilsl=>some (rP ys,JX e sh ys)
     | .sl X q (some L) xs=>bif e==X&&Kd.Cs sh q then some (eD xs ys,Eff.app L e sh (aX xs ys)) else none
     | .slz L X q xs _ _ _ _ _ _=>match zAt sh 0 with
      |some (c,W,D)=>bif e==X&&Kd.Cs sh q&&YH c ys then some (eD xs ys,.appz L e sh (aX xs ys) (ay xs) c W D) else none
      |none=>none
     |_=>none)=some (true,eff)):Does P ρ o B w g bx eff:=by
 have f:=fun h=>wF (S:=S) (eff:=eff) (bx:=bx) F r I hG hO hB hs (fun _=>hE) (fun _=>k) (fun h=>absurd h E) Rn Rr Rg h
 obtain⟨_,_,_,_,_,_,_,_,h0,_⟩:=jc r;split at h
 ·cases M:zAt sh 0 with
  |none=>
   have O:JX e sh ys=.own e sh ys:=by unfold JX;rw[M]
   rw[O] at h;exact f h
  |some p=>
   obtain⟨c,W,D⟩:=p;obtain⟨_,Q,_,H,_⟩:=Bo _ _ _ _ _ M
   cases R:YH c ys with
   |false=>
    have O:JX e sh ys=.own e sh ys:=by unfold JX;rw[M];simp only;rw[R];rfl
    rw[O] at h;exact f h
   |true=>
    have O:JX e sh ys=.ownz e sh ys c W D:=by unfold JX;rw[M];simp only;rw[R];rfl
    rw[O] at h;simp only[aR,bM] at h;obtain⟨J,rfl⟩:=h;obtain⟨k1,k2,k3⟩:=Qm (G':=g.G) R hE;obtain⟨u,w',r1,r2,Z⟩:=Zi F r I hG hs E k (Fw J) Rn;have K:c<sh.length:=by rw[acB] at Q;exact(List.getElem?_eq_some_iff.1 Q).1
    exact⟨u,w',news,r1,r2,Z,hE,H,fun y Y=>k3 K y Y⟩
 ·exact f h
 ·rename_i L X q xs o2 i c' e2' sh2' ys'
  split at h
  ·rename_i c W D M
   obtain⟨hc,h9⟩:=aP h;clear h;simp only[bC,iM] at hc;obtain⟨⟨rfl,hsh⟩,R⟩:=hc;obtain rfl:=Kd.fA _ _ hsh;simp only[aR,bM] at h9;obtain⟨J,rfl⟩:=h9;obtain⟨l,N,hC1,C,_⟩:=nL.1 hs;obtain⟨k1,k2,k3⟩:=Qm (G':=g.G) R hE;obtain⟨_,Q,_,H,_⟩:=Bo _ _ _ _ _ M;have K:c<sh.length:=by rw[acB] at Q;exact(List.getElem?_eq_some_iff.1 Q).1
   obtain⟨u,w',r1,r2,Z,r4,r5⟩:=Zj F r I hG hO hB N hC1 C E k (Fw J) Rn Rr Rg;have hlc:(aX xs ys).length=xs.length+ys.length:=by unfold aX;simp
   refine⟨ρ s,u,w',l++news,N,r1,r2,Z,by rw[hlc];exact r4,wD xs ys l news C.2.2 hE C.2.1,r5,H,fun y _ Y=>?_⟩;have e3:(ay xs).toNat=xs.length:=by unfold ay;omega
   rw[e3,←C.2.1,abk (by omega),Nat.add_sub_cancel_left] at Y;exact k3 K y Y
  cases h
 cases h
theorem yu {G:aU}: ∀l:af,cO G [.int .u8] (aF l) (Lib.strCells ⟨l.toArray⟩)
 |[]=>iR
 |c::l=>by have a:=yu (G:=G) l;unfold Lib.strCells aF at a⊢;simp only[qA] at a⊢;unfold cO;exact⟨rfl,⟨.int .u8 c.toNat,by unfold aV;rfl,rfl⟩,a⟩
theorem OI {c:Call} {s x:Operand} {S X:V} {eff:Eff} (ho:o.op=.call c) (hc:c.callee=.builtin .append) (ha:c.args.toList=[s,x]) (hG:xU g.G w) (hO:Ph B g w) (hB:B.n≤w.heap.size∧ ∀b,w.heap.size≤b→B.m b)
  (hs:aT g S (ρ s)) (hx:aT g X (ρ x)) (h:NB P c.argTypes.toList S X=some (true,eff)):Does P ρ o B w g bx eff:=by
 obtain⟨callee,args,argTypes⟩:=c;simp only at hc ha h;subst hc;obtain rfl:args= #[s,x]:=by rw[←Px];simpa using ha
 unfold NB at h;split at h
 ·rename_i t u L
  obtain rfl:argTypes= #[t,u]:=by rw[←Px];simpa using L
  have key: ∀v w',(Builtin.append_ #[t,u] o.type #[ρ s,ρ x]).run P w=.ok v w'→(execOp ρ o).run P w=.ok (.value v) w':=by intro v w' Q;simp[execOp,ho,resolve,invoke,builtin,Q]
  split at h
  ·cases h
  rename_i e sh z R;obtain⟨Q,i,zv,hi,hz,_,_,Y,h0,hzc,hby,hfit⟩:=jc R;have hsT:dx P e=some sh.length:=by unfold dx;rw[hi];simp[Y]
  cases L:t==u with
  |true=>
   rw[L,lm] at h;obtain rfl:t=u:=by simpa using L
   split at h
   ·cases h
   rename_i ys hty;obtain⟨q,cY,T,M⟩:=tail_row hx hty;have hnews:ys≠[]→ ∃b off l,q=some ⟨b,off,none⟩∧g.G b=some l∧cO g.G sh ys ((l.drop off).take (ys.length*sh.length))∧((l.drop off).take (ys.length*sh.length)).length=ys.length*sh.length∧
     (∀j v,((l.drop off).take (ys.length*sh.length))[j]? =some v→w.cell? ((⟨b,off,none⟩:Addr).add j)=some v)∧ ∀v∈(l.drop off).take (ys.length*sh.length),v.oneCell'=true:=by
    intro r;rcases M with M|⟨b,off,l,rfl,hl,hE⟩
    ·exact absurd M r
    obtain⟨k1,k2⟩:=zH _ _ hE;refine⟨b,off,l,rfl,hl,k2,by rw[JG];omega,fun j v hv=>?_,Qi _ _ hE⟩;rw[Addr.add_mid];rw[SY] at hv;split at hv
    ·rw[Tk] at hv;exact jR hG hl hv
    cases hv
   by_cases r:ys=[]
   ·subst r
    refine wF (news:=[]) T R key hG hO hB hs (fun h=>absurd rfl h) (fun h=>absurd rfl h) (fun _ p len cap hle=>JA Q hsT hle) (fun _ _ _ _ h=>absurd rfl h) (fun _ _ _ h=>absurd rfl h) (fun _ _ _ _ _ h=>absurd rfl h) ?_;have e1:JX e sh []=.own e sh []:=by
     unfold JX;split
     ·rfl
     rfl
    rw[e1] at h;split at h
    ·exact h
    ·exact h
    ·split at h
     ·have:=(aP h).1
      rw[bC] at this
      cases this.2
     cases h
    cases h
   obtain⟨b,off,l,rfl,hl,hE,I,F,hone⟩:=hnews r;generalize hcells:(l.drop off).take (ys.length*sh.length)=news at*;have hpos:0<ys.length:=List.length_pos_iff.2 r;refine OH (news:=news) r T R key hG hO hB hs hE I (fun K J a H _ D O=>?_) (fun K a C _ b' k f Z hb' E A=>?_) (fun K J a H C _ b' k f l' hl' N W O D=>?_) h
   ·exact run_append_nil (P:=P) w t o.type e K J Q a H ⟨b,off,none⟩ ys.length cY news (by rw[hi] at a;simp only[aR] at a;rw[I,←a,Y]) F hpos (by omega) D
   ·have:=run_append_room (P:=P) w t o.type e K Q a b' k f Z hb' ⟨b,off,none⟩ ys.length cY news (by rw[I,C]) F hone E (by rw[C];exact A)
    rw[C] at this;exact this
   exact run_append_grow (P:=P) w t o.type e K J Q a H ⟨b',0,none⟩ k f l' hl' N ⟨b,off,none⟩ ys.length cY news (by rw[I,C]) F W (by omega) D
  |false=>
   rw[L,jW] at h;split at h
   ·rename_i l U _
    have T:=gJ.1 hx;have hcl:(Lib.strCells ⟨l.toArray⟩).length=l.length:=by rw[Lib.strCells_length];simp[ByteArray.size]
    have d:(⟨l.toArray⟩:ByteArray).size=l.length:=by simp[ByteArray.size]
    have y:(aF l).length=l.length:=by simp[aF]
    have hE:cO g.G [.int .u8] (aF l) (Lib.strCells ⟨l.toArray⟩):=yu l;refine wF (news:=Lib.strCells ⟨l.toArray⟩) T R key hG hO hB hs (fun _=>hE) (fun _=>by rw[hcl,y];simp) (fun h0' p len cap hle=>?_) (fun K J a H r D O=>?_) (fun K a C r b' k f Z hb' E A=>?_) (fun K J a H C r b' k f l' hl' N W O D=>?_) h
    ·have hl0:l=[]:=by have:=congrArg List.length h0';rw[y] at this;exact Yv this
     subst hl0;have hf: ∀w,(Builtin.firstCells 1 0 (.string ⟨#[]⟩)).run P w=.ok #[] w:=fun w=>by simp[Builtin.firstCells]
     have hsT1:dx P e=some 1:=hsT
     cases p<;>simp[Builtin.append_,run_underlying Q,run_underlying U,dK hsT1,Builtin.lenOf,hle,hf,storeCells,ByteArray.size]
    ·rw[y] at D O⊢
     have hne':l.length≠0:=fun e=>r (by rw[Yv e];rfl)
     have hf:=Lib.run_firstCells_string (P:=P) w.drew 1 ⟨l.toArray⟩;rw[d] at hf;have h63': ¬(9223372036854775807<(l.length:Int)):=by omega
     have h48': ¬(281474976710656<Builtin.nextslicecap l.length 0*K.bytes):=by rw[nextslicecap_zero (by omega)];omega
     have hs1:K.size=1:=by rw[hi] at a;simp only[aR] at a;rw[←a,Y];rfl
     simp[Builtin.append_,run_underlying Q,run_underlying U,Go.sizeOf,typeInfo,zeroValue,a,H,hs1,Builtin.lenOf,hne',h63',h48',Question.forced,run_firstCells_none,hf,newRow,grownCap,d]
    ·have hs1:K.size=1:=C
     have:=Lib.run_append_room_string (P:=P) w t u o.type e K Q U a hs1 b' k f Z hb' ⟨l.toArray⟩ (by rw[d,←y];exact E) (by rw[d];rw[hcl] at A;simpa using A);rw[d] at this;rw[y,hcl];simpa using this
    have:=Lib.run_append_grow_string (P:=P) w t u o.type e K J Q U a H ⟨b',0,none⟩ k f l' hl' N ⟨l.toArray⟩ (by rw[d,←y];exact W) (by rw[d];rw[y] at O;omega) (by rw[d,←y];exact D);rw[d] at this;rw[y];exact this
   cases h
 cases h
end
section
variable {P:Program} {ρ:Operand→Value} {o:Oper} {B:Own} {w:World} {g:Gh} {bx:List (Nat×ah)} {E:Env} {fr:ah} {ac:Act} {r:Operand→V}
theorem fset_okZ {G:aU} {sh:List Kd} {y v:V} {p u:Value} {off:Nat} (a:D4 sh off v=true) (m:v.cells=[v]) (l:u.cells= #[u]) (n:ig sh y=true) (f:aV G y p) (t:aV G v u):ig sh (xP sh y off v)=true∧ ∃z,aV G (xP sh y off v) z∧p.cells.toList.set off u=z.cells.toList:=by
 unfold D4 at a
 cases c:sh[off]? with
 |none=>rw[c] at a;cases a
 |some k=>
  rw[c] at a;have a:fits k v=true:=a;have d:=oK n f;by_cases b: ∃q,sh=[q]
  ·obtain⟨q,rfl⟩:=b
   have x:off=0:=by have:=(List.getElem?_eq_some_iff.1 c).1;simpa using this
   subst x;have o:q=k:=by simpa using c
   subst o;obtain⟨s,j⟩: ∃s,p.cells.toList=[s]:=List.length_eq_one_iff.1 (by simpa using d);rw[j];refine⟨?_,u,t,by rw[l];rfl⟩;show fU [q] v.cells=true;rw[m];simp only[fU,a,ak]
  have g:=(List.getElem?_eq_some_iff.1 c).1;have w:2≤sh.length:=by
   match sh,b,g with
   |[],_,h=>simp at h
   |[q],b,_=>exact absurd ⟨q,rfl⟩ b
   |_::_::_,_,_=>simp
  obtain⟨i,rfl⟩:=WM n w;have e:xP sh (.agg i) off v=.agg (i.set off v):=by
   match sh,b with
   |[],_=>rfl
   |[q],b=>exact absurd ⟨q,rfl⟩ b
   |_::_::_,_=>rfl
  rw[e];unfold aV at f;obtain⟨r,rfl,f⟩:=f;refine⟨Dj a sh i off c n,.agg (r.set off u).toArray,?_,by simp[Value.cells]⟩;unfold aV;exact⟨_,rfl,H6 t i r off f⟩
theorem IX {G:aU} {sh:List Kd} {v:V} {u:Value} {off:Nat} (f:D4 sh off v=true) (d:v.cells=[v]) (c:u.cells= #[u]) (a:off<sh.length) (j:aV G v u): ∀(xs:ah) (l:List Value) (i:Nat),cO G sh xs l→i<xs.length→cO G sh (xs.set i (xP sh (xs.getD i .any) off v)) (l.set (i*sh.length+off) u)
 |[],_,_,_,h=>by simp at h
 |y::xs,l,i,h,o=>by
  unfold cO at h;obtain⟨e,⟨p,b,k⟩,g⟩:=h
  cases i with
  |zero=>
   obtain⟨q,z,m,n⟩:=fset_okZ f d c e b j;show cO G sh (xP sh y off v::xs) (l.set (0*sh.length+off) u);rw[acR,S8];unfold cO;refine⟨q,⟨z,m,?_⟩,?_⟩
   ·rw[acI,k,n]
   rw[List.drop_set_of_lt a];exact g
  |succ i=>
   show cO G sh (y::xs.set i (xP sh (xs.getD i .any) off v)) (l.set ((i+1)*sh.length+off) u);unfold cO;have r:(i+1)*sh.length+off=sh.length+(i*sh.length+off):=by rw[Nat.succ_mul];omega
   refine⟨e,⟨p,b,?_⟩,?_⟩
   ·rw[List.take_set_of_le (by omega)];exact k
   have:(l.set ((i+1)*sh.length+off) u).drop sh.length=(l.drop sh.length).set (i*sh.length+off) u:=by rw[List.drop_set,if_neg (by omega),show(i+1)*sh.length+off-sh.length=i*sh.length+off by omega]
   rw[this];exact IX f d c a j xs _ i g (by simpa using o)
theorem Ei {L off:Nat} {x:Int×Nat×Nat×List Kd×ah}: ∀(d:ah),CK L off d=some x→ ∃e sh xs,V.slz L e sh xs (some x.2.1) x.1 off x.2.2.1 x.2.2.2.1 x.2.2.2.2∈d∧off<sh.length
 |[],h=>by cases h
 |v::l,h=>by
  have next:CK L off l=some x→ ∃e sh xs,V.slz L e sh xs (some x.2.1) x.1 off x.2.2.1 x.2.2.2.1 x.2.2.2.2∈v::l∧off<sh.length:=fun h=>by obtain⟨e,sh,xs,g,f⟩:=Ei l h;exact⟨e,sh,xs,wN _ g,f⟩
  cases v with
  |slz L' e sh xs j i c k b ys=>
   cases j with
   |none=>exact next h
   |some L2=>
    have h:(bif (L==L'&&c==off)&&Nat.blt off sh.length then some (i,L2,k,b,ys) else CK L off l)=some x:=h
    cases a:(L==L'&&c==off)&&Nat.blt off sh.length with
    |false=>rw[a] at h;exact next h
    |true=>rw[a,lm] at h;simp only[aR] at h;subst h;simp only[bC,iM,Gb] at a;obtain⟨⟨rfl,rfl⟩,m⟩:=a;exact⟨e,sh,xs,uY,m⟩
  |_=>exact next h
theorem UN {L off:Nat} {x:Int×Nat×Nat×List Kd×ah} (h:V9 L off bx=some x): ∃k a e sh xs,aJ bx k=some a∧V.slz L e sh xs (some x.2.1) x.1 off x.2.2.1 x.2.2.2.1 x.2.2.2.2∈a∧off<sh.length:=by
 unfold V9 at h;have b: ∀(l:List (Nat×ah)),GL bx L off l=some x→ ∃k a e sh xs,aJ bx k=some a∧V.slz L e sh xs (some x.2.1) x.1 off x.2.2.1 x.2.2.2.1 x.2.2.2.2∈a∧off<sh.length:=by
  intro l;induction l with
  |nil=>intro h;cases h
  |cons p l d=>
   intro h;obtain⟨k,j⟩:=p;unfold GL at h;split at h
   ·rename_i a c
    split at h
    ·rename_i y g
     simp only[aR] at h;subst h;obtain⟨e,sh,xs,i,f⟩:=Ei a g;exact⟨k,a,e,sh,xs,c,i,f⟩
    exact d h
   exact d h
 exact b bx h
theorem Ej {L:Nat} {x:List Kd×ah}: ∀(g:ah),CL L g=some x→ ∃e b i c d a ys,V.slz L e x.1 x.2 b i c d a ys∈g
 |[],h=>by cases h
 |v::l,h=>by
  have next:CL L l=some x→ ∃e b i c d a ys,V.slz L e x.1 x.2 b i c d a ys∈v::l:=fun h=>by obtain⟨e,b,i,c,d,a,ys,j⟩:=Ej l h;exact⟨e,b,i,c,d,a,ys,wN _ j⟩
  cases v with
  |slz L' e sh xs b i c d a ys=>
   have h:(bif L==L' then some (sh,xs) else CL L l)=some x:=h
   cases f:L==L' with
   |false=>rw[f] at h;exact next h
   |true=>rw[f,lm] at h;simp only[aR] at h;subst h;rw[iM] at f;subst f;exact⟨e,b,i,c,d,a,ys,uY⟩
  |_=>exact next h
theorem UO {L:Nat} {x:List Kd×ah} (h:Wd L bx=some x): ∃k b e d i c f a ys,aJ bx k=some b∧V.slz L e x.1 x.2 d i c f a ys∈b:=by
 unfold Wd at h;have g: ∀(l:List (Nat×ah)),GM bx L l=some x→ ∃k b e d i c f a ys,aJ bx k=some b∧V.slz L e x.1 x.2 d i c f a ys∈b:=by
  intro l;induction l with
  |nil=>intro h;cases h
  |cons p l m=>
   intro h;obtain⟨k,q⟩:=p;unfold GM at h;split at h
   ·rename_i b j
    split at h
    ·rename_i y n
     simp only[aR] at h;subst h;obtain⟨e,d,i,c,f,a,ys,o⟩:=Ej b n;exact⟨k,b,e,d,i,c,f,a,ys,j,o⟩
    exact m h
   exact m h
 exact g bx h
theorem WN (hB:BOk P B g bx w) {k:Nat} {a:ah} {x:V} (f:aJ bx k=some a) (l:x∈a): ∃v,aT g x v:=by obtain⟨b,c,e,_,_,_,d,_⟩:=hB.1 k a f;obtain⟨i,j⟩:=aa5 l;obtain⟨v,_,h⟩:=d.get j;exact⟨v,h⟩
theorem z_row (q:Ph B g w) {L e f b:Nat} {i:Value} {l:List Value} (v:g.O L=some (i,e,f)) (m:g.C L=some l) (c:i.ownBlock=some b): ∃a n cap,i=.slice (some ⟨b,0,none⟩) n cap∧n≤cap∧w.heap[b]? =some (.cells a e (0,0))∧a.toList.take l.length=l∧a.size=cap*f∧l.length=n*f∧g.G b=none∧B.ok L b:=by
 rcases(q.1 L i e f v).2 with h|⟨x,n,cap,a,y,h,k,p,t,_,j,d,o⟩
 ·rw[h] at c;cases c
 rw[h] at c;simp only[Value.ownBlock,aR] at c;subst c;obtain⟨s,u,r⟩:=d.nested m;subst u;exact⟨a,n,cap,h,t,p,r,j,o,s,k⟩
theorem RU {t:TypeId} {a:Operand} {L e F:Nat} {i:Int} {off:Nat} {x:Int×Nat×Nat×List Kd×ah} (G:o.op=.load t a) (A:Ph B g w) (hB:BOk P B g bx w) (S:aT g (.epz L e F i off) (ρ a)) (E:V9 L off bx=some x) (d:cr P t=some false) (M:i=x.1):
  Does P ρ o B w g bx (.val (.sl x.2.2.1 x.2.2.2.1 (some x.2.1) x.2.2.2.2)):=by
 have R:execOp ρ o=(do pure (.value (←Instr.loadAt t (ρ a)))):=by simp only[execOp,G]
 obtain⟨v0,b,l,m,j,K,W,z,N⟩:=pI.1 S;obtain⟨k,X,Y,sh,xs,r,O,U⟩:=UN E;obtain⟨v,T⟩:=WN hB r O;obtain⟨l',f,h,Z,J,H,C,y⟩:=nL.1 T;rw[m] at f;simp only[aR,bM] at f;obtain⟨rfl,rfl,rfl⟩:=f;rw[j] at h;simp only[aR] at h;subst h;subst M;obtain⟨D,n,cap,_,_,I,s,_⟩:=z_row A m j z;have c:x.1.toNat*sh.length+off<l.length:=by omega
 have p:l[x.1.toNat*sh.length+off]? =some l[x.1.toNat*sh.length+off]:=iZ c;have Q:=y _ K p;have q:=K8 I s p;rw[Addr.add_mid,S8] at q;refine bB R (u:=J) ?_ ⟨H,C⟩;rw[N,←Q];exact Hy d q
theorem OJ {t:TypeId} {a y:Operand} {L e sz:Nat} {i:Int} {off:Nat} {sh:List Kd} {xs:ah} {j:Nat} {f:List Kd} {L3:Nat} {ys:ah} (ho:o.op=.store t a y) (hO:Ph B g w) (hB:BOk P B g bx w) (hE: ∀y,aT g (r y) (ac.eval y)) (ha:r a=.epz L e sz i off) (hx:r y=.sl j f (some L3) ys)
  (hf:Wd L bx=some (sh,xs)) (hs:dx P t=some 1) (M:sh.length=sz) {c A:Nat} {h:List Kd} (hz:zAt sh 0=some (c,A,h)) (hc:c=off) (X:j=A) (m:Kd.Cs f h=true):
  Does P ac.eval o B w g bx (.Gp L e sh (oz xs i (xP sh (aG xs i) off (.sl j f none ys))) i off L3 j f ys):=by
 subst hc;subst X;obtain⟨_,R,_⟩:=Bo _ _ _ _ _ hz;rw[acB] at R;have D:=(List.getElem?_eq_some_iff.1 R).1;have G:=hE a;rw[ha] at G;obtain⟨v0,b,l,T,J,h3,h4,h5,h6⟩:=pI.1 G;obtain⟨k,cs,e',o2,i',c',e2'',K,ys'',k1,k2⟩:=UO hf;obtain⟨v,hv⟩:=WN hB k1 k2;obtain⟨l',S,O,x,_⟩:=nL.1 hv;rw[T] at S;simp only[aR,bM] at S;obtain⟨rfl,rfl,e9⟩:=S;rw[J] at O;simp only[aR] at O;subst O;have x:zG g sh xs v0 l:=x;subst M;have E:=hE y;rw[hx] at E;obtain⟨p1,p2⟩:=E;obtain⟨q,n,cap,hv0,hn,hh,ht,hcs,hln,_⟩:=z_row hO T J h5;have Q:i.toNat*sh.length+c<l.length:=by omega
 have W:=nK (e:=j) (o:=none) p2;have d:(ac.eval y).cells= #[ac.eval y]∧(ac.eval y).oneCell'=true:=by unfold aV at W;obtain⟨p,cp,hq,_⟩:=W;rw[hq];exact⟨rfl,rfl⟩
 have u:i.toNat<xs.length:=by
  have I:=x.2.1;rw[I] at h4;refine abt fun Z=>?_
  have h9:=aa4 sh.length Z;omega
 have C:D4 sh c (.sl j f none ys)=true:=by unfold D4;rw[R];show(j==j&&Kd.Cs h f)=true;have:=Kd.fA _ _ m;subst this;rw[m];simp
 refine⟨v0,b,q,l,ac.eval y,T,J,h5,hh,Q,d.2,⟨?_,by rw[abG,x.2.1];unfold oz;rw[abG],?_⟩,p1,p2,?_⟩
 ·rcases x.1 with⟨I,h9⟩|⟨b',cp,I⟩
  ·rw[h9] at u;simp at u
  exact .inr ⟨b',cp,by rw[I];unfold oz;rw[abG]⟩
 ·unfold oz aG
  exact IX C rfl d.1 D W xs l i.toNat x.2.2 u
 have N:i.toNat*sh.length+c+1≤q.size:=by have h7:n*sh.length≤cap*sh.length:=aa4 _ hn;omega
 have hcl:(ac.eval y).cells.toList=[ac.eval y]:=by rw[d.1]
 have s:=run_storeCells_at P b (i.toNat*sh.length+c) e [ac.eval y] 0 q w hh (by simpa using N) (by intro z H;rw[S7] at H;rw[H];exact d.2);simp only[VU] at s;obtain⟨ii,Y,U⟩:=lC hs;have F:(ac.eval y).cells.size=1:=by rw[d.1];rfl
 simp[execOp,ho,h6,Instr.storeAt,Instr.sureAddr,storeVar,Go.sizeOf,typeInfo,Y,F,U,hcl] at s⊢;rw[s];rfl
theorem UQ {k:Nat} {v x:V} (h:Wh k v=some x): ∃n,Nat.blt n.toNat yU=true∧v=.fn BM [.int .i64 n,.box k 0]∧x=.int .i64 n:=by
 unfold Wh at h;split at h
 ·rename_i f n d
  obtain⟨b,a⟩:=aP h;simp only[bC,iM] at b;obtain⟨⟨rfl,rfl⟩,c⟩:=b;simp only[aR] at a;exact⟨n,c,rfl,a.symm⟩
 cases h
theorem El {k:Nat}: ∀(vs xs:ah),GN k vs=some xs→xs.length=vs.length∧ ∀(j:Nat) v x,vs[j]? =some v→xs[j]? =some x→Wh k v=some x
 |[],xs,h=>by simp only[GN,aR] at h;subst h;exact⟨rfl,fun j v x b=>by simp at b⟩
 |v::vs,xs,h=>by
  unfold GN at h;split at h
  ·rename_i x l f e
   simp only[aR] at h;subst h;obtain⟨g,d⟩:=El vs l e;refine⟨by simp[g],fun j c i b a=>?_⟩
   cases j with
   |zero=>simp only[O8,aR] at b a;rw[←b,←a];exact f
   |succ j=>exact d j c i (by simpa using b) (by simpa using a)
  cases h
theorem UR {t:TypeId} {b:Array (Nat×Operand)} {vs:ah} (ho:o.op=.build t b) (hE: ∀y,aT g (r y) (ac.eval y))
  (h:arrC P t (b.toList.map fun(i,x)=>(i,r x))=some vs):Does P ac.eval o B w g bx (.val (.fn AM vs)):=by
 have he:execOp ac.eval o=(do pure (.value (←Instr.build t (b.map fun(i,x)=>(i,ac.eval x))))):=by simp only[execOp,ho]
 unfold arrC at h;split at h
 ·rename_i i n e hi hu
  split at h
  ·rename_i z m hz hs
   obtain⟨hc,L⟩:=aP h;clear h;simp only[bC,iM] at hc;obtain⟨⟨⟨⟨rfl,hzs⟩,hnl⟩,R⟩,N⟩:=hc;have R:0<n:=by simpa[Gb] using R
   rw[kJ,Kq] at hnl;split at L
   ·rename_i i0 f0 k rest I
    split at L
    ·rename_i l hl
     simp only[aR] at L;subst L;obtain⟨S,l2⟩:=El _ _ hl;have hmm:((b.toList.map fun(i,x)=>(i,r x)).map fun p=>p.2)=b.toList.map fun p=>r p.2:=by simp
     rw[hmm] at S l2;have C:b.toList≠[]:=fun e=>by have:=congrArg List.length e;rw[Kq,qz] at this;omega
     obtain⟨q,hq⟩: ∃q,b.toList[0]? =some q:=by
      cases T:b.toList with
      |nil=>exact absurd T C
      |cons q l=>exact⟨q,rfl⟩
     have d: ∀(j:Nat) (p:Nat×Operand),b.toList[j]? =some p→ ∃(n:Int) (D:Value),l[j]? =some (.int .i64 n)∧bP g (.box k 0) D∧ac.eval p.2=.func (.func n.toNat) #[D] #[]:=by
      intro j p A;have M:j<l.length:=by rw[S,kJ];exact(List.getElem?_eq_some_iff.1 A).1
      have hb:=l2 j (r p.2) l[j] (by rw[sW,A];rfl) (iZ M);obtain⟨f,hf,hr,J⟩:=UQ hb;have h5:=hE p.2;rw[hr] at h5;obtain⟨a,ha,U⟩:=h5;obtain⟨iv,t',rfl,s,H⟩:=U.cons_inv;obtain⟨D,t',rfl,K,H⟩:=H.cons_inv;obtain rfl:=H.di;have s:iv=.int .i64 f:=by have s:aV g.G (.int .i64 f) iv:=s;unfold aV at s;exact s
      subst s;exact⟨f,D,by rw[iZ M,J],K,ha⟩
     obtain⟨f1,D,_,Q,_⟩:=d 0 q hq;have E: ∀c,bP g (.box k 0) c→c=D:=fun c h'=>by obtain⟨b1,e1,rfl⟩:=h';obtain⟨b2,W,rfl⟩:=Q;rw[e1] at W;simp only[aR] at W;rw[W]
     have F:Instr.fill (fun i=>some (i*1,1)) z (b.toList.map fun p=>(p.1,ac.eval p.2))=some (b.toList.map fun p=>ac.eval p.2).toArray:=by
      rw[HV _ 0 z (fun j p I=>?_) (by rw[S8,kJ,Kq];omega)]
      ·simp
      simp only[sW] at I
      cases A:b.toList[j]? with
      |none=>rw[A] at I;cases I
      |some q=>rw[A] at I;simp only[xR,aR] at I;subst I;have h1:=Dh _ 0 N j (q.1,r q.2) (by rw[sW,A];rfl);obtain⟨f,c,_,_,H⟩:=d j q A;exact⟨h1,by simp only;rw[H];rfl⟩
     have O:(b.toList.map fun p=>ac.eval p.2)=(l.map fun x=>match x with| .int _ n=>Value.int .i64 n|_=>undef).map (P7 D):=by
      apply List.ext_getElem?
      intro j;rw[sW,sW,sW]
      cases A:b.toList[j]? with
      |none=>
       have:l.length≤j:=by rw[S,kJ];exact List.getElem?_eq_none_iff.1 A
       rw[abF this];rfl
      |some p=>obtain⟨f,c,K,H,h8⟩:=d j p A;rw[K];simp only[xR];rw[h8,E c H];rfl
     refine bB he (u:=.agg (b.toList.map fun p=>ac.eval p.2).toArray) ?_ ⟨D::(l.map fun x=>match x with| .int _ n=>Value.int .i64 n|_=>undef),?_,.cons Q ⟨by simp,fun j x v J Z=>?_⟩⟩
     ·have X:(zeroValue t).run P w=.ok (.agg z) w:=by simp[zeroValue,typeInfo,hi,hz]
      have hpt:(b.map fun(i,x)=>(i,ac.eval x)).toList=b.toList.map fun p=>(p.1,ac.eval p.2):=by simp
      simp only[Instr.build,Sem.run_bind,X,Result.andThen_ok,run_underlying hu,dK hs,Value.cells,hpt,F,Sem.run_pure]
     ·rw[WK,O]
     have Y:j<b.toList.length:=by have:=(List.getElem?_eq_some_iff.1 J).1;rw[S,kJ] at this;exact this
     obtain⟨f,c,K,_⟩:=d j _ (iZ Y);rw[K] at J;simp only[aR] at J;subst J;rw[sW,K] at Z;simp only[xR,aR] at Z;subst Z;show aV g.G _ _;unfold aV;rfl
    cases L
   cases L
  cases h
 cases h
end
section
variable {P:Program} {ρ:Operand→Value} {o:Oper} {B:Own} {w:World} {g:Gh} {bx:List (Nat×ah)} {E:Env} {fr:ah} {ac:Act}
theorem IY {G:aU}: ∀(l:af) (a:List Value),cO G [.int .u8] (aF l) ((l.map fun c=>Value.int .u8 (c.toNat:Int))++a)
 |[],a=>iR
 |c::l,a=>by unfold aF;rw[qA,qA,Py];unfold cO;refine⟨rfl,⟨.int .u8 (c.toNat:Int),by unfold aV;rfl,rfl⟩,?_⟩;exact IY l a
theorem US {s m:TypeId} {x:Operand} {X:V} {eff:Eff} (ho:o.op=.convert s m x) (Z:xU g.G w) (t:aT g X (ρ x)) (h:convV P s m X=some (true,eff)):Does P ρ o B w g bx eff:=by
 have F:execOp ρ o=(do pure (.value (←convert s m (ρ x)))):=by simp only[execOp,ho]
 unfold convV at h;split at h
 ·rename_i k0 k k' n r q
  simp only[ok,aR,bM,jA] at h;subst h;rw[cu] at t;refine bB F (u:=.int k (qm k n)) ?_ (cu.2 rfl);rw[t];simp[convert,run_underlying r,run_underlying q,Conv.intToInt,qm]
 ·rename_i l r q
  simp only[ok,aR,bM,jA] at h;subst h;refine bB F (u:=ρ x) ?_ t;rw[gJ] at t;rw[t];simp[convert,run_underlying r,run_underlying q]
 ·rename_i e l r q
  split at h
  ·rename_i d
   simp only[aR,bM] at h;obtain⟨J,rfl⟩:=h;have J:l.length≤1152921504606846976:=Fw J;rw[gJ] at t;let cap:=grownCap w l.length 0 e
   let cells:Array Value:=((⟨l.toArray⟩:ByteArray).data.map fun b=>Value.int .u8 b.toNat)++Array.replicate (cap-l.length) (.int .u8 0)
   have N:l.length≤cap:=grownCap_ge w l.length 0 e;have i:cells.toList=(l.map fun c=>Value.int .u8 (c.toNat:Int))++List.replicate (cap-l.length) (.int .u8 0):=by simp[cells]
   have A:=fT w (.cells cells e);have z:(convert s m (ρ x)).run P w=.ok (.slice (some ⟨w.heap.size,0,none⟩) l.length cap) ((w.drew.alloc (.cells cells e)).freeze {block:=w.heap.size,off:=cells.size} 1):=by
    rw[t];have L:(⟨l.toArray⟩:ByteArray).size=l.length:=wW l;have O:(markStringish ⟨w.heap.size,0,none⟩).run P (w.drew.alloc (.cells cells e))=.ok () ((w.drew.alloc (.cells cells e)).freeze {block:=w.heap.size,off:=cells.size} 1):=by
     have T:(w.drew.alloc (.cells cells e)).shape? w.heap.size=some (e,cells.size):=by unfold World.shape?;rw[A]
     simp only[markStringish,Sem.run_bind,run_shape,T,Result.andThen_ok];rfl
    have S:(Conv.stringToBytes e ⟨l.toArray⟩).run P w=.ok (.slice (some ⟨w.heap.size,0,none⟩) l.length cap) ((w.drew.alloc (.cells cells e)).freeze {block:=w.heap.size,off:=cells.size} 1):=by
     unfold Conv.stringToBytes;rw[Sem.run_bind,run_choose,if_neg (by simp[Question.forced])];simp only[Result.andThen_ok,L];rw[Sem.run_bind];have hn:(newRow e (Array.map (fun(b:UInt8)=>Value.int .u8 b.toNat) (⟨l.toArray⟩:ByteArray).data++Array.replicate ((Question.appendCap l.length 0 e).cut (w.tape w.drawn (.appendCap l.length 0 e))-l.length) (.int .u8 0))).run P {w with drawn:=w.drawn+1}=.ok ⟨w.heap.size,0,none⟩ (w.drew.alloc (.cells cells e)):=by simp only[newRow,Sem.run_bind,run_newObj,Result.andThen_ok,Sem.run_pure];rfl
     rw[hn];simp only[Result.andThen_ok];rw[Sem.run_bind,O];rfl
    simp only[convert,Sem.run_bind,run_underlying r,run_underlying q,Result.andThen_ok,run_underlying d,S]
   obtain⟨f,R⟩: ∃f:Obj→Obj,(w.drew.alloc (.cells cells e)).freeze {block:=w.heap.size,off:=cells.size} 1={w.drew.alloc (.cells cells e) with heap:=(w.drew.alloc (.cells cells e)).heap.modify w.heap.size f}∧ ∃fr,f (.cells cells e)=.cells cells e fr:=
    ⟨_,by unfold World.freeze;rw[if_neg (by decide)],_,rfl⟩
   obtain⟨R,fr,Q⟩:=R;rw[R] at z;have hB:Below w.heap.size w {w.drew.alloc (.cells cells e) with heap:=(w.drew.alloc (.cells cells e)).heap.modify w.heap.size f}:=by
    have I:=fB w (.cells cells e);refine⟨I.os,I.tape,I.output,?_,?_⟩
    ·show w.heap.size≤((w.drew.alloc (.cells cells e)).heap.modify w.heap.size f).size
     rw[Array.size_modify];exact I.size
    intro k hk;show((w.drew.alloc (.cells cells e)).heap.modify w.heap.size f)[k]? =_;rw[acC,if_neg (by omega)];exact I.block k hk
   have hh:({w.drew.alloc (.cells cells e) with heap:=(w.drew.alloc (.cells cells e)).heap.modify w.heap.size f}:World).heap[w.heap.size]? =some (.cells cells e fr):=by show((w.drew.alloc (.cells cells e)).heap.modify w.heap.size f)[w.heap.size]? =_;rw[acC,if_pos rfl,A,xR,Q]
   have K:l.length≤cells.size:=by
    have:cells.toList.length=cells.size:=by simp
    rw[←this,i];simp
   refine⟨.slice (some ⟨w.heap.size,0,none⟩) l.length cap,_,upd g.G w.heap.size (cells.toList.take l.length),by rw[F];simp only[Sem.run_bind,z,Result.andThen_ok,Sem.run_pure],NE Z hB hh l.length K,?_⟩;unfold aV;refine⟨some ⟨w.heap.size,0,none⟩,cap,by unfold aF;simp,by unfold aF;simpa using N,.inr ⟨w.heap.size,0,_,rfl,upd_same _ _ _,?_⟩⟩;have e1:cells.toList.take l.length=(l.map fun c=>Value.int .u8 (c.toNat:Int)):=by rw[i,List.take_append_of_le_length (by simp)];exact O9 (by simp)
   rw[e1,Yx];have:=IY (G:=upd g.G w.heap.size (l.map fun c=>Value.int .u8 (c.toNat:Int))) l [];rwa [JQ] at this
  cases h
 ·rename_i e sh ow xs r q
  split at h
  ·rename_i d
   simp only[ok,aR,bM,jA] at h;subst h;have D:=lz t;unfold aV at D;obtain⟨p,cap,C,Y,D⟩:=D;refine bB F (u:=.string ⟨(fZ xs).toArray⟩) ?_ (gJ.2 rfl);rw[C];have e0: ∀y:Value,(convert s m y).run P w=(Conv.bytesToString y).run P w∨True:=fun _=> .inr trivial
   by_cases E:xs=[]
   ·subst E
    cases p with
    |none=>simp[convert,run_underlying r,run_underlying q,run_underlying d,Conv.bytesToString,fZ];rfl
    |some a=>
     have M:(loadCells a 0).run P w=.ok (([]:List Int).map (Value.int .u8)).toArray w:=by simp[loadCells,loadCellsFrom]
     have:=run_bytesToString w a 0 cap [] M;simp only[qz];simp[convert,run_underlying r,run_underlying q,run_underlying d,this,fZ];rfl
   rcases D with D|⟨b,off,l,rfl,U,hE⟩
   ·exact absurd D E
   have H:=Dk xs _ hE;have M:(loadCells ⟨b,off,none⟩ xs.length).run P w=.ok ((xs.map fun x=>asInt (ai x 0)).map (Value.int .u8)).toArray w:=by
    have:=run_loadCells_list (P:=P) w ⟨b,off,none⟩ ((xs.map fun x=>asInt (ai x 0)).map (Value.int .u8)) (fun j v C=>by
     rw[←H,SY] at C;split at C
     ·rw[Tk] at C
      rw[Addr.add_mid];exact jR Z U C
     cases C)
    simpa using this
   have W:=run_bytesToString w ⟨b,off,none⟩ xs.length cap _ M;rw[fold_push] at W;simp[convert,run_underlying r,run_underlying q,run_underlying d,W,fZ]
  cases h
 ·rename_i e r q
  split at h
  ·rename_i d
   simp only[ok,aR,bM,jA] at h;subst h;rw[iK] at t;refine bB F (u:=.string ⟨([]:af).toArray⟩) ?_ (gJ.2 rfl);rw[t];simp[convert,run_underlying r,run_underlying q,run_underlying d,Conv.bytesToString];rfl
  cases h
 cases h
theorem yw (hE:uL E) {id:Nat} (b:jY E.P id=true) (args:Array Value):(callFunc id args).run E.P w=.ok (.enter id args) w:=by
 unfold jY at b;split at b
 ·rename_i fn c
  have a:fn.name≠ "runtime.NumGoroutine" :=by
   have:=Array.all_eq_true_iff_forall_mem.1 hE.names fn (abT c);have d:fn.body.isNone=false:=by cases f:fn.body with|none=>rw[f] at b;cases b|some _=>rfl
   rw[d] at this;simpa using this
  obtain⟨bd,e⟩:=Option.isSome_iff_exists.1 b;simp[callFunc,c,a,e]
 ·cases b
theorem RV {r:Operand→V} {f:Operand} {b:Array Operand} {c:Array TypeId} {n:Int} {p:ah} {a:List Value} {eff:Eff} (q:o.op=.call ⟨.value f,b,c⟩) (hE:uL E) (i:ac.eval f=JY BM a) (m:PW (bP g) (.int .i64 n::p) a) (l:PW (aT g) (b.toList.map r) (b.toList.map ac.eval))
  (h:(match o7 bx 0 (p++b.toList.map r) with
   |some (args,mb,ml)=>bif (jY E.P n.toNat&&Nat.blt n.toNat yU)&&o6 mb ml then some (true,Eff.call n.toNat args mb ml) else none
   |none=>none)=some (true,eff)):Does E.P ac.eval o B w g bx eff:=by
 split at h
 ·rename_i args mb ml d
  have s:=aP h;clear h;obtain⟨j,h⟩:=s;simp only[bC] at j;obtain⟨⟨j,v⟩,u⟩:=j;simp only[aR,bM,jA] at h;subst h;obtain⟨iv,a,rfl,e,k⟩:=m.cons_inv;have e:iv=.int .i64 n:=by have e:aV g.G (.int .i64 n) iv:=e;unfold aV at e;exact e
  subst e;rw[WJ] at i;refine⟨a++b.toList.map ac.eval,p++b.toList.map r,?_,(k.mono (S:=MJ g) fun _ _ _=> .inr).append (l.mono (S:=MJ g) fun _ _ _=> .inl),d,u⟩;have t:a.toArray++Array.map ac.eval b++ #[]=(a++b.toList.map ac.eval).toArray:=by rw[←Px];simp
  simp only[execOp,q,resolve,Deferred.ofValue,i,invoke,Sem.run_bind,Sem.run_pure,Result.andThen_ok,yw hE j,t]
 cases h
theorem Dl (hE:uL E) (hP:E.P=P) (hG:xU g.G w) (hO:Ph B g w) (hBx:BOk P B g bx w) (hB:B.n≤w.heap.size∧ ∀b,w.heap.size≤b→B.m b) {r:Operand→V} (F: ∀y,aT g (r y) (ac.eval y)) {eff:Eff} (h:Tq P r bx o=some (true,eff)):Does P ac.eval o B w g bx eff:=by
 subst hP;have S: ∀{v:V} {u:Value},execOp ac.eval o=pure (.value u)→aT g v u→Does E.P ac.eval o B w g bx (.val v):=fun K O=>⟨_,by rw[K];rfl,O⟩
 unfold Tq at h;simp only at h;split at h
 ·
  rename_i x C;simp only[ok,aR,bM,jA] at h;subst h;exact S (by simp only[execOp,C]) (F x)
 ·
  rename_i x C;have A:=F x;split at h
  ·rename_i D
   rw[D,iK] at A;split at h
   ·rename_i e sh z hel
    simp only[aR,bM,jA] at h;subst h;obtain⟨_,_,_,_,_,_,_,_,h0,_⟩:=jc hel;exact⟨.slice none 0 0,w,g.G,by simp only[execOp,C,A];rfl,⟨Below.refl _ _,fun _ _=>rfl,hG⟩,h0,.inl ⟨rfl,rfl⟩⟩
   simp only[ok,aR,bM,jA] at h;subst h;exact S (by simp only[execOp,C]) (iK.2 A)
  simp only[ok,aR,bM,jA] at h;subst h;exact S (by simp only[execOp,C]) A
 ·
  rename_i c x y C;have hc:=F c;split at h
  ·rename_i b hb
   simp only[aR,bM,jA] at h;subst h;rw[hb,dB] at hc;refine⟨if b then ac.eval x else ac.eval y,?_,?_⟩
   ·simp only[execOp,C,hc,Go.asBool,Sem.run_bind,Sem.run_pure,Result.andThen_ok]
   cases b
   ·exact F y
   exact F x
  cases h
 ·
  rename_i t C;split at h
  ·rename_i i N
   split at h
   ·rename_i z hz
    split at h
    ·rename_i cs hcs
     obtain⟨h,Y⟩:=T9 h;simp only[aR,bM,jA] at h;subst h;exact RQ C N hz hcs Y
    cases h
   cases h
  cases h
 ·
  rename_i t x C;split at h
  ·rename_i cs hcs
   obtain⟨h,Y⟩:=T9 h;simp only[aR,bM,jA] at h;subst h;exact Zh C F hcs Y
  cases h
 ·rename_i t parts C
  split at h
  ·rename_i vs hb
   simp only[ok,aR,bM,jA] at h;subst h;exact UJ C F hb
  split at h
  ·rename_i vs hb
   simp only[ok,aR,bM,jA] at h;subst h;exact UR C F hb
  exact RP C F h
 ·rename_i t n parts C
  exact DV C hG F h
 ·
  rename_i t a C;have R:=F a;split at h
  ·rename_i sh x off D
   rw[D] at R;exact Eh C hG R h
  ·rename_i L e sh xs i off D
   rw[D] at R;exact Eh C hG (Zc R) h
  ·rename_i L e sz i off D
   rw[D] at R;split at h
   ·rename_i j L2 e2 sh2 ys hf U
    simp only[aR,bM] at h;obtain⟨hc,rfl⟩:=h;have hij:i=j:=by unfold ieq at hc;simpa using hc
    exact RU C hO hBx R hf U hij
   cases h
  ·rename_i k off D
   rw[D] at R;split at h
   ·rename_i cells hl
    obtain⟨l1,l2⟩:=OB C hBx R hl;split at h
    ·rename_i n U hs
     split at h
     ·rename_i cs hcs
      simp only[ok,aR,bM,jA] at h;subst h;exact l1 n cs U hs hcs
     cases h
    ·rename_i U
     have Q:=aP h;obtain⟨K,O⟩:=Q;simp only[ok,aR,bM,jA] at O;subst O;exact l2 U (by simpa[Gb] using K)
    cases h
   cases h
  cases h
 ·
  rename_i t a x C;split at h
  ·rename_i k off vs D I
   split at h
   ·rename_i cells n hl hs
    have Q:=aP h;obtain⟨K,O⟩:=Q;simp only[aR,bM,jA] at O;subst O;simp only[bC,iM] at K;exact RS C hBx F D I hl hs K.1 (aa6 K.2)
   cases h
  ·rename_i L e sh xs i off v D I
   split at h
   ·rename_i U hs
    have Q:=aP h;obtain⟨K,O⟩:=Q;simp only[aR,bM,jA] at O;subst O;exact OE C hO F D I hs K
   cases h
  ·rename_i L e sz i off e2 sh2 L3 ys D I
   split at h
   ·rename_i sh xs hf U hs
    have Q:=aP h;clear h;obtain⟨K,O⟩:=Q;simp only[aR,bM,jA] at O;subst O;rw[bC,iM] at K;obtain⟨K,h3⟩:=K;split at h3
    ·rename_i c e2' sh2' hz
     simp only[bC,iM] at h3;obtain⟨⟨h4,h5⟩,h6⟩:=h3;have A:r x=.sl e2 sh2 (some L3) ys:=by
      cases Y:r x with
      |sl e' s' o' x'=>rw[Y] at I;simpa[dA] using I
      |fn f c=>
       exfalso;rw[Y] at I;simp only[dA] at I
       cases T:Nat.blt f yU with
       |true=>rw[T,lm] at I;simp at I
       |false=>
        rw[T,jW] at I;obtain⟨_,h8⟩:=aP I
        cases c with
        |nil=>cases h8
        |cons p l=>
         obtain⟨X,h9⟩:=aP h8;simp only[aR] at h9;match l,h9,X with
         |[],h9,_=>simp at h9
         |[y],h9,X=>
          simp only[Pg,List.all_nil,ac4] at X
          cases y with
          |int k n=>simp[bmV] at h9
          |_=>cases X
         |_::_::_,h9,_=>simp at h9
      |agg cs=>exfalso;rw[Y] at I;simp only[dA] at I;obtain⟨h8,h9⟩:=aP I;simp only[aR] at h9;subst h9;simp[V.one] at h8
      |_=>rw[Y] at I;first|(cases I;done)|(simp[dA] at I)
     exact OJ C hO hBx F D A hf hs K hz h4 h5 h6
    cases h3
   cases h
  cases h
 ·
  rename_i x C;have A:=F x;split at h
  ·rename_i L e sh xs i off D
   simp only[ok,aR,bM,jA] at h;subst h;rw[D] at A;obtain⟨v0,b,_,_,_,_,_,W⟩:=mJ.1 A;exact S (u:=ac.eval x) (by simp only[execOp,C,W]) A
  ·rename_i L e sz i off D
   simp only[ok,aR,bM,jA] at h;subst h;rw[D] at A;obtain⟨v0,b,l,_,_,_,_,_,W⟩:=pI.1 A;exact S (u:=ac.eval x) (by simp only[execOp,C,W]) A
  ·rename_i sh v off D
   simp only[ok,aR,bM,jA] at h;subst h;rw[D] at A;obtain⟨b,q,l,W,_⟩:=iW.1 A;exact S (u:=ac.eval x) (by simp only[execOp,C,W]) A
  ·rename_i k off D
   simp only[ok,aR,bM,jA] at h;subst h;rw[D] at A;obtain⟨b,_,W⟩:=dV.1 A;exact S (u:=ac.eval x) (by simp only[execOp,C,W]) A
  cases h
 ·
  rename_i op t x y yt C;split at h
  ·rename_i e1 e2
   have A:=F x;have hy:=F y;rw[e1] at A;rw[e2] at hy;exact IW C A hy h
  ·rename_i u v e1 e2
   have A:=F x;have hy:=F y;rw[e1] at A;rw[e2] at hy;exact IW C A hy h
  refine UI C (F x) (F y) h ?_;clear h;intro eff h;have Q:=aP h;clear h;obtain⟨K,h⟩:=Q;unfold resV at h;split at h
  ·rename_i c v I
   simp only[aR,bM] at h;obtain⟨rfl,rfl⟩:=h;refine RI C (F x) (F y) I ?_;intro a b R _;rw[R] at K;unfold TW at K;split at K
   ·split at K
    ·assumption
    cases K
   rename_i hne;exact absurd rfl (hne _)
  cases h
 ·
  rename_i t x C;split at h
  ·cases h
  ·rename_i d v hne hu D
   simp only[ok,aR,bM,jA] at h;subst h;exact Fg C hu (fun ms e=>hne ms e) D (F x)
  cases h
 ·
  rename_i x xt t C;split at h
  ·cases h
  ·rename_i d z hne hu hz
   have A:=F x;obtain⟨k1,k2,k3⟩:=DT (B:=B) (bx:=bx) (g:=g) (w:=w) (ρ:=ac.eval) C hu (fun ms e=>hne ms e) hz A;split at h
   ·rename_i D
    simp only[ok,aR,bM,jA] at h;subst h;exact k1 D
   ·rename_i u v D
    cases hut:u==t with
    |true=>
     rw[hut,lm] at h;have e:u=t:=by simpa using hut
     have Q:=aP h;clear h;obtain⟨I,h⟩:=Q;simp only[ok,aR,bM,jA] at h;subst h;exact k3 u _ D e (by cases v<;>first|rfl|cases I)
    |false=>
     rw[hut,jW] at h;have e:u≠t:=by simpa using hut
     simp only[ok,aR,bM,jA] at h;subst h;exact k2 u v D e
   cases h
  cases h
 ·
  rename_i x C;have A:=F x;split at h
  ·rename_i t v D
   simp only[aR,bM,jA] at h;subst h;rw[D] at A;obtain⟨u,hu,hru⟩:=jQ.1 A;refine⟨.iface t u,?_,by unfold aV;exact⟨u,rfl,hru⟩⟩;simp only[execOp,C,hu,Instr.panic,Sem.run_bind,run_goPanic];rfl
  cases h
 ·
  rename_i op t x C;have A:=F x;split at h
  ·rename_i b D
   simp only[ok,aR,bM,jA] at h;subst h;rw[D,dB] at A;exact⟨.bool (aL b),by simp only[execOp,C,A,Op.unary,Sem.run_bind,Sem.run_pure,Result.andThen_ok];rfl,dB.2 rfl⟩
  ·rename_i k n D
   simp only[ok,aR,bM,jA] at h;subst h;rw[D,cu] at A;exact⟨.int k (dw k 0 n),by simp only[execOp,C,A,Op.unary,Op.intArith,Sem.run_bind,Sem.run_pure,Result.andThen_ok];rfl,cu.2 rfl⟩
  cases h
 ·rename_i src dst x C
  exact US C hG (F x) h
 ·
  rename_i f first M C
  cases hfc:(M.size==0&&Nat.blt 0 first.size&&Nat.blt f yU)&&(first.toList.map r).all V.single with
  |true=>
   rw[hfc,lm] at h;simp only[ok,aR,bM,jA] at h;subst h;simp only[bC,iM] at hfc;obtain⟨⟨⟨hc0,hf0⟩,T⟩,hsg⟩:=hfc;have hf0:0<first.size:=by simpa[Gb] using hf0
   have hc0:M= #[]:=Array.eq_empty_of_size_eq_zero hc0;subst hc0;refine⟨.func (.func f) (first.map ac.eval) #[],by simp[execOp,C,Instr.makeFunc],?_⟩;refine⟨.int .i64 (f:Int)::first.toList.map ac.eval,by rw[WJ,←acm];rfl,.cons (show aV g.G _ _ by unfold aV;rfl) ⟨by simp,fun i x v A I=>?_⟩⟩;rw[l8] at hsg;have hxs:=hsg x (F9 A);simp only[sW] at A I
   cases N:first.toList[i]? with
   |none=>rw[N] at A;cases A
   |some y=>rw[N] at A I;simp only[xR,aR] at A I;subst A;subst I;exact aZ hxs (F y)
  |false=>
  rw[hfc,jW] at h;have Q:=aP h;obtain⟨K,O⟩:=Q;simp only[ok,aR,bM,jA] at O;subst O;rw[bC,bC] at K;obtain⟨⟨K,T⟩,hsg⟩:=K;have hf0:first= #[]:=by
   have:first.size=0:=by simpa using K
   exact Array.eq_empty_of_size_eq_zero this
  subst hf0;refine⟨.func (.func f) #[] (M.map ac.eval),by simp[execOp,C,Instr.makeFunc],?_⟩;refine⟨M.toList.map ac.eval,by rw[A8 T,←acm],by simp,fun i x v A I=>?_⟩;rw[l8] at hsg;have hxs:=hsg x (F9 A);simp only[sW] at A I
  cases N:M.toList[i]? with
  |none=>rw[N] at A;cases A
  |some y=>rw[N] at A I;simp only[xR,aR] at A I;subst A;subst I;exact aZ hxs (F y)
 ·rename_i t l c C
  exact RN C hG (F l) (F c) h
 ·rename_i t x lo N C
  exact RL C F h
 ·
  rename_i t x f C;split at h
  ·rename_i fd hf
   split at h
   ·cases h
   ·rename_i n hn hs
    have A:=F x;have hn0:n≠0:=fun e=>hn e
    split at h
    ·rename_i sh v off D
     simp only[ok,aR,bM,jA] at h;subst h;rw[D] at A;obtain⟨b,q,l,W,hG2,hfit,u,hu,hc⟩:=iW.1 A;exact⟨.pointer (some ⟨b,q+off+fd.offset,none⟩),by simp only[execOp,C,W,Sem.run_bind,mY hf hs hn0,Result.andThen_ok,Sem.run_pure],iW.2 ⟨b,q,l,by rw[acH],hG2,hfit,u,hu,hc⟩⟩
    ·rename_i L e sh xs i off D
     simp only[ok,aR,bM,jA] at h;subst h;rw[D] at A;obtain⟨v0,b,q1,q2,q3,q4,q5,W⟩:=mJ.1 A;exact⟨.pointer (some ⟨b,i.toNat*sh.length+off+fd.offset,none⟩),by simp only[execOp,C,W,Sem.run_bind,mY hf hs hn0,Result.andThen_ok,Sem.run_pure],mJ.2 ⟨v0,b,q1,q2,q3,q4,q5,by rw[acH]⟩⟩
    ·rename_i L e sz i off D
     simp only[ok,aR,bM,jA] at h;subst h;rw[D] at A;obtain⟨v0,b,l,q1,q2,q3,q4,q5,W⟩:=pI.1 A;exact⟨.pointer (some ⟨b,i.toNat*sz+off+fd.offset,none⟩),by simp only[execOp,C,W,Sem.run_bind,mY hf hs hn0,Result.andThen_ok,Sem.run_pure],pI.2 ⟨v0,b,l,q1,q2,q3,q4,q5,by rw[acH]⟩⟩
    ·rename_i k off D
     simp only[ok,aR,bM,jA] at h;subst h;rw[D] at A;obtain⟨b,hb,W⟩:=dV.1 A;exact⟨.pointer (some ⟨b,off+fd.offset,none⟩),by simp only[execOp,C,W,Sem.run_bind,mY hf hs hn0,Result.andThen_ok,Sem.run_pure],dV.2 ⟨b,hb,rfl⟩⟩
    cases h
   cases h
  cases h
 ·
  rename_i t x f C;split at h
  ·rename_i fd cs hf D
   have A:=F x;rw[D] at A;exact OC C hf A h
  cases h
 ·
  rename_i t x i C;split at h
  ·rename_i k n D
   have N:=F i;rw[D,cu] at N;have A:=F x;split at h
   ·rename_i k off hB
    rw[hB] at A;exact J8 C A N h
   exact Ff C A N h
  cases h
 ·
  rename_i t x i C;split at h
  ·rename_i k n D
   have N:=F i;rw[D,cu] at N;have A:=F x;split at h
   ·rename_i cs hB
    rw[hB] at A;exact Jz C A N h
   ·rename_i f vs hB
    rw[hB] at A;obtain⟨Z,h⟩:=aP h;rw[bC,iM] at Z;rw[Z.1] at A;exact Jy C A N Z.2 h
   exact RJ C A N h
  cases h
 ·
  rename_i x i C;split at h
  ·rename_i vs D
   have A:=F x;rw[D] at A;have Q:=aP h;obtain⟨K,O⟩:=Q;simp only[ok,aR,bM,jA] at O;subst O;rw[bC] at K;exact J7 C A (by simpa[Gb] using K.1) K.2
  cases h
 ·
  rename_i c C;split at h
  ·rename_i f H
   split at h
   ·rename_i id M hf
    have hpsc: ∀(J:Array Operand),PW (aT g) (J.toList.map r) (J.toList.map ac.eval):=fun J=>⟨by simp,fun i x v A I=>by
     simp only[sW] at A I
     cases N:J.toList[i]? with
     |none=>rw[N] at A;cases A
     |some y=>rw[N] at A I;simp only[xR,aR] at A I;subst A;subst I;exact F y⟩
    have Z:=F f;rw[hf] at Z;obtain⟨a,hfa,hpa⟩:=Z;obtain⟨callee,J,ctypes⟩:=c;simp only at H h;subst H;have hps:=hpsc J
    cases Y:id==BM with
    |false=>
     rw[Y,jW] at h;split at h
     ·rename_i args mb ml hargs
      have Q:=aP h;clear h;obtain⟨hb,h⟩:=Q;simp only[bC] at hb;obtain⟨⟨hb,T⟩,hn⟩:=hb;simp only[aR,bM,jA] at h;subst h;rw[A8 T] at hfa;refine⟨J.toList.map ac.eval++a,J.toList.map r++M,?_,?_,hargs,hn⟩
      ·simp only[execOp,C,resolve,Deferred.ofValue,hfa,invoke,Sem.run_bind,Sem.run_pure,Result.andThen_ok,yw hE hb]
       simp
      exact(hps.mono fun _ _ _=> .inl).append (hpa.mono fun _ _ _=> .inr)
     cases h
    |true=>
     rw[Y,lm] at h;rw[iM] at Y;rw[Y] at hfa;split at h
     ·exact RV C hE hfa hpa hps h
     cases h
   cases h
  ·rename_i H
   split at h
   ·rename_i x y R
    exact BU (great:=false) C H R (F x) (F y) h
   cases h
  ·rename_i H
   split at h
   ·rename_i x y R
    exact BU (great:=true) C H R (F x) (F y) h
   cases h
  ·rename_i H
   split at h
   ·rename_i t x ht A
    exact Zd C H ht A (F x) h
   cases h
  ·rename_i H
   split at h
   ·rename_i t x ht A
    split at h
    ·rename_i e' hu D
     simp only[ok,aR,bM,jA] at h;subst h;have I:=F x;rw[D,iK] at I;obtain⟨callee,args,argTypes⟩:=c;simp only at H ht A;subst H;obtain rfl:args= #[x]:=by rw[←Px];simpa using A
     obtain rfl:argTypes= #[t]:=by rw[←Px];simpa using ht
     refine⟨.int .i64 0,?_,cu.2 rfl⟩;have hv2:ac.eval x=.slice none 0 0:=I;have hu2:(Builtin.cap_ #[t] o.type #[ac.eval x]).run E.P w=.ok (.int .i64 0) w:=by rw[hv2];simp[Builtin.cap_,run_underlying hu,goInt]
     simp[execOp,C,resolve,invoke,builtin,hu2]
    cases h
   cases h
  ·rename_i H
   split at h
   ·rename_i s x R
    exact OI C H R hG hO hB (F s) (F x) h
   cases h
  cases h
 cases h
theorem own_none {B:Own} {g:Gh} {w:World} (h:g.O=fun _=>none):Ph B g w:=⟨fun L v e a hL=>by(rw[h] at hL;cases hL),fun L L' v d e f a c b hL=>by(rw[h] at hL;cases hL)⟩
theorem UT {E:Env} {fr:ah} {ac:Act} (C:lV E g.G w) (J: ∀y,aT g (lH E fr y) (ac.eval y)) {eff:Eff} (h:D6 E fr o=some (some (true,eff))):Does E.P ac.eval o B w g bx eff:=by
 unfold D6 at h;split at h
 ·rename_i t x i Q
  split at h
  ·rename_i gn n k e p S L
   split at h
   ·rename_i X a H Z
    simp only[aR,bM] at h;obtain⟨q,rfl⟩:=h;have v:ac.eval i=.int .i64 n:=cu.1 (by rw[←S];exact J i);have d:=J x;unfold mapG at p;split at p
    ·rename_i c y M gi r
     simp only[aR] at p;subst p;rw[r] at d;simp only[aT,bP] at d;unfold aV at d;obtain⟨b,l,K,I,u⟩:=d;unfold mapE at a;split at a
     ·rename_i sh T f W off D
      simp only[aR] at a;subst a;obtain⟨Y,U,F,ck,z,s,R,N⟩:=(C _ _ D).2.2;rw[show(asInt (V.int M gi)).toNat=gi.toNat from rfl] at I;rw[I] at z;simp only[aR] at z;subst z;rw[u,K] at s;simp only[aR,Value.map.injEq] at s;subst s;obtain⟨j,O⟩:=N.look n q;have m:(Instr.lookup t (ac.eval x) (ac.eval i) false).run E.P w=.ok (.string ⟨(PX f n).toArray⟩) w:=by rw[K,v];have A:(Instr.checkKey F.isEmpty 10000 k (.int .i64 n)).run E.P w=.ok () w:=MapKept.run_checkKey H (show MapKept.IsKey (.int .i64) (.int .i64 n) from rfl) F.isEmpty 9999;simp[Instr.lookup,run_underlying L,MapKept.run_getObj_map R,A,MapKept.run_findKey H O,Result.andThen]
      exact⟨.string ⟨(PX f n).toArray⟩,by simp[execOp,Q,m],gJ.2 rfl⟩
     cases a
    cases p
   cases h
  cases h
 cases h
theorem mK (hE:uL E) (R:E.P=P) (s:xU g.G w) (F:Ph B g w) (a:BOk P B g bx w) (hB:B.n≤w.heap.size∧ ∀b,w.heap.size≤b→B.m b) (H:lN g.G1 g.G) (A:lV E g.G w) (i: ∀y,aT g (lH E fr y) (ac.eval y)) {eff:Eff} (h:JJ E fr bx o=some (true,eff)):Does P ac.eval o B w g bx eff:=by
 subst R;unfold JJ at h;split at h
 ·rename_i r M
  subst h;exact UT A i M
 simp only at h;have d: ∀{eff:Eff},Tq E.P (fun x=>(lH E fr x).D3) bx o=some (true,eff)→Does E.P ac.eval o B w g bx eff:=fun h=>Dl hE rfl s F a hB (fun y=>zD (i y)) h
 cases I:o.op.operands.toList.any fun x=>(lH E fr x).PV with
 |false=>rw[I] at h;exact Dl hE rfl s F a hB i h
 |true=>
  rw[I,lm] at h;split at h
  ·rename_i c v Q
   cases z:v.fG with
   |false=>rw[z] at h;exact d h
   |true=>
    rw[z,lm] at h;simp only[aR,bM] at h;obtain⟨rfl,rfl⟩:=h;have C:xU g.g0.G w:=fun b l J=>by
     obtain⟨S,q,j⟩:=H b l J;obtain⟨c,e,f,O,K⟩:=s b S q;refine⟨c,e,f,O,?_⟩;obtain⟨t,rfl⟩:=j;have D:(c.toList.take (l++t).length).take l.length=l:=by rw[K];simp
     rw[acV] at D;rwa [acO (by simp)] at D
    obtain⟨u,q,j⟩:=Dl (B:=B) (g:=g.g0) hE rfl C (own_none rfl) (⟨fun k L p=>(by cases p),fun k T L N p=>(by cases p)⟩:BOk E.P B g.g0 [] w) hB (fun y=>KW (i y)) Q;exact⟨u,q,OA z H j⟩
  exact d h
end
end Nt.Ev
