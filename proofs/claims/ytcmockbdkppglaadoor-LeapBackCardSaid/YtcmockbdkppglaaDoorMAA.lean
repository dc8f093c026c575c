/-
  The evaluator's operations, all of them. append, conversions, calls; and all operations together.
-/
import Derived.Test.YtcmockbdkppglaaDoorMA
import Derived.Lib.AppendStr
import Derived.MapKept
set_option linter.all false
set_option maxRecDepth 100000
namespace Nt.Ev
open Go Go.RowKit
section
variable {P:Program} {o:Oper} {B:Own} {w:World} {g:Gh} {bx:List (Nat×af)} {r:Operand→V} {ac:Act}
theorem rX (a:Array (Nat×Operand)) (f:Operand→V) (r:Operand→Value):
  (a.toList.map fun(i,x)=>(i,f x)).map (·.1)=((a.map fun(i,x)=>(i,r x)).toList).map (·.1):=by
 simp[XP,RQ,acK]
theorem vX (hE: ∀y,aB g (r y) (ac.eval y)) (a:Array (Nat×Operand)): ∀(i:Nat) (x:V) (v:Value),((a.toList.map fun(i,x)=>(i,r x))[i]?).map (fun(p:Nat×V)=>p.2)=some x→
  (((a.map fun(i,x)=>(i,ac.eval x)).toList)[i]?).map (fun(p:Nat×Value)=>p.2)=some v→ ∀y,x.deep=some y→aJ g.G y v:=by
 intro i x v hx b y d;simp only[XP,qa,Option.map_map,acK] at hx b
 cases c:a.toList[i]? with
 |none=>rw[c] at hx;cases hx
 |some p=>
  rw[c] at hx b;simp only[qJ,aF] at hx b;subst hx;subst b;exact lq (hE p.2) d
theorem Jr {G:aI} {b:Value} (k:mo b≠.any) (n a:Nat) (j:b.cells.size=a) (h:0<a):PW (aJ G) (DR (mo b) n a) ((Array.range (n*a)).map (b.cells[· % b.cells.size]!)).toList:=by
 obtain⟨hl,c⟩:=jT (pJ G b) k;unfold DR;refine⟨by simp,fun i x v hx g=>?_⟩;have f:i<n*a:=by
  have:=(List.getElem?_eq_some_iff.1 hx).1;simpa using this
 simp only[qa,XK f,qJ,aF] at hx;subst hx;have l:i%a<a:=Vy _ h;simp only[XP,qa,Array.toList_range,XK f,qJ,aF,j] at g;subst g;have e:i%a<(mo b).cells.length:=by omega
 refine c.2 (i%a) _ _ (getD_some e) ?_;have d:i%a<b.cells.size:=by omega
 simp[d]
theorem wL {t:TypeId} {n:Nat} {d:Array (Nat×Operand)} {eff:Eff} (ho:o.op=.buildSlice t n d) (hG:sU g.G w) (hE: ∀y,aB g (r y) (ac.eval y))
  (h:pU P t n (d.toList.map fun(i,x)=>(i,r x))=some (true,eff)):Does P ac.eval o B w g bx eff:=by
 have he:execOp ac.eval o=(do pure (.value (←Instr.buildSlice t n (d.map fun(i,x)=>(i,ac.eval x))))):=by simp only[execOp,ho]
 unfold pU at h;split at h
 ·rename_i e sh z K
  obtain⟨hu,i,zv,hi,hz,rfl,_,s,u,L,hby,q⟩:=gH K;by_cases W:n=0
  ·subst W
   simp only[E8,gY] at h;split at h
   ·rename_i X
    simp only[aF,bP,je] at h;subst h;have N:d= #[]:=by
     have:=congrArg List.length X;simp at this;exact this
    subst N;obtain⟨G',hN,R⟩:=kX (e:=e) (sh:=sh) (xs:=[]) (cap:=0) (c:= #[]) hG (iM w (.cells #[] e)) (heap_alloc_new w _) u (iA _) (by unfold maxLen;omega) (by simp) fZ;refine⟨_,_,G',?_,hN,R⟩;rw[he];have e0: ∀f:Nat→Value,Array.map f (Array.range 0)= #[]:=fun f=>by rw[←Ff];simp
    simp[Instr.buildSlice,run_underlying hu,Go.sizeOf,typeInfo,hi,Instr.fill,newRow,e0]
   ·cases h
  ·have S:(n==0)=false:=by simpa using W
   rw[S] at h;simp only[fQ] at h;split at h
   ·rename_i ag k hag A
    have T:=au h;clear h;obtain⟨v,h⟩:=T;simp only[aF,bP,je] at h;subst h;simp only[bB] at v;obtain⟨⟨Q,U⟩,E⟩:=v;have E:=R6 E;have H:mo zv≠.any:=fun e=>by rw[e,jy] at q;cases q
    have J:=Jr (G:=g.G) H n sh.length L u;obtain⟨j,O,F⟩:=oG _ _ _ k _ (rX d _ ac.eval) (vX hE d) J A;have l:k.length=n*sh.length:=by
     have h1: ∀(pl:Nat→Option (Nat×Nat)) (I:List (Nat×V)) (a b:af),qO pl a I=some b→b.length=a.length:=by
      intro pl I;induction I with
      |nil=>intro a b h;simp only[qO,aF] at h;rw[h]
      |cons p I M=>
       intro a b h;obtain⟨i,x⟩:=p;simp only[qO] at h;split at h
       ·have T:=au h
        obtain⟨v,h2⟩:=T;simp only[bB,fT] at v;have:=R6 v.2;rw[M _ _ h2];unfold over;simp;omega
       ·cases h
     rw[h1 _ _ _ _ A];unfold DR;simp
    have D: ∀(m:Nat) (k:af),(chunks ag sh.length m k).length=m:=by
     intro m;induction m with
     |zero=>intro k;rfl
     |succ m M=>intro k;unfold chunks;rw[iy,M]
    have C:=mM Q n k j.toList F l u U;have Y:j.size=n*sh.length:=by
     have:=F.1;rw[l] at this;simpa using this.symm
    obtain⟨G',hN,R⟩:=kX (e:=e) (sh:=sh) (xs:=chunks ag sh.length n k) (cap:=n) (c:=j) hG (iM w (.cells j e)) (heap_alloc_new w _) u (by rw[D];exact iA _) (by
     unfold maxLen;have:=Nat.le_mul_of_pos_right n u;omega) Y (rW _ _ C).2
    refine⟨_,_,G',?_,hN,R⟩;rw[he,D];have Z: ¬n*i.size=0:=by
     rw[s];have:=Nat.mul_pos (Nat.pos_of_ne_zero W) u;omega
    have hr:=run_buildSlice (P:=P) w t e n (d.map fun(i,x)=>(i,ac.eval x)) j i zv hu hi hz (by rw[s];omega) Z (by rw[s];exact O);simp only[Sem.run_bind,hr,Result.andThen_ok,Sem.run_pure]
   ·cases h
 ·cases h
theorem Js {a:Array Field} (h:a.all (fun f=>(bL P f.type).isSome)=true):(a.mapM fun(f:Field)=>(do pure (f.offset,←Go.sizeOf f.type):Sem (Nat×Nat))).run P w=.ok (a.map fun f=>(f.offset,(bL P f.type).getD 0)) w:=by
 rw[Array.mapM_eq_mapM_toList];have b: ∀l:List Field,(∀f∈l,(bL P f.type).isSome=true)→(l.mapM fun(f:Field)=>(do pure (f.offset,←Go.sizeOf f.type):Sem (Nat×Nat))).run P w=.ok (l.map fun f=>(f.offset,(bL P f.type).getD 0)) w:=by
  intro l;induction l with
  |nil=>intro _;rfl
  |cons f l g=>
   intro hl;have c:=hl f (by simp);obtain⟨n,d⟩:=Option.isSome_iff_exists.1 c;rw[ZI];simp only[Sem.run_bind,bW d,Result.andThen_ok,Sem.run_pure,g (fun x hx=>hl x (by simp[hx]))];simp[d]
 have:=b a.toList (fun f c=>by
  have e:=Array.all_eq_true_iff_forall_mem.1 h f (by simpa using c);exact e)
 simp only[Sem.run_bind,Sem.run_map,this,Result.andThen_ok];congr 1
 rw[←Ff];simp
theorem G9 {t:TypeId} {a:Array (Nat×Operand)} {eff:Eff} (K:o.op=.build t a) (hE: ∀y,aB g (r y) (ac.eval y))
  (h:IY P t (a.toList.map fun(i,x)=>(i,r x))=some (true,eff)):Does P ac.eval o B w g bx eff:=by
 have H:execOp ac.eval o=(do pure (.value (←Instr.build t (a.map fun(i,x)=>(i,ac.eval x))))):=by simp only[execOp,K]
 unfold IY at h;split at h
 ·rename_i i F
  split at h
  ·rename_i z D A C
   split at h
   ·rename_i s m
    have L:=au h;clear h;obtain⟨I,h⟩:=L;simp only[ok,aF,bP,je] at h;subst h;have d:PW (aJ g.G) (z.toList.map yu) z.toList:=⟨by simp,fun j x v hx E=>by
     simp only[qa,E,qJ,aF] at hx;subst hx;exact pI g.G v⟩
    obtain⟨b,c,p⟩:=oG _ _ _ s z (rX a _ ac.eval) (vX hE a) d m;have q:IX P D=fun(j:Nat)=>((D.map fun(f:Field)=>(f.offset,(bL P f.type).getD 0))[j]?):=by
     funext j
     unfold IX;rw[Array.getElem?_map]
     cases O:D[j]? with
     |none=>rfl
     |some f=>
      have J:=Array.all_eq_true_iff_forall_mem.1 I f (XI O);obtain⟨n,N⟩:=Option.isSome_iff_exists.1 J;simp[N]
    rw[q] at c;refine aT H (u:=.agg b) ?_ (gu.2 ⟨b.toList,by simp,p⟩);have l:(zeroValue t).run P w=.ok (.agg z) w:=by simp[zeroValue,typeInfo,F,A]
    simp only[Instr.build,Sem.run_bind,l,Result.andThen_ok,run_underlying C,Js I,Value.cells,c,Sem.run_pure]
   ·cases h
  ·rename_i z k e A C
   split at h
   ·rename_i n M
    split at h
    ·rename_i s m
     simp only[ok,aF,bP,je] at h;subst h;have d:PW (aJ g.G) (z.toList.map yu) z.toList:=⟨by simp,fun j x v hx E=>by
      simp only[qa,E,qJ,aF] at hx;subst hx;exact pI g.G v⟩
     obtain⟨b,c,p⟩:=oG _ _ _ s z (rX a _ ac.eval) (vX hE a) d m;refine aT H (u:=.agg b) ?_ (gu.2 ⟨b.toList,by simp,p⟩);have l:(zeroValue t).run P w=.ok (.agg z) w:=by simp[zeroValue,typeInfo,F,A]
     simp only[Instr.build,Sem.run_bind,l,Result.andThen_ok,run_underlying C,bW M,Value.cells,c,Sem.run_pure]
    ·cases h
   ·cases h
  ·cases h
 ·cases h
theorem kZ {x:V} {P:af} {u:Value} (h:bM x=some P) (hx:aB g x u):PW (aB g) P u.cells.toList∧ ∀c∈u.cells.toList,c.oneCell'=true:=by
 have one: ∀(y:V) (c:Value),y.one=true→aJ g.G y c→aB g y c∧c.oneCell'=true:=by
  intro y c s d
  cases y with
  |sl e sh R xs=>
   cases R with
   |none=>exact⟨d,by unfold aJ at d;obtain⟨p,cap,rfl,_⟩:=d;rfl⟩
   |some L=>cases s
  |bool b=>refine⟨d,?_⟩;unfold aJ at d;subst d;rfl
  |int k n=>refine⟨d,?_⟩;unfold aJ at d;subst d;rfl
  |str l=>refine⟨d,?_⟩;unfold aJ at d;subst d;rfl
  |nilsl=>refine⟨d,?_⟩;unfold aJ at d;subst d;rfl
  |rptr sh x off=>refine⟨d,?_⟩;unfold aJ at d;obtain⟨b,q,l,rfl,_⟩:=d;rfl
  |nilif=>refine⟨d,?_⟩;unfold aJ at d;subst d;rfl
  |nilp=>refine⟨d,?_⟩;unfold aJ at d;subst d;rfl
  |iface t x=>refine⟨d,?_⟩;unfold aJ at d;obtain⟨u,rfl,_⟩:=d;rfl
  |_=>cases s
 cases x with
 |agg U=>
  unfold bM at h;have W:=au h;obtain⟨m,O⟩:=W;simp only[aF] at O;subst O;obtain⟨a,rfl,E⟩:=gu.1 hx;rw[nN];rw[jJ] at m;refine⟨E.mono fun y s v o=>(one y v (m y s) o).1,fun c B=>?_⟩;obtain⟨j,H,rfl⟩:=acB B;have F:j<U.length:=by rw[E.1];exact H
  exact(one _ _ (m _ (Fg F)) (E.2 j _ _ (gQ F) (gQ H))).2
 |any=>cases h
 |tup vs=>cases h
 |old _=>cases h
 |eptr _ _ _ _ _ _=>cases h
 |bool b=>simp only[bM,aF] at h;subst h;have m:=bn.1 hx;subst m;exact⟨.cons hx .nil,by simp[Value.cells,Value.oneCell']⟩
 |int k n=>simp only[bM,aF] at h;subst h;have m:=bu.1 hx;subst m;exact⟨.cons hx .nil,by simp[Value.cells,Value.oneCell']⟩
 |str l=>simp only[bM,aF] at h;subst h;have m:=dS.1 hx;subst m;exact⟨.cons hx .nil,by simp[Value.cells,Value.oneCell']⟩
 |nilsl=>simp only[bM,aF] at h;subst h;have m:=gL.1 hx;subst m;exact⟨.cons hx .nil,by simp[Value.cells,Value.oneCell']⟩
 |sl e sh R xs=>
  simp only[bM,aF] at h;subst h;have m:=jq hx;unfold aJ at m;obtain⟨p,cap,rfl,_⟩:=m;exact⟨.cons hx .nil,by simp[Value.cells,Value.oneCell']⟩
 |rptr sh y off=>simp only[bM,aF] at h;subst h;obtain⟨b,q,l,rfl,_⟩:=gz.1 hx;exact⟨.cons hx .nil,by simp[Value.cells,Value.oneCell']⟩
 |box k off=>simp only[bM,aF] at h;subst h;obtain⟨b,_,rfl⟩:=cu.1 hx;exact⟨.cons hx .nil,by simp[Value.cells,Value.oneCell']⟩
 |fn f c=>
  simp only[bM] at h
  cases z:Nat.blt f rA with
  |true=>
   rw[z,gY] at h;simp only[aF] at h;subst h;have J:=hx;obtain⟨a,rfl,_⟩:=J;rw[tL z] at hx⊢;exact⟨.cons hx .nil,by simp[Value.cells,Value.oneCell']⟩
  |false=>
   rw[z,fQ] at h;obtain⟨Q,N⟩:=au h;clear h;rw[fT] at Q;subst Q
   cases c with
   |nil=>cases N
   |cons p l=>
    obtain⟨w,T⟩:=au N;clear N;simp only[aF] at T;subst T;obtain⟨a,rfl,E⟩:=hx;obtain⟨M,lv,rfl,K,r⟩:=E.cons_inv;rw[KI,nN];rw[jJ] at w;have D: ∀y∈l,∀v,aX g y v→aB g (bmV p y) (FK M v)∧(FK M v).oneCell'=true:=by
     intro y s v o;have S:=w y s
     cases y with
     |int k n=>
      have Z:Nat.blt n.toNat rA=true:=S;have o:v=.int k n:=by simp only[aX] at o;unfold aJ at o;exact o
      subst o;exact⟨⟨[.int .i64 n,M],rfl,.cons (show aJ g.G _ _ by unfold aJ;rfl) (.cons K .nil)⟩,rfl⟩
     |_=>cases S
    refine⟨⟨by simp[r.1],fun j x v hx o=>?_⟩,fun c B=>?_⟩
    ·rw[qa,Option.map_eq_some_iff] at hx o
     obtain⟨y,s,rfl⟩:=hx;obtain⟨I,A,rfl⟩:=o;exact(D y (Bz s) I (r.2 j y I s A)).1
    ·obtain⟨I,A,rfl⟩:=List.mem_map.1 B
     obtain⟨j,H⟩:=BD A;have C:j<l.length:=by rw[r.1];exact(List.getElem?_eq_some_iff.1 H).1
     exact(D _ (Fg C) I (r.2 j _ I (gQ C) H)).2
 |nilif=>simp only[bM,aF] at h;subst h;have m:=j3.1 hx;subst m;exact⟨.cons hx .nil,by simp[Value.cells,Value.oneCell']⟩
 |nilp=>simp only[bM,aF] at h;subst h;have m:=MG.1 hx;subst m;exact⟨.cons hx .nil,by simp[Value.cells,Value.oneCell']⟩
 |iface t y=>simp only[bM,aF] at h;subst h;obtain⟨u,rfl,_⟩:=iJ.1 hx;exact⟨.cons hx .nil,by simp[Value.cells,Value.oneCell']⟩
 |bxa _ _=>cases h
 |out _ _ _=>cases h
 |qD _ _ _=>cases h
 |epz _ _ _ _ _=>cases h
 |keep _ _=>cases h
 |slz L e sh xs o2 i c Y X ys=>
  simp only[bM,aF] at h;subst h;obtain⟨l,_,_,⟨o,_⟩,_⟩:=kF.1 hx;refine⟨?_,?_⟩<;>rcases o with⟨rfl,rfl⟩|⟨b,cap,rfl⟩<;>first|exact .cons hx .nil|(intro c B;simp[Value.cells] at B;subst B;rfl)
theorem Jt {z:Value} {f:af} (h:DV z=some f):PW (aB g) f z.cells.toList∧ ∀c∈z.cells.toList,c.oneCell'=true:=by
 unfold DV at h;split at h
 ·rename_i k d
  simp only[aF] at h;subst h;exact kZ d (bA (Az z) (pJ g.G z))
 ·split at h
  ·rename_i a l
   obtain⟨j,e⟩:=au h;simp only[aF] at e;subst e;rw[jJ] at j;refine⟨⟨by simp[Value.cells],fun i x v hx b=>?_⟩,fun c d=>j c d⟩;have b:a.toList[i]? =some v:=b;rw[qa,b] at hx;simp only[qJ,aF] at hx;subst hx;exact bA (Ay v) (pI g.G v)
  ·cases h
theorem MR {t:TypeId} {x:Operand} {a:af} (b:o.op=.box t x) (hE: ∀y,aB g (r y) (ac.eval y)) (h:bM (r x)=some a) (c:iF a=true→lH P t a.length=true):Does P ac.eval o B w g bx (.kN t a):=by
 obtain⟨e,d⟩:=kZ h (hE x);refine⟨(ac.eval x).cells,?_,e,d,c⟩;simp[execOp,b,Instr.box,newVar,newRow]
theorem He {t:TypeId} {i:TypeInfo} {z:Value} {a:af} (b:o.op=.alloc t) (f:P.info? t=some i) (j:i.zero=some z) (h:DV z=some a) (c:iF a=true→lH P t a.length=true):Does P ac.eval o B w g bx (.kN t a):=by
 obtain⟨e,d⟩:=Jt (g:=g) h;refine⟨z.cells,?_,e,d,c⟩;simp[execOp,b,Instr.alloc,zeroValue,typeInfo,f,j,newVar,newRow]
theorem Hf {t:TypeId} {a x:Operand} {k off n:Nat} {cells vs:af} (C:o.op=.store t a x) (hB:Oe P B g bx w) (hE: ∀y,aB g (r y) (ac.eval y)) (H:r a=.box k off) (hx:bM (r x)=some vs)
  (hl:aj bx k=some cells) (F:bL P t=some n) (K:vs.length=n) (I:off+n≤cells.length):Does P ac.eval o B w g bx (.put k off vs):=by
 have j:=hE a;rw[H] at j;obtain⟨b,q,A⟩:=cu.1 j;obtain⟨J,c,e,d,z,s,f,u,D⟩:=hB.1 k cells hl;rw[q] at d;simp only[aF] at d;subst d;obtain⟨p,v⟩:=kZ hx (hE x);have l:(ac.eval x).cells.size=n:=by
  have:=p.1;simp only[yG] at this;omega
 have E:cells.length=c.size:=by rw[f.1];simp
 refine⟨b,c,e,(ac.eval x).cells.toList,cells,q,hl,s,f,?_,p,v,by omega⟩;have h:=run_storeCells_at P b off e (ac.eval x).cells.toList 0 c w s (by simp;omega) v;simp only[Ob] at h;obtain⟨i,G,m⟩:=jr F;simp[execOp,C,A,Instr.storeAt,Instr.sureAddr,storeVar,Go.sizeOf,typeInfo,G,l,m,h]
theorem Qc {k:Kd} {x:V} {v:Value} (b:flatK k=true) (a:fits k x=true) (h:aB g x v):aJ g.G x v:=by
 cases k<;>first|cases b|skip
 all_goals cases x<;>first|exact h|(simp[fits] at a)
theorem Ag {G:aI} {v:V} {u:Value} (e:aJ G v u): ∀(b:af) (c:List Value) (off:Nat),nA G b c→nA G (b.set off v) (c.set off u)
 |[],c,off,h=>by
  unfold nA at h;subst h;show nA G [] [];unfold nA;rfl
 |y::b,c,off,h=>by
  unfold nA at h;obtain⟨a,t,rfl,f,d⟩:=h
  cases off with
  |zero=>
   show nA G (v::b) (u::t);unfold nA;exact⟨u,t,rfl,e,d⟩
  |succ off=>
   show nA G (y::b.set off v) (a::t.set off u);unfold nA;exact⟨a,_,rfl,f,Ag e b t off d⟩
theorem FX (a b:Bool):av a b=true↔a=true∧b=true:=by cases a<;>cases b<;>decide
theorem vY {k:Kd} {v:V} (c:fits k v=true): ∀(sh:List Kd) (b:af) (off:Nat),sh[off]? =some k→bE sh b=true→bE sh (b.set off v)=true
 |[],_,_,h,_=>by simp at h
 |q::sh,[],_,_,h=>by cases h
 |q::sh,y::b,0,h,a=>by
  simp only[BZ,aF] at h;subst h;have a:av (fits q y) (bE sh b)=true:=a;show av (fits q v) (bE sh b)=true;rw[FX] at a⊢;exact⟨c,a.2⟩
 |q::sh,y::b,off+1,h,a=>by
  have a:av (fits q y) (bE sh b)=true:=a;show av (fits q y) (bE sh (b.set off v))=true;rw[FX] at a⊢;exact⟨a.1,vY c sh b off (by simpa using h) a.2⟩
theorem KM {sh:List Kd} {y:V} (a:eP sh y=true) (c:2≤sh.length): ∃b,y=.agg b:=by
 have hl:=gU _ _ a
 cases y<;>first|exact⟨_,rfl⟩|(simp[V.cells] at hl;omega)
theorem S8 {G:aI} {sh:List Kd} {y v:V} {p u:Value} {off:Nat} (a:Ce sh off v=true) (m:eP sh y=true) (f:aJ G y p) (j:aJ G v u):eP sh (qF sh y off v)=true∧ ∃z,aJ G (qF sh y off v) z∧p.cells.toList.set off u=z.cells.toList:=by
 unfold Ce at a;rw[bB] at a;obtain⟨o,a⟩:=a;unfold wQ at a
 cases c:sh[off]? with
 |none=>rw[c] at a;cases a
 |some k=>
  rw[c] at a;have a:fits k v=true:=a;have d:=lm m f;by_cases b: ∃q,sh=[q]
  ·obtain⟨q,rfl⟩:=b
   have w:off=0:=by
    have:=(List.getElem?_eq_some_iff.1 c).1;simpa using this
   subst w;have n:q=k:=by simpa using c
   subst n;have x:flatK q=true:=by simpa using o
   obtain⟨s,l⟩: ∃s,p.cells.toList=[s]:=List.length_eq_one_iff.1 (by simpa using d);rw[l];have hx:eP [q] v=true∧u.cells.toList=[u]:=by
    cases q<;>first|(cases x;done)|skip
    all_goals (cases v<;>first|(simp[fits] at a;done)|skip)
    all_goals (unfold aJ at j;subst j;refine⟨?_,rfl⟩;simp only[eP,V.cells,bE,av,a])
   exact⟨hx.1,u,j,by rw[hx.2];rfl⟩
  ·have g:=(List.getElem?_eq_some_iff.1 c).1
   have t:2≤sh.length:=by
    match sh,b,g with
    |[],_,h=>simp at h
    |[q],b,_=>exact absurd ⟨q,rfl⟩ b
    |_::_::_,_,_=>simp
   obtain⟨i,rfl⟩:=KM m t;have e:qF sh (.agg i) off v=.agg (i.set off v):=by
    match sh,b with
    |[],_=>rfl
    |[q],b=>exact absurd ⟨q,rfl⟩ b
    |_::_::_,_=>rfl
   rw[e];unfold aJ at f;obtain⟨r,rfl,f⟩:=f;refine⟨vY a sh i off c m,.agg (r.set off u).toArray,?_,by simp[Value.cells]⟩;unfold aJ;exact⟨_,rfl,Ag j i r off f⟩
theorem CB {G:aI} {sh:List Kd} {v:V} {u:Value} {off:Nat} (d:Ce sh off v=true) (a:off<sh.length) (f:aJ G v u): ∀(xs:af) (l:List Value) (i:Nat),bF G sh xs l→i<xs.length→bF G sh (xs.set i (qF sh (xs.getD i .any) off v)) (l.set (i*sh.length+off) u)
 |[],_,_,_,h=>by simp at h
 |y::xs,l,i,h,k=>by
  unfold bF at h;obtain⟨c,⟨m,b,g⟩,e⟩:=h
  cases i with
  |zero=>
   obtain⟨n,z,j,h3⟩:=S8 d c b f;show bF G sh (qF sh y off v::xs) (l.set (0*sh.length+off) u);rw[ZL,Fh];unfold bF;refine⟨n,⟨z,j,?_⟩,?_⟩
   ·rw[XQ,g,h3]
   ·rw[List.drop_set_of_lt a];exact e
  |succ i=>
   show bF G sh (y::xs.set i (qF sh (xs.getD i .any) off v)) (l.set ((i+1)*sh.length+off) u);unfold bF;have o:(i+1)*sh.length+off=sh.length+(i*sh.length+off):=by rw[Nat.succ_mul];omega
   refine⟨c,⟨m,b,?_⟩,?_⟩
   ·rw[List.take_set_of_le (by omega)];exact g
   ·have:(l.set ((i+1)*sh.length+off) u).drop sh.length=(l.drop sh.length).set (i*sh.length+off) u:=by
     rw[List.drop_set,if_neg (by omega),show(i+1)*sh.length+off-sh.length=i*sh.length+off by omega]
    rw[this];exact CB d a f xs _ i e (by simpa using k)
theorem EI {t:TypeId} {a x:Operand} {L e:Nat} {sh:List Kd} {xs:af} {i:Int} {off:Nat} {v:V} (ho:o.op=.store t a x) (hO:E9 B g w) (hE: ∀y,aB g (r y) (ac.eval y)) (ha:r a=.eptr L e sh xs i off) (hx:bM (r x)=some [v])
  (hs:bL P t=some 1) (f:Ce sh off v=true):Does P ac.eval o B w g bx (.zu L e sh (yo xs i (qF sh (bq xs i) off v))):=by
 have I:=hE a;rw[ha] at I;obtain⟨v0,b,h1,h2,h3,h4,F,h6⟩:=jV.1 I;have d:=f;unfold Ce at d;rw[bB] at d;obtain⟨q,c⟩:=d;unfold wQ at c
 cases J:sh[off]? with
 |none=>rw[J] at c;cases c
 |some k=>
 rw[J] at c;have c:fits k v=true:=c;have E:=(List.getElem?_eq_some_iff.1 J).1;have S:flatK k=true:=by
  rw[jJ] at q;exact q k (Bz J)
 rcases(hO.1 L v0 e sh.length h1).2 with D|⟨U,n,cap,m,l,D,hBb,hh,N,hcm,hcs,O,hl⟩
 ·rw[D] at F;cases F
 ·rw[D] at F
  simp only[Value.ownBlock,aF] at F;subst F;have M:=h2;rcases h2 with⟨_,C⟩|⟨b2,cap2,l2,j,Z,s,K,H⟩
  ·rw[C] at h4;simp at h4;omega
  ·rw[D] at j
   simp only[Value.slice.injEq,aF,Addr.mk.injEq] at j;obtain⟨⟨rfl,_,_⟩,G,hcc⟩:=j;have e9:=(O.known s).1;rw[e9] at s K H;have O:=s;obtain⟨T,Y⟩:=kZ hx (hE x);have A:(ac.eval x).cells.size=1:=by
    have:=T.1;simp only[yG] at this;simpa using this.symm
   obtain⟨u,hu⟩: ∃u,(ac.eval x).cells.toList=[u]:=List.length_eq_one_iff.1 (by rw[yG];exact A);rw[hu] at T Y;have Q:=Qc S c T.head;have h:i.toNat<xs.length:=by omega
   have z:i.toNat*sh.length+off<xs.length*sh.length:=by
    have:(i.toNat+1)*sh.length≤xs.length*sh.length:=J9 _ h;rw[Nat.succ_mul] at this;omega
   refine⟨v0,U,m,l,i.toNat*sh.length+off,u,xs,h1,by rw[D];rfl,hh,O,by rw[hl,G];exact z,M,by unfold yo;rw[Ol],q,?_,Y u (by simp),?_⟩
   ·unfold yo bq
    exact CB f E Q xs l i.toNat H h
   ·have R:i.toNat*sh.length+off+1≤m.size:=by
     have h4':n*sh.length≤cap*sh.length:=J9 _ N;rw[←G] at z;omega
    have p:=run_storeCells_at P U (i.toNat*sh.length+off) e [u] 0 m w hh (by simpa using R) Y;simp only[Ob] at p;obtain⟨ii,X,W⟩:=jr hs;have hp:ac.eval a=.pointer (some ⟨U,i.toNat*sh.length+off,none⟩):=h6;simp[execOp,ho,hp,Instr.storeAt,Instr.sureAddr,storeVar,Go.sizeOf,typeInfo,X,A,W,hu] at p⊢;rw[p];rfl
theorem fold_push: ∀(l:List Int) (a:ByteArray),l.foldl (fun r n=>r.push (UInt8.ofNat n.toNat)) a=⟨a.data++(l.map fun n=>UInt8.ofNat n.toNat).toArray⟩
 |[],a=>by simp
 |n::l,a=>by
  rw[List.foldl_cons,fold_push l];apply ByteArray.ext
  simp[ByteArray.push]
theorem vZ {G:aI}: ∀(xs:af) (cells:List Value),bF G [.int .u8] xs cells→cells.take xs.length=(xs.map fun x=>asInt (aN x 0)).map (Value.int .u8)
 |[],cells,_=>by simp
 |x::xs,cells,h=>by
  unfold bF at h;obtain⟨b,⟨u,g,f⟩,p⟩:=h;have m:=vZ xs _ p;have hx: ∃n,x=.int .u8 n∨x=.agg [.int .u8 n]:=by
   cases x with
   |int k n=>
    by_cases i:IntKind.u8=k
    ·subst i;exact⟨n,.inl rfl⟩
    ·have e:(IntKind.u8==k)=false:=by simpa using i
     simp only[eP,V.cells,bE,fits,av,e] at b
     cases b
   |agg j=>
    cases j with
    |nil=>simp[eP,V.cells,bE] at b
    |cons c j=>
     cases j with
     |nil=>
      cases c with
      |int k n=>
       by_cases i:IntKind.u8=k
       ·subst i;exact⟨n,.inr rfl⟩
       ·have e:(IntKind.u8==k)=false:=by simpa using i
        simp only[eP,V.cells,bE,fits,av,e] at b
        cases b
      |_=>simp[eP,V.cells,bE,fits,av] at b
     |cons d j=>exfalso;unfold eP V.cells at b;have:=gU _ _ b;simp at this
   |_=>simp[eP,V.cells,bE,fits,av] at b
  cases cells with
  |nil=>
   have:=lm b g;rw[←f] at this;simp at this
  |cons c cells=>
   simp only[Mc,acz,List.take_zero] at f;simp only[Mc,List.drop_succ_cons,Om] at m;obtain⟨n,rfl|rfl⟩:=hx
   ·unfold aJ at g
    subst g;simp[Value.cells] at f;subst f;simp[m,asInt,aN]
   ·unfold aJ at g
    obtain⟨a,rfl,hL⟩:=g;rw[dI] at hL;obtain⟨v,t,rfl,o,l⟩:=hL.cons_inv;have:=l.bH;subst this;unfold aJ at o;subst o;simp[Value.cells] at f;subst f;simp[m,asInt,aN]
end
section
variable {P:Program} {ρ:Operand→Value} {o:Oper} {B:Own} {w:World} {g:Gh} {bx:List (Nat×af)} {E:Env} {fr:af} {ac:Act}
theorem Br {t e g:TypeId} {n:Nat} {p q:Option Addr} {len cap c:Nat} (f:P.underlying t=some (.slice e)) (d:bL P e=some n) (a:len≤cap):
  (Builtin.append_ #[t,t] g #[.slice p len cap,.slice q 0 c]).run P w=.ok (.slice p len cap) w:=by
 have b:(Builtin.firstCells n 0 (.slice q 0 c)).run P w=.ok #[] w:=by
  cases q<;>simp[Builtin.firstCells,loadCells,loadCellsFrom]
 cases p<;>simp[Builtin.append_,run_underlying f,bW d,Builtin.lenOf,a,b,storeCells]
theorem fG {a old:Nat} {e:TypeId} (h:a≤33554432):grownCap w a old e≤maxLen:=grownCap_le_maxLen w a old e (by unfold maxLen;omega)
theorem Qd {sh:List Kd} {X:V} {ys:af} {u:Value} (c:aB g X u) (h:tailV sh X=some ys): ∃p cap,u=.slice p ys.length cap∧(ys=[]∨ ∃b off l,p=some ⟨b,off,none⟩∧g.G b=some l∧bF g.G sh ys (l.drop off)):=by
 unfold tailV at h;split at h
 ·rename_i e i n m
  have f:=au h;obtain⟨k,d⟩:=f;simp only[aF] at d;subst d;obtain rfl:=Kd.fD _ _ k;have a:=jq c;unfold aJ at a;obtain⟨p,cap,j,_,a⟩:=a;exact⟨p,cap,j,a⟩
 ·simp only[aF] at h
  subst h;rw[gL] at c;exact⟨none,0,c,.inl rfl⟩
 ·cases h
theorem ed (w:World) (o:Obj):(w.drew.alloc o).heap[w.heap.size]? =some o:=heap_alloc_new w.drew o
theorem dJ (w:World) (o:Obj):Below w.heap.size w (w.drew.alloc o):=by
 have h:=iM w.drew o;exact⟨h.os,h.tape,h.output,h.size,h.block⟩
theorem CF {w:World} {b e:Nat} {a:Array Value} {l:List Value} (g:w.heap[b]? =some (.cells a e (0,0))) (h:a.toList.take l.length=l) {j:Nat} {v:Value} (d:l[j]? =some v):w.cell? ((⟨b,0,none⟩:Addr).add j)=some v:=by
 rw[Addr.add_mid,Fh];refine j5 (G:=fun k=>if k=b then some l else none) (fun k m c=>?_) (if_pos rfl) d;have c:(if k=b then some l else none)=some m:=c;split at c
 ·rename_i f
  simp only[aF] at c;subst c;subst f;exact⟨a,e,(0,0),g,h⟩
 ·cases c
section
variable {s x:Operand} {t u:TypeId} {e:Nat} {sh:List Kd} {z:V} {ys:af} {xv:Value} {news:List Value}
theorem MS (h:ρ x=xv) (n:elemOf P t=some (e,sh,z))
  (d: ∀v w',(Builtin.append_ #[t,u] o.type #[ρ s,ρ x]).run P w=.ok v w'→(execOp ρ o).run P w=.ok (.value v) w') (B:sU g.G w) (q:aB g .nilsl (ρ s)) (k:ys≠[]) (a:news.length=ys.length*sh.length) (b:ys.length≤16777216)
  (Rn: ∀i c,P.info? e=some i→i.zero=some c→ys≠[]→ys.length*i.bytes≤281474976710656→ys.length≤16777216→(Builtin.append_ #[t,u] o.type #[.slice none 0 0,xv]).run P w=.ok (.slice (some ⟨w.heap.size,0,none⟩) ys.length (grownCap w ys.length 0 e)) (w.drew.alloc (.cells (news.toArray++Builtin.zeroCells c.cells (grownCap w ys.length 0 e-ys.length)) e))):
  ∃u w',(execOp ρ o).run P w=.ok (.value u) w'∧Below w.heap.size w w'∧rF g.G w' (w.heap.size≤ ·) e sh.length ys.length u news:=by
 obtain⟨F,i,c,A,D,_,_,E,y,m,j,p⟩:=gH n;rw[gL] at q;have r:=Rn i c A D k (by
  calc ys.length*i.bytes≤16777216*8388608:=Xo b j
   _≤281474976710656:=by decide) b
 have f:=grownCap_ge w ys.length 0 e;refine⟨_,_,d _ _ (by rw[q,h];exact r),dJ w _,y,a,.inr ⟨w.heap.size,_,_,rfl,iA _,ed w _,f,fG (by omega),?_,?_,?_⟩⟩
 ·simp only[Xl,Oi,size_zeroCells,m,a,←vo]
  congr 1;omega
 ·simp only[XL,Sd]
 ·cases C:g.G w.heap.size with
  |none=>rfl
  |some l=>exact absurd (dU B C) (Nat.lt_irrefl _)
theorem MU {L:Nat} {xs:af} {l:List Value} (J:ρ x=xv) (hel:elemOf P t=some (e,sh,z))
  (N: ∀v w',(Builtin.append_ #[t,u] o.type #[ρ s,ρ x]).run P w=.ok v w'→(execOp ρ o).run P w=.ok (.value v) w') (hG:sU g.G w) (hO:E9 B g w) (hB:B.n≤w.heap.size∧ ∀b,w.heap.size≤b→B.m b)
  (VB:g.O L=some (ρ s,e,sh.length)) (hC:g.C L=some l) (hzG:zG g sh xs (ρ s) l) (A:ys≠[]) (p:news.length=ys.length*sh.length) (Q:xs.length+ys.length≤16777216)
  (Rn: ∀i y,P.info? e=some i→i.zero=some y→ys≠[]→ys.length*i.bytes≤281474976710656→ys.length≤16777216→(Builtin.append_ #[t,u] o.type #[.slice none 0 0,xv]).run P w=.ok (.slice (some ⟨w.heap.size,0,none⟩) ys.length (grownCap w ys.length 0 e)) (w.drew.alloc (.cells (news.toArray++Builtin.zeroCells y.cells (grownCap w ys.length 0 e-ys.length)) e)))
  (Rr: ∀i,P.info? e=some i→i.size=sh.length→ys≠[]→ ∀b a c (d:Array Value),w.heap[b]? =some (.cells d e (0,0))→a+ys.length≤c→a*sh.length+news.length≤d.size→(Builtin.append_ #[t,u] o.type #[.slice (some ⟨b,0,none⟩) a c,xv]).run P w=.ok (.slice (some ⟨b,0,none⟩) (a+ys.length) c) (w.setRow b (d.toList.take (a*sh.length)++news++d.toList.drop (a*sh.length+news.length)).toArray))
  (Rg: ∀i y,P.info? e=some i→i.zero=some y→i.size=sh.length→ys≠[]→ ∀b a c (l:List Value),l.length=a*i.size→(∀j v,l[j]? =some v→w.cell? ((⟨b,0,none⟩:Addr).add j)=some v)→c<a+ys.length→a+ys.length≤16777216→Builtin.nextslicecap (a+ys.length) c*i.bytes≤281474976710656→
   (Builtin.append_ #[t,u] o.type #[.slice (some ⟨b,0,none⟩) a c,xv]).run P w=.ok (.slice (some ⟨w.heap.size,0,none⟩) (a+ys.length) (grownCap w (a+ys.length) c e)) (w.drew.alloc (.cells (l.toArray++news.toArray++Builtin.zeroCells y.cells (grownCap w (a+ys.length) c e-(a+ys.length))) e))):
  ∃u w',(execOp ρ o).run P w=.ok (.value u) w'∧w.grownBy w' (ρ s).ownBlock∧(∀b,(ρ s).ownBlock=some b→g.G b=none)∧rF g.G w' (B.ok L) e sh.length (xs.length+ys.length) u (l++news)∧(u.ownBlock=(ρ s).ownBlock∨ ∀b,u.ownBlock=some b→w.heap.size≤b):=by
 obtain⟨hu,i,y,hi,hz,_,_,I,h0,U,Y,F⟩:=gH hel;have hpos:0<ys.length:=List.length_pos_iff.2 A;have E:(xs.length+ys.length)*i.bytes≤140737488355328:=by
  calc (xs.length+ys.length)*i.bytes≤16777216*8388608:=Xo Q Y
   _≤140737488355328:=by decide
 have Z:g.G w.heap.size=none:=by
  cases hq:g.G w.heap.size with
  |none=>rfl
  |some l=>exact absurd (dU hG hq) (Nat.lt_irrefl _)
 obtain⟨r,hl,_⟩:=hzG;have D:(l++news).length=(xs.length+ys.length)*sh.length:=by rw[nY,hl,p,vo]
 rcases r with⟨r,hx0⟩|⟨b,cap,r⟩
 ·subst hx0
  have hl0:l=[]:=RN (by rw[hl];simp);subst hl0;simp only[o5,Fh,IA] at D Q⊢;have H:ys.length≤16777216:=Q;have R:=Rn i y hi hz A (by
   calc ys.length*i.bytes≤16777216*8388608:=Xo H Y
    _≤281474976710656:=by decide) H
  have K:=grownCap_ge w ys.length 0 e;have h:=dJ w (.cells (news.toArray++Builtin.zeroCells y.cells (grownCap w ys.length 0 e-ys.length)) e);refine⟨_,_,N _ _ (by rw[r,J];exact R),⟨h.os,h.tape,h.output,h.size,fun k q _=>h.block k q⟩,(fun b h=>by rw[r] at h;cases h),⟨h0,D,.inr ⟨w.heap.size,_,_,rfl,⟨hB.2 _ (iA _),fun _=>hB.1⟩,ed w _,K,fG (by omega),?_,?_,Z⟩⟩,.inr ?_⟩
  ·simp only[Xl,Oi,size_zeroCells,U,p,←vo]
   congr 1;omega
  ·simp only[XL,Sd]
  ·intro k q
   simp[Value.ownBlock] at q;omega
 ·rcases(hO.1 L _ _ _ VB).2 with T|⟨b',n,cap',d,l',M,hBb,hh,hn,hcm,hcs,W,hl'⟩
  ·rw[r] at T;cases T
  ·rw[r] at M
   simp only[Value.slice.injEq,aF,Addr.mk.injEq] at M;obtain⟨⟨rfl,_,_⟩,hn2,rfl⟩:=M;obtain⟨zq,e9,X⟩:=W.nested hC;subst e9;have S: ∀k,(ρ s).ownBlock=some k→g.G k=none:=fun k q=>by
    rw[r] at q;simp only[Value.ownBlock,aF] at q;rw[←q];exact zq
   by_cases f:xs.length+ys.length≤cap
   ·have F:xs.length*sh.length+news.length≤d.size:=by rw[p,hcs,←vo];exact J9 _ f
    have R:=Rr i hi I A b xs.length cap d hh f F;rw[←hl,X] at R;have hset:=setRow_heap w b d (l++news++d.toList.drop (l.length+news.length)).toArray e (0,0) hh;refine⟨.slice (some ⟨b,0,none⟩) (xs.length+ys.length) cap,w.setRow b (l++news++d.toList.drop (l.length+news.length)).toArray,N _ _ (by rw[r,J];exact R),⟨rfl,rfl,rfl,by simp,fun k _ q=>setRow_other w b k _ (fun ek=>q (by rw[r,ek];rfl))⟩,S,⟨h0,D,.inr ⟨b,cap,_,rfl,hBb,hset,f,hcm,?_,?_,zq⟩⟩,.inl (by rw[r];rfl)⟩
    ·simp only[Oi,nY,zk,yG]
     rw[hl];omega
    ·rw[Iz,←Iz l,Sd]
   ·have R:=Rg i y hi hz I A b xs.length cap l (by rw[hl,I]) (fun j v hj=>CF hh X hj) (by omega) (by omega) (growslice_fits (by omega) E)
    have K:=grownCap_ge w (xs.length+ys.length) cap e;have h:=dJ w (.cells (l.toArray++news.toArray++Builtin.zeroCells y.cells (grownCap w (xs.length+ys.length) cap e-(xs.length+ys.length))) e);refine⟨_,_,N _ _ (by rw[r,J];exact R),⟨h.os,h.tape,h.output,h.size,fun k q _=>h.block k q⟩,S,⟨h0,D,.inr ⟨w.heap.size,_,_,rfl,⟨hB.2 _ (iA _),fun _=>hB.1⟩,ed w _,K,fG (by omega),?_,?_,Z⟩⟩,.inr ?_⟩
    ·simp only[Xl,Oi,size_zeroCells,U,p,hl,←vo]
     congr 1;omega
    ·have e3:(l.toArray++news.toArray++Builtin.zeroCells y.cells (grownCap w (xs.length+ys.length) cap e-(xs.length+ys.length))).toList=l++news++(Builtin.zeroCells y.cells (grownCap w (xs.length+ys.length) cap e-(xs.length+ys.length))).toList:=by simp
     rw[e3,Sd]
    ·intro k q
     simp[Value.ownBlock] at q;omega
end
theorem uf: ∀(sh:List Kd) (i c d:Nat) (a:List Kd),Oc sh i=some (c,d,a)→i≤c∧sh[c-i]? =some (.sl d a)∧a.all flatK=true∧0<a.length∧ ∀j k,sh[j]? =some k→j≠c-i→flatK k=true
 |[],i,c,d,a,h=>by cases h
 |k::l,i,c,d,a,h=>by
  have b: ∀(p:flatK k=true) (h:Oc l (i+1)=some (c,d,a)),i≤c∧(k::l)[c-i]? =some (.sl d a)∧a.all flatK=true∧0<a.length∧ ∀j f,(k::l)[j]? =some f→j≠c-i→flatK f=true:=by
   intro p h;obtain⟨m,o,h3,s,q⟩:=uf l (i+1) c d a h;refine⟨by omega,by rw[show c-i=c-(i+1)+1 by omega];simpa using o,h3,s,fun j f n g=>?_⟩
   cases j with
   |zero=>simp only[BZ,aF] at n;rw[←n];exact p
   |succ j=>exact q j f (by simpa using n) (by omega)
  cases k with
  |sl e sh=>
   have h:(bif (sh.all flatK&&Nat.blt 0 sh.length)&&l.all flatK then some (i,e,sh) else none)=some (c,d,a):=h;obtain⟨m,o⟩:=au h;simp only[aF,bP] at o;obtain⟨rfl,rfl,rfl⟩:=o;rw[bB,bB,jJ (l:=l),zm] at m;refine⟨iA _,by rw[Xt];rfl,m.1.1,m.1.2,fun j f n g=>?_⟩
   cases j with
   |zero=>exact absurd (Xt i).symm g
   |succ j=>exact m.2 f (Bz (by simpa using n))
  |bool=>exact b rfl (au (show(bif flatK .bool then Oc l (i+1) else none)=some (c,d,a) from h)).2
  |int r=>exact b rfl (au (show(bif flatK (.int r) then Oc l (i+1) else none)=some (c,d,a) from h)).2
  |str=>exact b rfl (au (show(bif flatK .str then Oc l (i+1) else none)=some (c,d,a) from h)).2
  |oth=>cases h
theorem FY {G G':aI} {sh:List Kd} {c:Nat} {ys:af} {l:List Value} (h:Mj c ys=true) (hE:bF G sh ys l):bF G' sh ys l∧ys.length=1∧(c<sh.length→ ∀y,l[c]? =some y→y=.slice none 0 0):=by
 unfold Mj at h;split at h
 ·rename_i y
  rw[bB,jJ] at h;obtain⟨A,p⟩:=h;unfold bF at hE;obtain⟨s,⟨u,f,x⟩,_⟩:=hE;have hx:y≠.any:=fun e=>by rw[e,jy] at s;cases s
  have i:=(jT f hx).2;have g: ∀z∈y.cells,∀v,aJ G z v→aJ G' z v:=by
   intro z r v d;have:=A z r
   cases z with
   |bool b=>unfold aJ at d⊢;exact d
   |int k n=>unfold aJ at d⊢;exact d
   |str t=>unfold aJ at d⊢;exact d
   |nilsl=>unfold aJ at d⊢;exact d
   |_=>cases this
  have q:aJ G' y u:=by
   cases y with
   |agg E=>
    unfold aJ at f⊢;obtain⟨a,rfl,B⟩:=f;rw[dI] at B;exact⟨a,rfl,(dI _ _).2 (B.mono fun z r v d=>g z r v d)⟩
   |bool b=>unfold aJ at f⊢;exact f
   |int k n=>unfold aJ at f⊢;exact f
   |str t=>unfold aJ at f⊢;exact f
   |nilsl=>unfold aJ at f⊢;exact f
   |_=>exact absurd (A _ (by unfold V.cells;exact sS)) (by simp)
  refine⟨by unfold bF;exact⟨s,⟨u,q,x⟩,fZ⟩,rfl,fun D v d=>?_⟩;have j:u.cells.toList[c]? =some v:=by rw[←x,Iw,if_pos D];exact d
  have m:=i.1;have o:c<y.cells.length:=by rw[m];exact(List.getElem?_eq_some_iff.1 j).1
  have w:=i.2 c _ v (gQ o) j;have C:y.cells.getD c .any=y.cells[c]:=by rw[sQ,gQ o];rfl
  rw[C] at p;generalize y.cells[c]=z at p w
  cases z with
  |nilsl=>unfold aJ at w;exact w
  |_=>cases p
 ·cases h
theorem pX {s x:Operand} {S:V} {eff:Eff} {t u:TypeId} {e:Nat} {sh:List Kd} {z:V} {ys:af} {xv:Value} {news:List Value} (Q:ρ x=xv) (hel:elemOf P t=some (e,sh,z))
  (U: ∀v w',(Builtin.append_ #[t,u] o.type #[ρ s,ρ x]).run P w=.ok v w'→(execOp ρ o).run P w=.ok (.value v) w') (hG:sU g.G w) (hO:E9 B g w) (hB:B.n≤w.heap.size∧ ∀b,w.heap.size≤b→B.m b)
  (hs:aB g S (ρ s)) (hE0:ys≠[]→bF g.G sh ys news) (Y:ys≠[]→news.length=ys.length*sh.length)
  (R0:ys=[]→ ∀p len cap,len≤cap→(Builtin.append_ #[t,u] o.type #[.slice p len cap,xv]).run P w=.ok (.slice p len cap) w)
  (Rn: ∀i N,P.info? e=some i→i.zero=some N→ys≠[]→ys.length*i.bytes≤281474976710656→ys.length≤16777216→(Builtin.append_ #[t,u] o.type #[.slice none 0 0,xv]).run P w=.ok (.slice (some ⟨w.heap.size,0,none⟩) ys.length (grownCap w ys.length 0 e)) (w.drew.alloc (.cells (news.toArray++Builtin.zeroCells N.cells (grownCap w ys.length 0 e-ys.length)) e)))
  (Rr: ∀i,P.info? e=some i→i.size=sh.length→ys≠[]→ ∀b d r (f:Array Value),w.heap[b]? =some (.cells f e (0,0))→d+ys.length≤r→d*sh.length+news.length≤f.size→(Builtin.append_ #[t,u] o.type #[.slice (some ⟨b,0,none⟩) d r,xv]).run P w=.ok (.slice (some ⟨b,0,none⟩) (d+ys.length) r) (w.setRow b (f.toList.take (d*sh.length)++news++f.toList.drop (d*sh.length+news.length)).toArray))
  (Rg: ∀i N,P.info? e=some i→i.zero=some N→i.size=sh.length→ys≠[]→ ∀b d r (l:List Value),l.length=d*i.size→(∀j v,l[j]? =some v→w.cell? ((⟨b,0,none⟩:Addr).add j)=some v)→r<d+ys.length→d+ys.length≤16777216→Builtin.nextslicecap (d+ys.length) r*i.bytes≤281474976710656→
   (Builtin.append_ #[t,u] o.type #[.slice (some ⟨b,0,none⟩) d r,xv]).run P w=.ok (.slice (some ⟨w.heap.size,0,none⟩) (d+ys.length) (grownCap w (d+ys.length) r e)) (w.drew.alloc (.cells (l.toArray++news.toArray++Builtin.zeroCells N.cells (grownCap w (d+ys.length) r e-(d+ys.length))) e)))
  (h:(match S with
     | .nilsl=>some (oV ys,Eff.own e sh ys)
     | .sl e' sh' (some L) xs=>bif e==e'&&Kd.zn sh sh' then some (fO xs ys,Eff.app L e sh (bT xs ys)) else none
     |_=>none)=some (true,eff)):Does P ρ o B w g bx eff:=by
 obtain⟨hu,i,N,hi,hz,_,_,O,h0,hzc,hby,X⟩:=gH hel;have hsT:bL P e=some sh.length:=by unfold bL;rw[hi];simp[O]
 split at h
 ·
  simp only[aF,bP] at h;obtain⟨I,rfl⟩:=h;have I:ys.length≤16777216:=B5 I;rw[gL] at hs;by_cases y:ys=[]
  ·subst y
   refine⟨.slice none 0 0,w,g.G,U _ _ ?_,⟨Below.refl _ _,fun _ _=>rfl,hG⟩,h0,.inl ⟨rfl,rfl⟩⟩;rw[hs,Q];exact R0 rfl none 0 0 (iA _)
  ·have hE:=hE0 y
   have A:=Y y;have hpos:0<ys.length:=List.length_pos_iff.2 y;have hr:=Rn i N hi hz y (by
    calc ys.length*i.bytes≤16777216*8388608:=Xo I hby
     _≤281474976710656:=by decide) I
   have hge:=grownCap_ge w ys.length 0 e;have hap:=kX (e:=e) (sh:=sh) (xs:=ys) (cap:=grownCap w ys.length 0 e) (c:=news.toArray++Builtin.zeroCells N.cells (grownCap w ys.length 0 e-ys.length)) (w':=w.drew.alloc (.cells (news.toArray++Builtin.zeroCells N.cells (grownCap w ys.length 0 e-ys.length)) e)) hG
    (dJ w _) (ed w _) h0 hge (fG (by omega)) (by
     simp only[Xl,Oi,size_zeroCells,hzc,A,←vo];congr 1;omega) (by
     simp only[XL,←A,Sd];exact hE)
   obtain⟨G',hN,hF⟩:=hap;exact⟨_,_,G',U _ _ (by rw[hs,Q];exact hr),hN,hF⟩
 ·
  rename_i e' sh' L xs;have hh:=au h;clear h;obtain⟨hc2,h⟩:=hh;simp only[aF,bP] at h;obtain⟨I,rfl⟩:=h;have I:xs.length+ys.length≤16777216:=B5 I;simp only[bB,fT] at hc2;obtain⟨rfl,hsh⟩:=hc2;obtain rfl:=Kd.fD _ _ hsh;obtain⟨VB,hown⟩:=hs;have hbytes:(xs.length+ys.length)*i.bytes≤140737488355328:=by
   calc (xs.length+ys.length)*i.bytes≤16777216*8388608:=Xo I hby
    _≤140737488355328:=by decide
  obtain⟨_,J⟩:=hO.1 L _ _ _ VB;have M: ∀(G':aI),G'=g.G→ys=[]→Does P ρ o B w g bx (.app L e sh (bT xs ys)):=by
   rintro G' rfl rfl;have hxe:bT xs []=xs:=by unfold bT;simp
   rw[hxe];have hlc: ∃p cap,ρ s=.slice p xs.length cap∧xs.length≤cap:=by
    rcases hown with⟨D,R⟩|⟨b,cap,l,D,E,_⟩
    ·exact⟨none,0,by rw[D,R];rfl,by rw[R];exact iA _⟩
    ·exact⟨_,cap,D,E⟩
   obtain⟨p,cap,D,E⟩:=hlc;refine⟨ρ s,ρ s,w,g.G,VB,U _ _ (by rw[D,Q];exact R0 rfl p _ cap E),⟨rfl,rfl,rfl,iA _,fun _ _ _=>rfl⟩,fun _ _ _=>rfl,.refl _,hG,⟨h0,?_⟩,.inl rfl⟩;rcases hown with⟨D,R⟩|⟨b,cap,l,D,E,zq,hl,hE⟩
   ·exact .inl ⟨D,R⟩
   ·rcases J with J|⟨b',n,K,f,l',C,T,hh,hn,hcm,hcs,hGb',hl'⟩
    ·rw[D] at J;cases J
    ·rw[D] at C
     simp only[Value.slice.injEq,aF,Addr.mk.injEq] at C;obtain⟨⟨rfl,_,_⟩,hn2,rfl⟩:=C;exact .inr ⟨b,cap,f,l,D,T,hh,E,hcm,hcs,zq,hl,hE⟩
  by_cases y:ys=[]
  ·exact M _ rfl y
  ·have hE2:=hE0 y
   have A:=Y y;have hpos:0<ys.length:=List.length_pos_iff.2 y;have F:(bT xs ys).length=xs.length+ys.length:=by unfold bT;simp
   rcases hown with⟨D,R⟩|⟨b,cap,l,D,E,zq,hl,hE⟩
   ·
    subst R;have hle':ys.length≤16777216:=by simpa using I
    have hr:=Rn i N hi hz y (by
     calc ys.length*i.bytes≤16777216*8388608:=Xo hle' hby
      _≤281474976710656:=by decide) hle'
    have hge:=grownCap_ge w ys.length 0 e;have hxe:bT [] ys=ys:=rfl;rw[hxe];obtain⟨G',hN,hF⟩:=kX (e:=e) (sh:=sh) (xs:=ys) (cap:=grownCap w ys.length 0 e) (c:=news.toArray++Builtin.zeroCells N.cells (grownCap w ys.length 0 e-ys.length)) (w':=w.drew.alloc (.cells (news.toArray++Builtin.zeroCells N.cells (grownCap w ys.length 0 e-ys.length)) e)) hG
     (dJ w _) (ed w _) h0 hge (fG (by omega)) (by
      simp only[Xl,Oi,size_zeroCells,hzc,A,←vo];congr 1;omega) (by
      simp only[XL,←A,Sd];exact hE2)
    obtain⟨W,Sk,XX⟩:=hN;refine⟨ρ s,_,_,G',VB,U _ _ (by rw[D,Q];exact hr),⟨W.os,W.tape,W.output,W.size,fun k q _=>W.block k q⟩,fun k q _=>Sk k q,fun k m q=>⟨m,by rw[Sk k (dU hG q)];exact q,IC _⟩,XX,⟨hF.1,?_⟩,.inr ?_⟩
    ·rcases hF.2 with hF|⟨b',K,f,l',C,T,Z⟩
     ·exact .inl hF
     ·exact .inr ⟨b',K,f,l',C,⟨hB.2 _ T,fun _=>zl hB.1 T⟩,Z⟩
    ·intro k q
     simp[Value.ownBlock] at q;omega
   ·rcases J with J|⟨b',n,K,f,l',C,T,hh,hn,hcm,hcs,hGb',hl'⟩
    ·rw[D] at J;cases J
    ·rw[D] at C
     simp only[Value.slice.injEq,aF,Addr.mk.injEq] at C;obtain⟨⟨rfl,_,_⟩,hn2,rfl⟩:=C;obtain⟨cur',e2,fr2,XY,htk⟩:=hG b l zq;rw[hh] at XY;simp only[aF,Obj.cells.injEq] at XY;obtain⟨rfl,_,_⟩:=XY;rw[hl] at htk;have U8: ∀G',jB g.G G'→bF G' sh (bT xs ys) (l++news):=fun G' hm=>pW xs ys l news (gy hm sh xs _ _ hE (IC _)) (gy hm sh ys _ _ hE2 (IC _)) hl
     have U9:(l++news).length=(bT xs ys).length*sh.length:=by rw[nY,hl,A,F,vo]
     by_cases H:xs.length+ys.length≤cap
     ·
      have X:xs.length*i.size+news.length≤f.size:=by rw[A,hcs,O,←vo];exact J9 _ H
      have hr:=Rr i hi O y b xs.length cap f hh H (by rw[O] at X;exact X);rw[htk] at hr;have hblt:b<w.heap.size:=(Array.getElem?_eq_some_iff.1 hh).1;have hset:=setRow_heap w b f (l++news++f.toList.drop (xs.length*sh.length+news.length)).toArray e (0,0) hh;have hmore:jB g.G (upd g.G b (l++news)):=by
       intro k m q;by_cases ek:k=b
       ·subst ek
        rw[zq] at q;simp only[aF] at q;subst q;exact⟨_,upd_same _ _ _,List.prefix_append _ _⟩
       ·exact⟨m,by rw[fE _ _ _ _ ek];exact q,IC _⟩
      refine⟨ρ s,_,_,upd g.G b (l++news),VB,U _ _ (by rw[D,Q];exact hr),?_,?_,hmore,?_,⟨h0,.inr ⟨b,cap,_,l++news,by rw[F],T,hset,by rw[F];exact H,hcm,?_,upd_same _ _ _,U9,U8 _ hmore⟩⟩,?_⟩
      ·exact⟨rfl,rfl,rfl,by simp,fun k _ q=>setRow_other w b k _ (fun ek=>q (by rw[D,ek];rfl))⟩
      ·intro k q hne2
       exact fE _ _ _ _ (fun ek=>hne2 (by rw[D,ek];rfl))
      ·intro k m q
       by_cases ek:k=b
       ·subst ek
        rw[upd_same] at q;simp only[aF] at q;subst q;exact⟨_,e,(0,0),hset,by rw[Iz,←Iz l,Sd]⟩
       ·rw[fE _ _ _ _ ek] at q
        obtain⟨c3,e3,f3,hc3,ht3⟩:=hG k m q;exact⟨c3,e3,f3,by rw[setRow_other w b k _ ek];exact hc3,ht3⟩
      ·simp only[Oi,nY,zk,yG]
       rw[hl];have h5:(xs.length+ys.length)*sh.length≤cap*sh.length:=J9 _ H;rw[vo] at h5;have e1:f.toList.length=f.size:=by simp
       omega
      ·refine .inl ?_
       rw[D];rfl
     ·
      have holds: ∀j v,l[j]? =some v→w.cell? ((⟨b,0,none⟩:Addr).add j)=some v:=by
       intro j v hjv;rw[Addr.add_mid,Fh];exact j5 hG zq hjv
      have hr:=Rg i N hi hz O y b xs.length cap l (by rw[hl,O]) holds (by omega) (by omega) (growslice_fits (by omega) hbytes);have hge:=grownCap_ge w (xs.length+ys.length) cap e;obtain⟨G',hN,hF⟩:=kX (e:=e) (sh:=sh) (xs:=bT xs ys) (cap:=grownCap w (xs.length+ys.length) cap e) (c:=l.toArray++news.toArray++Builtin.zeroCells N.cells (grownCap w (xs.length+ys.length) cap e-(xs.length+ys.length)))
       (w':=w.drew.alloc (.cells (l.toArray++news.toArray++Builtin.zeroCells N.cells (grownCap w (xs.length+ys.length) cap e-(xs.length+ys.length))) e)) hG (dJ w _) (ed w _) h0 (by rw[F];exact hge) (fG (by omega)) (by
        simp only[Xl,Oi,size_zeroCells,hzc,A,hl,←vo];congr 1;omega) (by
        simp only[XL,←U9,Sd];exact U8 _ (.refl _))
      obtain⟨W,Sk,XX⟩:=hN;refine⟨ρ s,_,_,G',VB,U _ _ (by rw[D,Q];exact hr),⟨W.os,W.tape,W.output,W.size,fun k q _=>W.block k q⟩,fun k q _=>Sk k q,fun k m q=>⟨m,by rw[Sk k (dU hG q)];exact q,IC _⟩,XX,⟨hF.1,?_⟩,.inr ?_⟩
      ·rcases hF.2 with⟨hF,_⟩|⟨b',K,cur',l',C,Ym,Z⟩
       ·cases hF
       ·rw[F] at C
        exact .inr ⟨b',K,cur',l',by rw[F];exact C,⟨hB.2 _ Ym,fun _=>zl hB.1 Ym⟩,Z⟩
      ·intro k q
       simp[Value.ownBlock] at q;omega
 ·cases h
theorem EJ {s x:Operand} {S:V} {eff:Eff} {t u:TypeId} {e:Nat} {sh:List Kd} {z:V} {ys:af} {U:Value} {news:List Value} (E:ys≠[]) (F:ρ x=U) (r:elemOf P t=some (e,sh,z))
  (I: ∀v w',(Builtin.append_ #[t,u] o.type #[ρ s,ρ x]).run P w=.ok v w'→(execOp ρ o).run P w=.ok (.value v) w') (hG:sU g.G w) (hO:E9 B g w) (hB:B.n≤w.heap.size∧ ∀b,w.heap.size≤b→B.m b)
  (hs:aB g S (ρ s)) (hE:bF g.G sh ys news) (k:news.length=ys.length*sh.length)
  (Rn: ∀i T,P.info? e=some i→i.zero=some T→ys≠[]→ys.length*i.bytes≤281474976710656→ys.length≤16777216→(Builtin.append_ #[t,u] o.type #[.slice none 0 0,U]).run P w=.ok (.slice (some ⟨w.heap.size,0,none⟩) ys.length (grownCap w ys.length 0 e)) (w.drew.alloc (.cells (news.toArray++Builtin.zeroCells T.cells (grownCap w ys.length 0 e-ys.length)) e)))
  (Rr: ∀i,P.info? e=some i→i.size=sh.length→ys≠[]→ ∀b a d (A:Array Value),w.heap[b]? =some (.cells A e (0,0))→a+ys.length≤d→a*sh.length+news.length≤A.size→(Builtin.append_ #[t,u] o.type #[.slice (some ⟨b,0,none⟩) a d,U]).run P w=.ok (.slice (some ⟨b,0,none⟩) (a+ys.length) d) (w.setRow b (A.toList.take (a*sh.length)++news++A.toList.drop (a*sh.length+news.length)).toArray))
  (Rg: ∀i T,P.info? e=some i→i.zero=some T→i.size=sh.length→ys≠[]→ ∀b a d (l:List Value),l.length=a*i.size→(∀j v,l[j]? =some v→w.cell? ((⟨b,0,none⟩:Addr).add j)=some v)→d<a+ys.length→a+ys.length≤16777216→Builtin.nextslicecap (a+ys.length) d*i.bytes≤281474976710656→
   (Builtin.append_ #[t,u] o.type #[.slice (some ⟨b,0,none⟩) a d,U]).run P w=.ok (.slice (some ⟨w.heap.size,0,none⟩) (a+ys.length) (grownCap w (a+ys.length) d e)) (w.drew.alloc (.cells (l.toArray++news.toArray++Builtin.zeroCells T.cells (grownCap w (a+ys.length) d e-(a+ys.length))) e)))
  (h:(match S with
     | .nilsl=>some (oV ys,BG e sh ys)
     | .sl X q (some L) xs=>bif e==X&&Kd.zn sh q then some (fO xs ys,Eff.app L e sh (bT xs ys)) else none
     | .slz L X q xs _ _ _ _ _ _=>match Oc sh 0 with
      |some (c,W,D)=>bif e==X&&Kd.zn sh q&&Mj c ys then some (fO xs ys,.appz L e sh (bT xs ys) (aQ xs) c W D) else none
      |none=>none
     |_=>none)=some (true,eff)):Does P ρ o B w g bx eff:=by
 have f:=fun h=>pX (S:=S) (eff:=eff) (bx:=bx) F r I hG hO hB hs (fun _=>hE) (fun _=>k) (fun h=>absurd h E) Rn Rr Rg h
 obtain⟨_,_,_,_,_,_,_,_,h0,_⟩:=gH r;split at h
 ·cases M:Oc sh 0 with
  |none=>
   have O:BG e sh ys=.own e sh ys:=by unfold BG;rw[M]
   rw[O] at h;exact f h
  |some p=>
   obtain⟨c,W,D⟩:=p;obtain⟨_,Q,_,H,_⟩:=uf _ _ _ _ _ M
   cases R:Mj c ys with
   |false=>
    have O:BG e sh ys=.own e sh ys:=by unfold BG;rw[M];simp only;rw[R];rfl
    rw[O] at h;exact f h
   |true=>
    have O:BG e sh ys=.ownz e sh ys c W D:=by unfold BG;rw[M];simp only;rw[R];rfl
    rw[O] at h;simp only[aF,bP] at h;obtain⟨J,rfl⟩:=h;obtain⟨k1,k2,k3⟩:=FY (G':=g.G) R hE;obtain⟨u,w',r1,r2,Z⟩:=MS F r I hG hs E k (B5 J) Rn;have K:c<sh.length:=by rw[UQ] at Q;exact(List.getElem?_eq_some_iff.1 Q).1
    exact⟨u,w',news,r1,r2,Z,hE,H,fun y Y=>k3 K y Y⟩
 ·exact f h
 ·rename_i L X q xs o2 i c' e2' sh2' ys'
  split at h
  ·rename_i c W D M
   obtain⟨hc,h9⟩:=au h;clear h;simp only[bB,fT] at hc;obtain⟨⟨rfl,hsh⟩,R⟩:=hc;obtain rfl:=Kd.fD _ _ hsh;simp only[aF,bP] at h9;obtain⟨J,rfl⟩:=h9;obtain⟨l,N,hC1,C,_⟩:=kF.1 hs;obtain⟨k1,k2,k3⟩:=FY (G':=g.G) R hE;obtain⟨_,Q,_,H,_⟩:=uf _ _ _ _ _ M;have K:c<sh.length:=by rw[UQ] at Q;exact(List.getElem?_eq_some_iff.1 Q).1
   obtain⟨u,w',r1,r2,Z,r4,r5⟩:=MU F r I hG hO hB N hC1 C E k (B5 J) Rn Rr Rg;have hlc:(bT xs ys).length=xs.length+ys.length:=by unfold bT;simp
   refine⟨ρ s,u,w',l++news,N,r1,r2,Z,by rw[hlc];exact r4,pW xs ys l news C.2.2 hE C.2.1,r5,H,fun y _ Y=>?_⟩;have e3:(aQ xs).toNat=xs.length:=by unfold aQ;omega
   rw[e3,←C.2.1,Zu (by omega),Nat.add_sub_cancel_left] at Y;exact k3 K y Y
  ·cases h
 ·cases h
theorem qV {G:aI}: ∀l:ah,bF G [.int .u8] (aC l) (Lib.strCells ⟨l.toArray⟩)
 |[]=>fZ
 |c::l=>by
  have a:=qV (G:=G) l;unfold Lib.strCells aC at a⊢;simp only[yJ] at a⊢;unfold bF;exact⟨rfl,⟨.int .u8 c.toNat,by unfold aJ;rfl,rfl⟩,a⟩
theorem EK {c:Call} {s x:Operand} {S X:V} {eff:Eff} (ho:o.op=.call c) (hc:c.callee=.builtin .append) (ha:c.args.toList=[s,x]) (hG:sU g.G w) (hO:E9 B g w) (hB:B.n≤w.heap.size∧ ∀b,w.heap.size≤b→B.m b)
  (hs:aB g S (ρ s)) (hx:aB g X (ρ x)) (h:Ed P c.argTypes.toList S X=some (true,eff)):Does P ρ o B w g bx eff:=by
 obtain⟨callee,args,argTypes⟩:=c;simp only at hc ha h;subst hc;obtain rfl:args= #[s,x]:=by rw[←Ff];simpa using ha
 unfold Ed at h;split at h
 ·rename_i t u L
  obtain rfl:argTypes= #[t,u]:=by rw[←Ff];simpa using L
  have key: ∀v w',(Builtin.append_ #[t,u] o.type #[ρ s,ρ x]).run P w=.ok v w'→(execOp ρ o).run P w=.ok (.value v) w':=by
   intro v w' Q;simp[execOp,ho,resolve,invoke,builtin,Q]
  split at h
  ·cases h
  ·rename_i e sh z R
   obtain⟨Q,i,zv,hi,hz,_,_,Y,h0,hzc,hby,hfit⟩:=gH R;have hsT:bL P e=some sh.length:=by unfold bL;rw[hi];simp[Y]
   cases L:t==u with
   |true=>
    rw[L,gY] at h;obtain rfl:t=u:=by simpa using L
    split at h
    ·cases h
    ·rename_i ys hty
     obtain⟨q,cY,T,M⟩:=Qd hx hty;have hnews:ys≠[]→ ∃b off l,q=some ⟨b,off,none⟩∧g.G b=some l∧bF g.G sh ys ((l.drop off).take (ys.length*sh.length))∧((l.drop off).take (ys.length*sh.length)).length=ys.length*sh.length∧
       (∀j v,((l.drop off).take (ys.length*sh.length))[j]? =some v→w.cell? ((⟨b,off,none⟩:Addr).add j)=some v)∧ ∀v∈(l.drop off).take (ys.length*sh.length),v.oneCell'=true:=by
      intro r;rcases M with M|⟨b,off,l,rfl,hl,hE⟩
      ·exact absurd M r
      ·obtain⟨k1,k2⟩:=rW _ _ hE
       refine⟨b,off,l,rfl,hl,k2,by rw[B6];omega,fun j v hv=>?_,FU _ _ hE⟩;rw[Addr.add_mid];rw[Iw] at hv;split at hv
       ·rw[IB] at hv;exact j5 hG hl hv
       ·cases hv
     by_cases r:ys=[]
     ·subst r
      refine pX (news:=[]) T R key hG hO hB hs (fun h=>absurd rfl h) (fun h=>absurd rfl h) (fun _ p len cap hle=>Br Q hsT hle) (fun _ _ _ _ h=>absurd rfl h) (fun _ _ _ h=>absurd rfl h) (fun _ _ _ _ _ h=>absurd rfl h) ?_;have e1:BG e sh []=.own e sh []:=by
       unfold BG;split
       ·rfl
       ·rfl
      rw[e1] at h;split at h
      ·exact h
      ·exact h
      ·split at h
       ·have:=(au h).1
        rw[bB] at this
        cases this.2
       ·cases h
      ·cases h
     ·obtain⟨b,off,l,rfl,hl,hE,I,F,hone⟩:=hnews r
      generalize hcells:(l.drop off).take (ys.length*sh.length)=news at*;have hpos:0<ys.length:=List.length_pos_iff.2 r;refine EJ (news:=news) r T R key hG hO hB hs hE I (fun K J a H _ D O=>?_) (fun K a C _ b' k f Z hb' E A=>?_) (fun K J a H C _ b' k f l' hl' N W O D=>?_) h
      ·exact run_append_nil (P:=P) w t o.type e K J Q a H ⟨b,off,none⟩ ys.length cY news (by
        rw[hi] at a;simp only[aF] at a;rw[I,←a,Y]) F hpos (by omega) D
      ·have:=run_append_room (P:=P) w t o.type e K Q a b' k f Z hb' ⟨b,off,none⟩ ys.length cY news (by rw[I,C]) F hone E (by rw[C];exact A)
       rw[C] at this;exact this
      ·exact run_append_grow (P:=P) w t o.type e K J Q a H ⟨b',0,none⟩ k f l' hl' N ⟨b,off,none⟩ ys.length cY news (by rw[I,C]) F W (by omega) D
   |false=>
    rw[L,fQ] at h;split at h
    ·rename_i l U _
     have T:=dS.1 hx;have hcl:(Lib.strCells ⟨l.toArray⟩).length=l.length:=by rw[Lib.strCells_length];simp[ByteArray.size]
     have d:(⟨l.toArray⟩:ByteArray).size=l.length:=by simp[ByteArray.size]
     have y:(aC l).length=l.length:=by simp[aC]
     have hE:bF g.G [.int .u8] (aC l) (Lib.strCells ⟨l.toArray⟩):=qV l;refine pX (news:=Lib.strCells ⟨l.toArray⟩) T R key hG hO hB hs (fun _=>hE) (fun _=>by rw[hcl,y];simp) (fun h0' p len cap hle=>?_) (fun K J a H r D O=>?_) (fun K a C r b' k f Z hb' E A=>?_) (fun K J a H C r b' k f l' hl' N W O D=>?_) h
     ·have hl0:l=[]:=by
       have:=congrArg List.length h0';rw[y] at this;exact RN this
      subst hl0;have hf: ∀w,(Builtin.firstCells 1 0 (.string ⟨#[]⟩)).run P w=.ok #[] w:=fun w=>by simp[Builtin.firstCells]
      have hsT1:bL P e=some 1:=hsT
      cases p<;>simp[Builtin.append_,run_underlying Q,run_underlying U,bW hsT1,Builtin.lenOf,hle,hf,storeCells,ByteArray.size]
     ·rw[y] at D O⊢
      have hne':l.length≠0:=fun e=>r (by rw[RN e];rfl)
      have hf:=Lib.run_firstCells_string (P:=P) w.drew 1 ⟨l.toArray⟩;rw[d] at hf;have h63': ¬(9223372036854775807<(l.length:Int)):=by omega
      have h48': ¬(281474976710656<Builtin.nextslicecap l.length 0*K.bytes):=by rw[nextslicecap_zero (by omega)];omega
      have hs1:K.size=1:=by
       rw[hi] at a;simp only[aF] at a;rw[←a,Y];rfl
      simp[Builtin.append_,run_underlying Q,run_underlying U,Go.sizeOf,typeInfo,zeroValue,a,H,hs1,Builtin.lenOf,hne',h63',h48',Question.forced,run_firstCells_none,hf,newRow,grownCap,d]
     ·have hs1:K.size=1:=C
      have:=Lib.run_append_room_string (P:=P) w t u o.type e K Q U a hs1 b' k f Z hb' ⟨l.toArray⟩ (by rw[d,←y];exact E) (by rw[d];rw[hcl] at A;simpa using A);rw[d] at this;rw[y,hcl];simpa using this
     ·have:=Lib.run_append_grow_string (P:=P) w t u o.type e K J Q U a H ⟨b',0,none⟩ k f l' hl' N ⟨l.toArray⟩ (by rw[d,←y];exact W) (by rw[d];rw[y] at O;omega) (by rw[d,←y];exact D)
      rw[d] at this;rw[y];exact this
    ·cases h
 ·cases h
end
section
variable {P:Program} {ρ:Operand→Value} {o:Oper} {B:Own} {w:World} {g:Gh} {bx:List (Nat×af)} {E:Env} {fr:af} {ac:Act} {r:Operand→V}
theorem Qe {G:aI} {sh:List Kd} {y v:V} {p u:Value} {off:Nat} (a:wQ sh off v=true) (m:v.cells=[v]) (l:u.cells= #[u]) (n:eP sh y=true) (f:aJ G y p) (t:aJ G v u):eP sh (qF sh y off v)=true∧ ∃z,aJ G (qF sh y off v) z∧p.cells.toList.set off u=z.cells.toList:=by
 unfold wQ at a
 cases c:sh[off]? with
 |none=>rw[c] at a;cases a
 |some k=>
  rw[c] at a;have a:fits k v=true:=a;have d:=lm n f;by_cases b: ∃q,sh=[q]
  ·obtain⟨q,rfl⟩:=b
   have x:off=0:=by
    have:=(List.getElem?_eq_some_iff.1 c).1;simpa using this
   subst x;have o:q=k:=by simpa using c
   subst o;obtain⟨s,j⟩: ∃s,p.cells.toList=[s]:=List.length_eq_one_iff.1 (by simpa using d);rw[j];refine⟨?_,u,t,by rw[l];rfl⟩;show bE [q] v.cells=true;rw[m];simp only[bE,a,av]
  ·have g:=(List.getElem?_eq_some_iff.1 c).1
   have w:2≤sh.length:=by
    match sh,b,g with
    |[],_,h=>simp at h
    |[q],b,_=>exact absurd ⟨q,rfl⟩ b
    |_::_::_,_,_=>simp
   obtain⟨i,rfl⟩:=KM n w;have e:qF sh (.agg i) off v=.agg (i.set off v):=by
    match sh,b with
    |[],_=>rfl
    |[q],b=>exact absurd ⟨q,rfl⟩ b
    |_::_::_,_=>rfl
   rw[e];unfold aJ at f;obtain⟨r,rfl,f⟩:=f;refine⟨vY a sh i off c n,.agg (r.set off u).toArray,?_,by simp[Value.cells]⟩;unfold aJ;exact⟨_,rfl,Ag t i r off f⟩
theorem AO {G:aI} {sh:List Kd} {v:V} {u:Value} {off:Nat} (f:wQ sh off v=true) (d:v.cells=[v]) (c:u.cells= #[u]) (a:off<sh.length) (j:aJ G v u): ∀(xs:af) (l:List Value) (i:Nat),bF G sh xs l→i<xs.length→bF G sh (xs.set i (qF sh (xs.getD i .any) off v)) (l.set (i*sh.length+off) u)
 |[],_,_,_,h=>by simp at h
 |y::xs,l,i,h,n=>by
  unfold bF at h;obtain⟨e,⟨o,b,k⟩,g⟩:=h
  cases i with
  |zero=>
   obtain⟨p,z,m,h3⟩:=Qe f d c e b j;show bF G sh (qF sh y off v::xs) (l.set (0*sh.length+off) u);rw[ZL,Fh];unfold bF;refine⟨p,⟨z,m,?_⟩,?_⟩
   ·rw[XQ,k,h3]
   ·rw[List.drop_set_of_lt a];exact g
  |succ i=>
   show bF G sh (y::xs.set i (qF sh (xs.getD i .any) off v)) (l.set ((i+1)*sh.length+off) u);unfold bF;have q:(i+1)*sh.length+off=sh.length+(i*sh.length+off):=by rw[Nat.succ_mul];omega
   refine⟨e,⟨o,b,?_⟩,?_⟩
   ·rw[List.take_set_of_le (by omega)];exact k
   ·have:(l.set ((i+1)*sh.length+off) u).drop sh.length=(l.drop sh.length).set (i*sh.length+off) u:=by
     rw[List.drop_set,if_neg (by omega),show(i+1)*sh.length+off-sh.length=i*sh.length+off by omega]
    rw[this];exact AO f d c a j xs _ i g (by simpa using n)
theorem wY {L off:Nat} {x:Int×Nat×Nat×List Kd×af}: ∀(d:af),vG L off d=some x→ ∃e sh xs,V.slz L e sh xs (some x.2.1) x.1 off x.2.2.1 x.2.2.2.1 x.2.2.2.2∈d∧off<sh.length
 |[],h=>by cases h
 |v::l,h=>by
  have next:vG L off l=some x→ ∃e sh xs,V.slz L e sh xs (some x.2.1) x.1 off x.2.2.1 x.2.2.2.1 x.2.2.2.2∈v::l∧off<sh.length:=fun h=>by
   obtain⟨e,sh,xs,g,f⟩:=wY l h;exact⟨e,sh,xs,vg _ g,f⟩
  cases v with
  |slz L' e sh xs o2 i c j b ys=>
   cases o2 with
   |none=>exact next h
   |some L2=>
    have h:(bif (L==L'&&c==off)&&Nat.blt off sh.length then some (i,L2,j,b,ys) else vG L off l)=some x:=h
    cases a:(L==L'&&c==off)&&Nat.blt off sh.length with
    |false=>rw[a] at h;exact next h
    |true=>
     rw[a,gY] at h;simp only[aF] at h;subst h;simp only[bB,fT,zm] at a;obtain⟨⟨rfl,rfl⟩,h3⟩:=a;exact⟨e,sh,xs,sS,h3⟩
  |_=>exact next h
theorem Ju {L off:Nat} {x:Int×Nat×Nat×List Kd×af} (h:Kn L off bx=some x): ∃k a e sh xs,aj bx k=some a∧V.slz L e sh xs (some x.2.1) x.1 off x.2.2.1 x.2.2.2.1 x.2.2.2.2∈a∧off<sh.length:=by
 unfold Kn at h;have b: ∀(l:List (Nat×af)),zJ bx L off l=some x→ ∃k a e sh xs,aj bx k=some a∧V.slz L e sh xs (some x.2.1) x.1 off x.2.2.1 x.2.2.2.1 x.2.2.2.2∈a∧off<sh.length:=by
  intro l;induction l with
  |nil=>intro h;cases h
  |cons p l d=>
   intro h;obtain⟨k,j⟩:=p;unfold zJ at h;split at h
   ·rename_i a c
    split at h
    ·rename_i y g
     simp only[aF] at h;subst h;obtain⟨e,sh,xs,i,f⟩:=wY a g;exact⟨k,a,e,sh,xs,c,i,f⟩
    ·exact d h
   ·exact d h
 exact b bx h
theorem wZ {L:Nat} {x:List Kd×af}: ∀(f:af),vH L f=some x→ ∃e o2 i c b a ys,V.slz L e x.1 x.2 o2 i c b a ys∈f
 |[],h=>by cases h
 |v::l,h=>by
  have next:vH L l=some x→ ∃e o2 i c b a ys,V.slz L e x.1 x.2 o2 i c b a ys∈v::l:=fun h=>by
   obtain⟨e,o2,i,c,b,a,ys,g⟩:=wZ l h;exact⟨e,o2,i,c,b,a,ys,vg _ g⟩
  cases v with
  |slz L' e sh xs o2 i c b a ys=>
   have h:(bif L==L' then some (sh,xs) else vH L l)=some x:=h
   cases d:L==L' with
   |false=>rw[d] at h;exact next h
   |true=>
    rw[d,gY] at h;simp only[aF] at h;subst h;rw[fT] at d;subst d;exact⟨e,o2,i,c,b,a,ys,sS⟩
  |_=>exact next h
theorem Jv {L:Nat} {x:List Kd×af} (h:Ko L bx=some x): ∃k b e o2 i c d a ys,aj bx k=some b∧V.slz L e x.1 x.2 o2 i c d a ys∈b:=by
 unfold Ko at h;have f: ∀(l:List (Nat×af)),zK bx L l=some x→ ∃k b e o2 i c d a ys,aj bx k=some b∧V.slz L e x.1 x.2 o2 i c d a ys∈b:=by
  intro l;induction l with
  |nil=>intro h;cases h
  |cons p l j=>
   intro h;obtain⟨k,o⟩:=p;unfold zK at h;split at h
   ·rename_i b g
    split at h
    ·rename_i y m
     simp only[aF] at h;subst h;obtain⟨e,o2,i,c,d,a,ys,n⟩:=wZ b m;exact⟨k,b,e,o2,i,c,d,a,ys,g,n⟩
    ·exact j h
   ·exact j h
 exact f bx h
theorem KN (hB:Oe P B g bx w) {k:Nat} {a:af} {x:V} (f:aj bx k=some a) (hx:x∈a): ∃v,aB g x v:=by
 obtain⟨b,c,e,_,_,_,d,_⟩:=hB.1 k a f;obtain⟨i,j⟩:=BD hx;obtain⟨v,_,h⟩:=d.get j;exact⟨v,h⟩
theorem OM (p:E9 B g w) {L e f b:Nat} {i:Value} {l:List Value} (u:g.O L=some (i,e,f)) (m:g.C L=some l) (c:i.ownBlock=some b): ∃a n cap,i=.slice (some ⟨b,0,none⟩) n cap∧n≤cap∧w.heap[b]? =some (.cells a e (0,0))∧a.toList.take l.length=l∧a.size=cap*f∧l.length=n*f∧g.G b=none∧B.ok L b:=by
 rcases(p.1 L i e f u).2 with h|⟨v,n,cap,a,x,h,k,o,s,_,j,d,hl⟩
 ·rw[h] at c;cases c
 ·rw[h] at c
  simp only[Value.ownBlock,aF] at c;subst c;obtain⟨r,t,q⟩:=d.nested m;subst t;exact⟨a,n,cap,h,s,o,q,j,hl,r,k⟩
theorem Hg {t:TypeId} {a:Operand} {L e F:Nat} {i:Int} {off:Nat} {x:Int×Nat×Nat×List Kd×af} (G:o.op=.load t a) (A:E9 B g w) (hB:Oe P B g bx w) (R:aB g (.epz L e F i off) (ρ a)) (E:Kn L off bx=some x) (d:bf P t=some false) (K:i=x.1):
  Does P ρ o B w g bx (.val (.sl x.2.2.1 x.2.2.2.1 (some x.2.1) x.2.2.2.2)):=by
 have Q:execOp ρ o=(do pure (.value (←Instr.loadAt t (ρ a)))):=by simp only[execOp,G]
 obtain⟨v0,b,l,m,j,h3,U,z,M⟩:=lN.1 R;obtain⟨k,W,X,sh,xs,r,N,T⟩:=Ju E;obtain⟨v,S⟩:=KN hB r N;obtain⟨Z,f,h,Y,J,H,C,y⟩:=kF.1 S;rw[m] at f;simp only[aF,bP] at f;obtain⟨rfl,rfl,rfl⟩:=f;rw[j] at h;simp only[aF] at h;subst h;subst K;obtain⟨D,n,cap,_,_,I,s,_⟩:=OM A m j z;have c:x.1.toNat*sh.length+off<l.length:=by omega
 have p:l[x.1.toNat*sh.length+off]? =some l[x.1.toNat*sh.length+off]:=gQ c;have O:=y _ h3 p;have q:=CF I s p;rw[Addr.add_mid,Fh] at q;refine aT Q (u:=J) ?_ ⟨H,C⟩;rw[M,←O];exact Ad d q
theorem EL {t:TypeId} {a y:Operand} {L e sz:Nat} {i:Int} {off:Nat} {sh:List Kd} {xs:af} {j:Nat} {f:List Kd} {L3:Nat} {ys:af} (ho:o.op=.store t a y) (hO:E9 B g w) (hB:Oe P B g bx w) (hE: ∀y,aB g (r y) (ac.eval y)) (ha:r a=.epz L e sz i off) (hx:r y=.sl j f (some L3) ys)
  (hf:Ko L bx=some (sh,xs)) (hs:bL P t=some 1) (M:sh.length=sz) {c A:Nat} {h:List Kd} (hz:Oc sh 0=some (c,A,h)) (hc:c=off) (X:j=A) (m:Kd.zn f h=true):
  Does P ac.eval o B w g bx (.zw L e sh (yo xs i (qF sh (bq xs i) off (.sl j f none ys))) i off L3 j f ys):=by
 subst hc;subst X;obtain⟨_,R,_⟩:=uf _ _ _ _ _ hz;rw[UQ] at R;have D:=(List.getElem?_eq_some_iff.1 R).1;have G:=hE a;rw[ha] at G;obtain⟨v0,b,l,T,J,h3,h4,h5,h6⟩:=lN.1 G;obtain⟨k,cs,e',o2,i',c',e2'',K,ys'',k1,k2⟩:=Jv hf;obtain⟨v,hv⟩:=KN hB k1 k2;obtain⟨l',S,O,x,_⟩:=kF.1 hv;rw[T] at S;simp only[aF,bP] at S;obtain⟨rfl,rfl,e9⟩:=S;rw[J] at O;simp only[aF] at O;subst O;have x:zG g sh xs v0 l:=x;subst M;have E:=hE y;rw[hx] at E;obtain⟨p1,p2⟩:=E;obtain⟨q,n,cap,hv0,hn,hh,ht,hcs,hln,_⟩:=OM hO T J h5;have Q:i.toNat*sh.length+c<l.length:=by omega
 have W:=lM (e:=j) (o:=none) p2;have d:(ac.eval y).cells= #[ac.eval y]∧(ac.eval y).oneCell'=true:=by
  unfold aJ at W;obtain⟨p,cp,hq,_⟩:=W;rw[hq];exact⟨rfl,rfl⟩
 have u:i.toNat<xs.length:=by
  have I:=x.2.1;rw[I] at h4;refine N9 fun Z=>?_
  have h9:=J9 sh.length Z;omega
 have C:wQ sh c (.sl j f none ys)=true:=by
  unfold wQ;rw[R];show(j==j&&Kd.zn h f)=true;have:=Kd.fD _ _ m;subst this;rw[m];simp
 refine⟨v0,b,q,l,ac.eval y,T,J,h5,hh,Q,d.2,⟨?_,by rw[Ol,x.2.1];unfold yo;rw[Ol],?_⟩,p1,p2,?_⟩
 ·rcases x.1 with⟨I,h9⟩|⟨b',cp,I⟩
  ·rw[h9] at u;simp at u
  ·exact .inr ⟨b',cp,by rw[I];unfold yo;rw[Ol]⟩
 ·unfold yo bq
  exact AO C rfl d.1 D W xs l i.toNat x.2.2 u
 ·have N:i.toNat*sh.length+c+1≤q.size:=by
   have h7:n*sh.length≤cap*sh.length:=J9 _ hn;omega
  have hcl:(ac.eval y).cells.toList=[ac.eval y]:=by rw[d.1]
  have s:=run_storeCells_at P b (i.toNat*sh.length+c) e [ac.eval y] 0 q w hh (by simpa using N) (by intro z H;rw[N7] at H;rw[H];exact d.2);simp only[Ob] at s;obtain⟨ii,Y,U⟩:=jr hs;have F:(ac.eval y).cells.size=1:=by rw[d.1];rfl
  simp[execOp,ho,h6,Instr.storeAt,Instr.sureAddr,storeVar,Go.sizeOf,typeInfo,Y,F,U,hcl] at s⊢;rw[s];rfl
theorem Jw {k:Nat} {v x:V} (h:Kq k v=some x): ∃n,Nat.blt n.toNat rA=true∧v=.fn BM [.int .i64 n,.box k 0]∧x=.int .i64 n:=by
 unfold Kq at h;split at h
 ·rename_i f n d
  obtain⟨b,a⟩:=au h;simp only[bB,fT] at b;obtain⟨⟨rfl,rfl⟩,c⟩:=b;simp only[aF] at a;exact⟨n,c,rfl,a.symm⟩
 ·cases h
theorem w9 {k:Nat}: ∀(vs xs:af),zL k vs=some xs→xs.length=vs.length∧ ∀(j:Nat) v x,vs[j]? =some v→xs[j]? =some x→Kq k v=some x
 |[],xs,h=>by
  simp only[zL,aF] at h;subst h;exact⟨rfl,fun j v x b=>by simp at b⟩
 |v::vs,xs,h=>by
  unfold zL at h;split at h
  ·rename_i x l hx hl
   simp only[aF] at h;subst h;obtain⟨e,d⟩:=w9 vs l hl;refine⟨by simp[e],fun j c f b a=>?_⟩
   cases j with
   |zero=>simp only[BZ,aF] at b a;rw[←b,←a];exact hx
   |succ j=>exact d j c f (by simpa using b) (by simpa using a)
  ·cases h
theorem Jy {t:TypeId} {b:Array (Nat×Operand)} {vs:af} (ho:o.op=.build t b) (hE: ∀y,aB g (r y) (ac.eval y))
  (h:VR P t (b.toList.map fun(i,x)=>(i,r x))=some vs):Does P ac.eval o B w g bx (.val (.fn AM vs)):=by
 have he:execOp ac.eval o=(do pure (.value (←Instr.build t (b.map fun(i,x)=>(i,ac.eval x))))):=by simp only[execOp,ho]
 unfold VR at h;split at h
 ·rename_i i n e hi hu
  split at h
  ·rename_i z m hz hs
   obtain⟨hc,K⟩:=au h;clear h;simp only[bB,fT] at hc;obtain⟨⟨⟨⟨rfl,hzs⟩,hnl⟩,Q⟩,M⟩:=hc;have Q:0<n:=by simpa[zm] using Q
   rw[vk,yG] at hnl;split at K
   ·rename_i i0 f0 k rest I
    split at K
    ·rename_i l hl
     simp only[aF] at K;subst K;obtain⟨R,l2⟩:=w9 _ _ hl;have Z:((b.toList.map fun(i,x)=>(i,r x)).map fun p=>p.2)=b.toList.map fun p=>r p.2:=by simp
     rw[Z] at R l2;have C:b.toList≠[]:=fun e=>by
      have:=congrArg List.length e;rw[yG,o5] at this;omega
     obtain⟨q,hq⟩: ∃q,b.toList[0]? =some q:=by
      cases S:b.toList with
      |nil=>exact absurd S C
      |cons q l=>exact⟨q,rfl⟩
     have d: ∀(j:Nat) (p:Nat×Operand),b.toList[j]? =some p→ ∃(n:Int) (D:Value),l[j]? =some (.int .i64 n)∧aX g (.box k 0) D∧ac.eval p.2=.func (.func n.toNat) #[D] #[]:=by
      intro j p A;have L:j<l.length:=by rw[R,vk];exact(List.getElem?_eq_some_iff.1 A).1
      have hb:=l2 j (r p.2) l[j] (by rw[qa,A];rfl) (gQ L);obtain⟨f,hf,hr,hx⟩:=Jw hb;have h5:=hE p.2;rw[hr] at h5;obtain⟨a,ha,T⟩:=h5;obtain⟨iv,t',rfl,s,H⟩:=T.cons_inv;obtain⟨D,t',rfl,J,H⟩:=H.cons_inv;obtain rfl:=H.bH;have s:iv=.int .i64 f:=by have s:aJ g.G (.int .i64 f) iv:=s;unfold aJ at s;exact s
      subst s;exact⟨f,D,by rw[gQ L,hx],J,ha⟩
     obtain⟨f1,D,_,O,_⟩:=d 0 q hq;have E: ∀c,aX g (.box k 0) c→c=D:=fun c h'=>by
      obtain⟨b1,e1,rfl⟩:=h';obtain⟨b2,U,rfl⟩:=O;rw[e1] at U;simp only[aF] at U;rw[U]
     have F:Instr.fill (fun i=>some (i*1,1)) z (b.toList.map fun p=>(p.1,ac.eval p.2))=some (b.toList.map fun p=>ac.eval p.2).toArray:=by
      rw[Af _ 0 z (fun j p I=>?_) (by rw[Fh,vk,yG];omega)]
      ·simp
      ·simp only[qa] at I
       cases A:b.toList[j]? with
       |none=>rw[A] at I;cases I
       |some q=>
        rw[A] at I;simp only[qJ,aF] at I;subst I;have h1:=vW _ 0 M j (q.1,r q.2) (by rw[qa,A];rfl);obtain⟨f,c,_,_,H⟩:=d j q A;exact⟨h1,by simp only;rw[H];rfl⟩
     have N:(b.toList.map fun p=>ac.eval p.2)=(l.map fun x=>match x with| .int _ n=>Value.int .i64 n|_=>undef).map (FK D):=by
      apply acJ
      intro j;rw[qa,qa,qa]
      cases A:b.toList[j]? with
      |none=>
       have:l.length≤j:=by rw[R,vk];exact List.getElem?_eq_none_iff.1 A
       rw[Xi this];rfl
      |some p=>
       obtain⟨f,c,J,H,h8⟩:=d j p A;rw[J];simp only[qJ];rw[h8,E c H];rfl
     refine aT he (u:=.agg (b.toList.map fun p=>ac.eval p.2).toArray) ?_ ⟨D::(l.map fun x=>match x with| .int _ n=>Value.int .i64 n|_=>undef),?_,.cons O ⟨by simp,fun j x v hx Y=>?_⟩⟩
     ·have W:(zeroValue t).run P w=.ok (.agg z) w:=by simp[zeroValue,typeInfo,hi,hz]
      have hpt:(b.map fun(i,x)=>(i,ac.eval x)).toList=b.toList.map fun p=>(p.1,ac.eval p.2):=by simp
      simp only[Instr.build,Sem.run_bind,W,Result.andThen_ok,run_underlying hu,bW hs,Value.cells,hpt,F,Sem.run_pure]
     ·rw[KI,N]
     ·have X:j<b.toList.length:=by
       have:=(List.getElem?_eq_some_iff.1 hx).1;rw[R,vk] at this;exact this
      obtain⟨f,c,J,_⟩:=d j _ (gQ X);rw[J] at hx;simp only[aF] at hx;subst hx;rw[qa,J] at Y;simp only[qJ,aF] at Y;subst Y;show aJ g.G _ _;unfold aJ;rfl
    ·cases K
   ·cases K
  ·cases h
 ·cases h
end
section
variable {P:Program} {ρ:Operand→Value} {o:Oper} {B:Own} {w:World} {g:Gh} {bx:List (Nat×af)} {E:Env} {fr:af} {ac:Act}
theorem AP {G:aI}: ∀(l:ah) (a:List Value),bF G [.int .u8] (aC l) ((l.map fun c=>Value.int .u8 (c.toNat:Int))++a)
 |[],a=>fZ
 |c::l,a=>by
  unfold aC;rw[yJ,yJ,Kb];unfold bF;refine⟨rfl,⟨.int .u8 (c.toNat:Int),by unfold aJ;rfl,rfl⟩,?_⟩;exact AP l a
theorem Jz {s m:TypeId} {x:Operand} {X:V} {eff:Eff} (Y:o.op=.convert s m x) (W:sU g.G w) (hx:aB g X (ρ x)) (h:OC P s m X=some (true,eff)):Does P ρ o B w g bx eff:=by
 have E:execOp ρ o=(do pure (.value (←convert s m (ρ x)))):=by simp only[execOp,Y]
 unfold OC at h;split at h
 ·rename_i k0 k k' n r q
  simp only[ok,aF,bP,je] at h;subst h;rw[bu] at hx;refine aT E (u:=.int k (gP k n)) ?_ (bu.2 rfl);rw[hx];simp[convert,run_underlying r,run_underlying q,Conv.intToInt,gP]
 ·rename_i l r q
  simp only[ok,aF,bP,je] at h;subst h;refine aT E (u:=ρ x) ?_ hx;rw[dS] at hx;rw[hx];simp[convert,run_underlying r,run_underlying q]
 ·rename_i e l r q
  split at h
  ·rename_i d
   simp only[aF,bP] at h;obtain⟨I,rfl⟩:=h;have I:l.length≤1152921504606846976:=B5 I;rw[dS] at hx;let cap:=grownCap w l.length 0 e
   let cells:Array Value:=((⟨l.toArray⟩:ByteArray).data.map fun b=>Value.int .u8 b.toNat)++Array.replicate (cap-l.length) (.int .u8 0)
   have L:l.length≤cap:=grownCap_ge w l.length 0 e;have i:cells.toList=(l.map fun c=>Value.int .u8 (c.toNat:Int))++List.replicate (cap-l.length) (.int .u8 0):=by
    simp[cells]
   have z:=ed w (.cells cells e);have t:(convert s m (ρ x)).run P w=.ok (.slice (some ⟨w.heap.size,0,none⟩) l.length cap) ((w.drew.alloc (.cells cells e)).freeze {block:=w.heap.size,off:=cells.size} 1):=by
    rw[hx];have K:(⟨l.toArray⟩:ByteArray).size=l.length:=qj l;have M:(markStringish ⟨w.heap.size,0,none⟩).run P (w.drew.alloc (.cells cells e))=.ok () ((w.drew.alloc (.cells cells e)).freeze {block:=w.heap.size,off:=cells.size} 1):=by
     have R:(w.drew.alloc (.cells cells e)).shape? w.heap.size=some (e,cells.size):=by unfold World.shape?;rw[z]
     simp only[markStringish,Sem.run_bind,run_shape,R,Result.andThen_ok];rfl
    have Q:(Conv.stringToBytes e ⟨l.toArray⟩).run P w=.ok (.slice (some ⟨w.heap.size,0,none⟩) l.length cap) ((w.drew.alloc (.cells cells e)).freeze {block:=w.heap.size,off:=cells.size} 1):=by
     unfold Conv.stringToBytes;rw[Sem.run_bind,run_choose,if_neg (by simp[Question.forced])];simp only[Result.andThen_ok,K];rw[Sem.run_bind];have hn:(newRow e (Array.map (fun(b:UInt8)=>Value.int .u8 b.toNat) (⟨l.toArray⟩:ByteArray).data++Array.replicate ((Question.appendCap l.length 0 e).cut (w.tape w.drawn (.appendCap l.length 0 e))-l.length) (.int .u8 0))).run P {w with drawn:=w.drawn+1}=.ok ⟨w.heap.size,0,none⟩ (w.drew.alloc (.cells cells e)):=by
      simp only[newRow,Sem.run_bind,run_newObj,Result.andThen_ok,Sem.run_pure];rfl
     rw[hn];simp only[Result.andThen_ok];rw[Sem.run_bind,M];rfl
    simp only[convert,Sem.run_bind,run_underlying r,run_underlying q,Result.andThen_ok,run_underlying d,Q]
   obtain⟨f,O⟩: ∃f:Obj→Obj,(w.drew.alloc (.cells cells e)).freeze {block:=w.heap.size,off:=cells.size} 1={w.drew.alloc (.cells cells e) with heap:=(w.drew.alloc (.cells cells e)).heap.modify w.heap.size f}∧ ∃fr,f (.cells cells e)=.cells cells e fr:=
    ⟨_,by unfold World.freeze;rw[if_neg (by decide)],_,rfl⟩
   obtain⟨O,fr,N⟩:=O;rw[O] at t;have hB:Below w.heap.size w {w.drew.alloc (.cells cells e) with heap:=(w.drew.alloc (.cells cells e)).heap.modify w.heap.size f}:=by
    have H:=dJ w (.cells cells e);refine⟨H.os,H.tape,H.output,?_,?_⟩
    ·show w.heap.size≤((w.drew.alloc (.cells cells e)).heap.modify w.heap.size f).size
     rw[Array.size_modify];exact H.size
    ·intro k hk
     show((w.drew.alloc (.cells cells e)).heap.modify w.heap.size f)[k]? =_;rw[ack,if_neg (by omega)];exact H.block k hk
   have hh:({w.drew.alloc (.cells cells e) with heap:=(w.drew.alloc (.cells cells e)).heap.modify w.heap.size f}:World).heap[w.heap.size]? =some (.cells cells e fr):=by
    show((w.drew.alloc (.cells cells e)).heap.modify w.heap.size f)[w.heap.size]? =_;rw[ack,if_pos rfl,z,qJ,N]
   have J:l.length≤cells.size:=by
    have:cells.toList.length=cells.size:=by simp
    rw[←this,i];simp
   refine⟨.slice (some ⟨w.heap.size,0,none⟩) l.length cap,_,upd g.G w.heap.size (cells.toList.take l.length),by rw[E];simp only[Sem.run_bind,t,Result.andThen_ok,Sem.run_pure],KJ W hB hh l.length J,?_⟩;unfold aJ;refine⟨some ⟨w.heap.size,0,none⟩,cap,by unfold aC;simp,by unfold aC;simpa using L,.inr ⟨w.heap.size,0,_,rfl,upd_same _ _ _,?_⟩⟩;have Z:cells.toList.take l.length=(l.map fun c=>Value.int .u8 (c.toNat:Int)):=by
    rw[i,List.take_append_of_le_length (by simp)];exact J8 (by simp)
   rw[Z,Om];have:=AP (G:=upd g.G w.heap.size (l.map fun c=>Value.int .u8 (c.toNat:Int))) l [];rwa [Oa] at this
  ·cases h
 ·rename_i e sh ow xs r q
  split at h
  ·rename_i d
   simp only[ok,aF,bP,je] at h;subst h;have C:=jq hx;unfold aJ at C;obtain⟨p,cap,A,U,C⟩:=C;refine aT E (u:=.string ⟨(eF xs).toArray⟩) ?_ (dS.2 rfl);rw[A];have e0: ∀y:Value,(convert s m y).run P w=(Conv.bytesToString y).run P w∨True:=fun _=> .inr trivial
   by_cases D:xs=[]
   ·subst D
    cases p with
    |none=>simp[convert,run_underlying r,run_underlying q,run_underlying d,Conv.bytesToString,eF];rfl
    |some a=>
     have hl:(loadCells a 0).run P w=.ok (([]:List Int).map (Value.int .u8)).toArray w:=by simp[loadCells,loadCellsFrom]
     have:=run_bytesToString w a 0 cap [] hl;simp only[o5];simp[convert,run_underlying r,run_underlying q,run_underlying d,this,eF];rfl
   ·rcases C with C|⟨b,off,l,rfl,S,hE⟩
    ·exact absurd C D
    ·have F:=vZ xs _ hE
     have hl:(loadCells ⟨b,off,none⟩ xs.length).run P w=.ok ((xs.map fun x=>asInt (aN x 0)).map (Value.int .u8)).toArray w:=by
      have:=run_loadCells_list (P:=P) w ⟨b,off,none⟩ ((xs.map fun x=>asInt (aN x 0)).map (Value.int .u8)) (fun j v A=>by
       rw[←F,Iw] at A;split at A
       ·rw[IB] at A
        rw[Addr.add_mid];exact j5 W S A
       ·cases A)
      simpa using this
     have T:=run_bytesToString w ⟨b,off,none⟩ xs.length cap _ hl;rw[fold_push] at T;simp[convert,run_underlying r,run_underlying q,run_underlying d,T,eF]
  ·cases h
 ·rename_i e r q
  split at h
  ·rename_i d
   simp only[ok,aF,bP,je] at h;subst h;rw[gL] at hx;refine aT E (u:=.string ⟨([]:ah).toArray⟩) ?_ (dS.2 rfl);rw[hx];simp[convert,run_underlying r,run_underlying q,run_underlying d,Conv.bytesToString];rfl
  ·cases h
 ·cases h
theorem qW (hE:oU E) {id:Nat} (b:iR E.P id=true) (args:Array Value):(callFunc id args).run E.P w=.ok (.enter id args) w:=by
 unfold iR at b;split at b
 ·rename_i fn c
  have a:fn.name≠ "runtime.NumGoroutine" :=by
   have:=Array.all_eq_true_iff_forall_mem.1 hE.names fn (XI c);have d:fn.body.isNone=false:=by cases f:fn.body with|none=>rw[f] at b;cases b|some _=>rfl
   rw[d] at this;simpa using this
  obtain⟨g,e⟩:=Option.isSome_iff_exists.1 b;simp[callFunc,c,a,e]
 ·cases b
theorem Hl {r:Operand→V} {f:Operand} {b:Array Operand} {c:Array TypeId} {n:Int} {p:af} {a:List Value} {eff:Eff} (q:o.op=.call ⟨.value f,b,c⟩) (hE:oU E) (i:ac.eval f=BI BM a) (m:PW (aX g) (.int .i64 n::p) a) (l:PW (aB g) (b.toList.map r) (b.toList.map ac.eval))
  (h:(match lG bx 0 (p++b.toList.map r) with
   |some (args,mb,ml)=>bif (iR E.P n.toNat&&Nat.blt n.toNat rA)&&lF mb ml then some (true,Eff.call n.toNat args mb ml) else none
   |none=>none)=some (true,eff)):Does E.P ac.eval o B w g bx eff:=by
 split at h
 ·rename_i args mb ml d
  have s:=au h;clear h;obtain⟨j,h⟩:=s;simp only[bB] at j;obtain⟨⟨j,v⟩,u⟩:=j;simp only[aF,bP,je] at h;subst h;obtain⟨iv,a,rfl,e,k⟩:=m.cons_inv;have e:iv=.int .i64 n:=by have e:aJ g.G (.int .i64 n) iv:=e;unfold aJ at e;exact e
  subst e;rw[KH] at i;refine⟨a++b.toList.map ac.eval,p++b.toList.map r,?_,(k.mono (S:=DL g) fun _ _ _=> .inr).append (l.mono (S:=DL g) fun _ _ _=> .inl),d,u⟩;have t:a.toArray++Array.map ac.eval b++ #[]=(a++b.toList.map ac.eval).toArray:=by rw[←Ff];simp
  simp only[execOp,q,resolve,Deferred.ofValue,i,invoke,Sem.run_bind,Sem.run_pure,Result.andThen_ok,qW hE j,t]
 ·cases h
theorem wh (hE:oU E) (hP:E.P=P) (hG:sU g.G w) (hO:E9 B g w) (hBx:Oe P B g bx w) (hB:B.n≤w.heap.size∧ ∀b,w.heap.size≤b→B.m b) {r:Operand→V} (D: ∀y,aB g (r y) (ac.eval y)) {eff:Eff} (h:ID P r bx o=some (true,eff)):Does P ac.eval o B w g bx eff:=by
 subst hP;have R: ∀{v:V} {u:Value},execOp ac.eval o=pure (.value u)→aB g v u→Does E.P ac.eval o B w g bx (.val v):=fun J N=>⟨_,by rw[J];rfl,N⟩
 unfold ID at h;simp only at h;split at h
 ·
  rename_i x A;simp only[ok,aF,bP,je] at h;subst h;exact R (by simp only[execOp,A]) (D x)
 ·
  rename_i x A;have hx:=D x;split at h
  ·rename_i C
   rw[C,gL] at hx;split at h
   ·rename_i e sh z hel
    simp only[aF,bP,je] at h;subst h;obtain⟨_,_,_,_,_,_,_,_,h0,_⟩:=gH hel;exact⟨.slice none 0 0,w,g.G,by simp only[execOp,A,hx];rfl,⟨Below.refl _ _,fun _ _=>rfl,hG⟩,h0,.inl ⟨rfl,rfl⟩⟩
   ·simp only[ok,aF,bP,je] at h
    subst h;exact R (by simp only[execOp,A]) (gL.2 hx)
  ·simp only[ok,aF,bP,je] at h
   subst h;exact R (by simp only[execOp,A]) hx
 ·
  rename_i c x y A;have hc:=D c;split at h
  ·rename_i b hb
   simp only[aF,bP,je] at h;subst h;rw[hb,bn] at hc;refine⟨if b then ac.eval x else ac.eval y,?_,?_⟩
   ·simp only[execOp,A,hc,Go.asBool,Sem.run_bind,Sem.run_pure,Result.andThen_ok]
   ·cases b
    ·exact D y
    ·exact D x
  ·cases h
 ·
  rename_i t A;split at h
  ·rename_i i M
   split at h
   ·rename_i z hz
    split at h
    ·rename_i cs hcs
     obtain⟨h,Y⟩:=I1 h;simp only[aF,bP,je] at h;subst h;exact He A M hz hcs Y
    ·cases h
   ·cases h
  ·cases h
 ·
  rename_i t x A;split at h
  ·rename_i cs hcs
   obtain⟨h,Y⟩:=I1 h;simp only[aF,bP,je] at h;subst h;exact MR A D hcs Y
  ·cases h
 ·rename_i t parts A
  split at h
  ·rename_i vs hb
   simp only[ok,aF,bP,je] at h;subst h;exact Jq A D hb
  ·split at h
   ·rename_i vs hb
    simp only[ok,aF,bP,je] at h;subst h;exact Jy A D hb
   ·exact G9 A D h
 ·rename_i t n parts A
  exact wL A hG D h
 ·
  rename_i t a A;have Q:=D a;split at h
  ·rename_i sh x off C
   rw[C] at Q;exact wX A hG Q h
  ·rename_i L e sh xs i off C
   rw[C] at Q;exact wX A hG (MK Q) h
  ·rename_i L e sz i off C
   rw[C] at Q;split at h
   ·rename_i j L2 e2 Oo ys hf T
    simp only[aF,bP] at h;obtain⟨hc,rfl⟩:=h;have hij:i=j:=by unfold ieq at hc;simpa using hc
    exact Hg A hO hBx Q hf T hij
   ·cases h
  ·rename_i k off C
   rw[C] at Q;split at h
   ·rename_i cells hl
    obtain⟨l1,l2⟩:=EF A hBx Q hl;split at h
    ·rename_i n T hs
     split at h
     ·rename_i cs hcs
      simp only[ok,aF,bP,je] at h;subst h;exact l1 n cs T hs hcs
     ·cases h
    ·rename_i T
     have O:=au h;obtain⟨J,N⟩:=O;simp only[ok,aF,bP,je] at N;subst N;exact l2 T (by simpa[zm] using J)
    ·cases h
   ·cases h
  ·cases h
 ·
  rename_i t a x A;split at h
  ·rename_i k off vs C H
   split at h
   ·rename_i cells n hl hs
    have O:=au h;obtain⟨J,N⟩:=O;simp only[aF,bP,je] at N;subst N;simp only[bB,fT] at J;exact Hf A hBx D C H hl hs J.1 (R6 J.2)
   ·cases h
  ·rename_i L e sh xs i off v C H
   split at h
   ·rename_i T hs
    have O:=au h;obtain⟨J,N⟩:=O;simp only[aF,bP,je] at N;subst N;exact EI A hO D C H hs J
   ·cases h
  ·rename_i L e sz i off e2 Oo L3 ys C H
   split at h
   ·rename_i sh xs hf T hs
    have O:=au h;clear h;obtain⟨J,N⟩:=O;simp only[aF,bP,je] at N;subst N;rw[bB,fT] at J;obtain⟨J,h3⟩:=J;split at h3
    ·rename_i c e2' sh2' hz
     simp only[bB,fT] at h3;obtain⟨⟨h4,h5⟩,h6⟩:=h3;have hx:r x=.sl e2 Oo (some L3) ys:=by
      cases Y:r x with
      |sl e' s' o' x'=>rw[Y] at H;simpa[bM] using H
      |fn f c=>
       exfalso;rw[Y] at H;simp only[bM] at H
       cases S:Nat.blt f rA with
       |true=>rw[S,gY] at H;simp at H
       |false=>
        rw[S,fQ] at H;obtain⟨_,h8⟩:=au H
        cases c with
        |nil=>cases h8
        |cons p l=>
         obtain⟨W,h9⟩:=au h8;simp only[aF] at h9;match l,h9,W with
         |[],h9,_=>simp at h9
         |[y],h9,W=>
          simp only[Me,List.all_nil,ac1] at W
          cases y with
          |int k n=>simp[bmV] at h9
          |_=>cases W
         |_::_::_,h9,_=>simp at h9
      |agg cs=>
       exfalso;rw[Y] at H;simp only[bM] at H;obtain⟨h8,h9⟩:=au H;simp only[aF] at h9;subst h9;simp[V.one] at h8
      |_=>rw[Y] at H;first|(cases H;done)|(simp[bM] at H)
     exact EL A hO hBx D C hx hf hs J hz h4 h5 h6
    ·cases h3
   ·cases h
  ·cases h
 ·
  rename_i x A;have hx:=D x;split at h
  ·rename_i L e sh xs i off C
   simp only[ok,aF,bP,je] at h;subst h;rw[C] at hx;obtain⟨v0,b,_,_,_,_,_,U⟩:=jV.1 hx;exact R (u:=ac.eval x) (by simp only[execOp,A,U]) hx
  ·rename_i L e sz i off C
   simp only[ok,aF,bP,je] at h;subst h;rw[C] at hx;obtain⟨v0,b,l,_,_,_,_,_,U⟩:=lN.1 hx;exact R (u:=ac.eval x) (by simp only[execOp,A,U]) hx
  ·rename_i sh v off C
   simp only[ok,aF,bP,je] at h;subst h;rw[C] at hx;obtain⟨b,q,l,U,_⟩:=gz.1 hx;exact R (u:=ac.eval x) (by simp only[execOp,A,U]) hx
  ·rename_i k off C
   simp only[ok,aF,bP,je] at h;subst h;rw[C] at hx;obtain⟨b,_,U⟩:=cu.1 hx;exact R (u:=ac.eval x) (by simp only[execOp,A,U]) hx
  ·cases h
 ·
  rename_i op t x y yt A;split at h
  ·rename_i e1 e2
   have hx:=D x;have hy:=D y;rw[e1] at hx;rw[e2] at hy;exact AL A hx hy h
  ·rename_i u v e1 e2
   have hx:=D x;have hy:=D y;rw[e1] at hx;rw[e2] at hy;exact AL A hx hy h
  refine Jp A (D x) (D y) h ?_;clear h;intro eff h;have O:=au h;clear h;obtain⟨J,h⟩:=O;unfold VM at h;split at h
  ·rename_i c v H
   simp only[aF,bP] at h;obtain⟨rfl,rfl⟩:=h;refine G4 A (D x) (D y) H ?_;intro a b Q _;rw[Q] at J;unfold IU at J;split at J
   ·split at J
    ·assumption
    ·cases J
   ·rename_i hne;exact absurd rfl (hne _)
  ·cases h
 ·
  rename_i t x A;split at h
  ·cases h
  ·rename_i d v hne hu C
   simp only[ok,aF,bP,je] at h;subst h;exact yB A hu (fun ms e=>hne ms e) C (D x)
  ·cases h
 ·
  rename_i x xt t A;split at h
  ·cases h
  ·rename_i d z hne hu hz
   have hx:=D x;obtain⟨k1,k2,k3⟩:=wK (B:=B) (bx:=bx) (g:=g) (w:=w) (ρ:=ac.eval) A hu (fun ms e=>hne ms e) hz hx;split at h
   ·rename_i C
    simp only[ok,aF,bP,je] at h;subst h;exact k1 C
   ·rename_i u v C
    cases hut:u==t with
    |true=>
     rw[hut,gY] at h;have e:u=t:=by simpa using hut
     have O:=au h;clear h;obtain⟨H,h⟩:=O;simp only[ok,aF,bP,je] at h;subst h;exact k3 u _ C e (by cases v<;>first|rfl|cases H)
    |false=>
     rw[hut,fQ] at h;have e:u≠t:=by simpa using hut
     simp only[ok,aF,bP,je] at h;subst h;exact k2 u v C e
   ·cases h
  ·cases h
 ·
  rename_i x A;have hx:=D x;split at h
  ·rename_i t v C
   simp only[aF,bP,je] at h;subst h;rw[C] at hx;obtain⟨u,hu,hru⟩:=iJ.1 hx;refine⟨.iface t u,?_,by unfold aJ;exact⟨u,rfl,hru⟩⟩;simp only[execOp,A,hu,Instr.panic,Sem.run_bind,run_goPanic];rfl
  ·cases h
 ·
  rename_i op t x A;have hx:=D x;split at h
  ·rename_i b C
   simp only[ok,aF,bP,je] at h;subst h;rw[C,bn] at hx;exact⟨.bool (aS b),by simp only[execOp,A,hx,Op.unary,Sem.run_bind,Sem.run_pure,Result.andThen_ok];rfl,bn.2 rfl⟩
  ·rename_i k n C
   simp only[ok,aF,bP,je] at h;subst h;rw[C,bu] at hx;exact⟨.int k (bD k 0 n),by simp only[execOp,A,hx,Op.unary,Op.intArith,Sem.run_bind,Sem.run_pure,Result.andThen_ok];rfl,bu.2 rfl⟩
  ·cases h
 ·rename_i src dst x A
  exact Jz A hG (D x) h
 ·
  rename_i f first K A
  cases hfc:(K.size==0&&Nat.blt 0 first.size&&Nat.blt f rA)&&(first.toList.map r).all V.single with
  |true=>
   rw[hfc,gY] at h;simp only[ok,aF,bP,je] at h;subst h;simp only[bB,fT] at hfc;obtain⟨⟨⟨hc0,hf0⟩,S⟩,hsg⟩:=hfc;have hf0:0<first.size:=by simpa[zm] using hf0
   have hc0:K= #[]:=Array.eq_empty_of_size_eq_zero hc0;subst hc0;refine⟨.func (.func f) (first.map ac.eval) #[],by simp[execOp,A,Instr.makeFunc],?_⟩;refine⟨.int .i64 (f:Int)::first.toList.map ac.eval,by rw[KH,←XP];rfl,.cons (show aJ g.G _ _ by unfold aJ;rfl) ⟨by simp,fun i x v hx H=>?_⟩⟩;rw[jJ] at hsg;have hxs:=hsg x (Bz hx);simp only[qa] at hx H
   cases M:first.toList[i]? with
   |none=>rw[M] at hx;cases hx
   |some y=>
    rw[M] at hx H;simp only[qJ,aF] at hx H;subst hx;subst H;exact aL hxs (D y)
  |false=>
  rw[hfc,fQ] at h;have O:=au h;obtain⟨J,N⟩:=O;simp only[ok,aF,bP,je] at N;subst N;rw[bB,bB] at J;obtain⟨⟨J,S⟩,hsg⟩:=J;have hf0:first= #[]:=by
   have:first.size=0:=by simpa using J
   exact Array.eq_empty_of_size_eq_zero this
  subst hf0;refine⟨.func (.func f) #[] (K.map ac.eval),by simp[execOp,A,Instr.makeFunc],?_⟩;refine⟨K.toList.map ac.eval,by rw[tL S,←XP],by simp,fun i x v hx H=>?_⟩;rw[jJ] at hsg;have hxs:=hsg x (Bz hx);simp only[qa] at hx H
  cases M:K.toList[i]? with
  |none=>rw[M] at hx;cases hx
  |some y=>
   rw[M] at hx H;simp only[qJ,aF] at hx H;subst hx;subst H;exact aL hxs (D y)
 ·rename_i t l c A
  exact G7 A hG (D l) (D c) h
 ·rename_i t x lo M A
  exact G6 A D h
 ·
  rename_i t x f A;split at h
  ·rename_i fd hf
   split at h
   ·cases h
   ·rename_i n hn hs
    have hx:=D x;have hn0:n≠0:=fun e=>hn e
    split at h
    ·rename_i sh v off C
     simp only[ok,aF,bP,je] at h;subst h;rw[C] at hx;obtain⟨b,q,l,U,hG2,hfit,u,hu,hc⟩:=gz.1 hx;exact⟨.pointer (some ⟨b,q+off+fd.offset,none⟩),by simp only[execOp,A,U,Sem.run_bind,ko hf hs hn0,Result.andThen_ok,Sem.run_pure],gz.2 ⟨b,q,l,by rw[ZJ],hG2,hfit,u,hu,hc⟩⟩
    ·rename_i L e sh xs i off C
     simp only[ok,aF,bP,je] at h;subst h;rw[C] at hx;obtain⟨v0,b,q1,q2,q3,q4,q5,U⟩:=jV.1 hx;exact⟨.pointer (some ⟨b,i.toNat*sh.length+off+fd.offset,none⟩),by simp only[execOp,A,U,Sem.run_bind,ko hf hs hn0,Result.andThen_ok,Sem.run_pure],jV.2 ⟨v0,b,q1,q2,q3,q4,q5,by rw[ZJ]⟩⟩
    ·rename_i L e sz i off C
     simp only[ok,aF,bP,je] at h;subst h;rw[C] at hx;obtain⟨v0,b,l,q1,q2,q3,q4,q5,U⟩:=lN.1 hx;exact⟨.pointer (some ⟨b,i.toNat*sz+off+fd.offset,none⟩),by simp only[execOp,A,U,Sem.run_bind,ko hf hs hn0,Result.andThen_ok,Sem.run_pure],lN.2 ⟨v0,b,l,q1,q2,q3,q4,q5,by rw[ZJ]⟩⟩
    ·rename_i k off C
     simp only[ok,aF,bP,je] at h;subst h;rw[C] at hx;obtain⟨b,hb,U⟩:=cu.1 hx;exact⟨.pointer (some ⟨b,off+fd.offset,none⟩),by simp only[execOp,A,U,Sem.run_bind,ko hf hs hn0,Result.andThen_ok,Sem.run_pure],cu.2 ⟨b,hb,rfl⟩⟩
    ·cases h
   ·cases h
  ·cases h
 ·
  rename_i t x f A;split at h
  ·rename_i fd cs hf C
   have hx:=D x;rw[C] at hx;exact EG A hf hx h
  ·cases h
 ·
  rename_i t x i A;split at h
  ·rename_i k n C
   have M:=D i;rw[C,bu] at M;have hx:=D x;split at h
   ·rename_i k off hB
    rw[hB] at hx;exact BQ A hx M h
   ·exact yA A hx M h
  ·cases h
 ·
  rename_i t x i A;split at h
  ·rename_i k n C
   have M:=D i;rw[C,bu] at M;have hx:=D x;split at h
   ·rename_i cs hB
    rw[hB] at hx;exact Bq A hx M h
   ·rename_i f vs hB
    rw[hB] at hx;obtain⟨Z,h⟩:=au h;rw[bB,fT] at Z;rw[Z.1] at hx;exact Bp A hx M Z.2 h
   ·exact G5 A hx M h
  ·cases h
 ·
  rename_i x i A;split at h
  ·rename_i vs C
   have hx:=D x;rw[C] at hx;have O:=au h;obtain⟨J,N⟩:=O;simp only[ok,aF,bP,je] at N;subst N;rw[bB] at J;exact BP A hx (by simpa[zm] using J.1) J.2
  ·cases h
 ·
  rename_i c A;split at h
  ·rename_i f F
   split at h
   ·rename_i id K hf
    have hpsc: ∀(I:Array Operand),PW (aB g) (I.toList.map r) (I.toList.map ac.eval):=fun I=>⟨by simp,fun i x v hx H=>by
     simp only[qa] at hx H
     cases M:I.toList[i]? with
     |none=>rw[M] at hx;cases hx
     |some y=>
      rw[M] at hx H;simp only[qJ,aF] at hx H;subst hx;subst H;exact D y⟩
    have Z:=D f;rw[hf] at Z;obtain⟨a,hfa,hpa⟩:=Z;obtain⟨callee,I,ctypes⟩:=c;simp only at F h;subst F;have hps:=hpsc I
    cases Y:id==BM with
    |false=>
     rw[Y,fQ] at h;split at h
     ·rename_i args mb ml hargs
      have O:=au h;clear h;obtain⟨hb,h⟩:=O;simp only[bB] at hb;obtain⟨⟨hb,S⟩,hn⟩:=hb;simp only[aF,bP,je] at h;subst h;rw[tL S] at hfa;refine⟨I.toList.map ac.eval++a,I.toList.map r++K,?_,?_,hargs,hn⟩
      ·simp only[execOp,A,resolve,Deferred.ofValue,hfa,invoke,Sem.run_bind,Sem.run_pure,Result.andThen_ok,qW hE hb]
       simp
      ·exact(hps.mono fun _ _ _=> .inl).append (hpa.mono fun _ _ _=> .inr)
     ·cases h
    |true=>
     rw[Y,gY] at h;rw[fT] at Y;rw[Y] at hfa;split at h
     ·exact Hl A hE hfa hpa hps h
     ·cases h
   ·cases h
  ·rename_i F
   split at h
   ·rename_i x y Q
    exact uI (great:=false) A F Q (D x) (D y) h
   ·cases h
  ·rename_i F
   split at h
   ·rename_i x y Q
    exact uI (great:=true) A F Q (D x) (D y) h
   ·cases h
  ·rename_i F
   split at h
   ·rename_i t x ht hx
    exact MN A F ht hx (D x) h
   ·cases h
  ·rename_i F
   split at h
   ·rename_i t x ht hx
    split at h
    ·rename_i e' hu C
     simp only[ok,aF,bP,je] at h;subst h;have H:=D x;rw[C,gL] at H;obtain⟨callee,args,X⟩:=c;simp only at F ht hx;subst F;obtain rfl:args= #[x]:=by rw[←Ff];simpa using hx
     obtain rfl:X= #[t]:=by rw[←Ff];simpa using ht
     refine⟨.int .i64 0,?_,bu.2 rfl⟩;have hv2:ac.eval x=.slice none 0 0:=H;have hu2:(Builtin.cap_ #[t] o.type #[ac.eval x]).run E.P w=.ok (.int .i64 0) w:=by
      rw[hv2];simp[Builtin.cap_,run_underlying hu,goInt]
     simp[execOp,A,resolve,invoke,builtin,hu2]
    ·cases h
   ·cases h
  ·rename_i F
   split at h
   ·rename_i s x Q
    exact EK A F Q hG hO hB (D s) (D x) h
   ·cases h
  ·cases h
 ·cases h
theorem Qf {B:Own} {g:Gh} {w:World} (h:g.O=fun _=>none):E9 B g w:=⟨fun L v e a hL=>by(rw[h] at hL;cases hL),fun L L' v d e f a c b hL=>by(rw[h] at hL;cases hL)⟩
theorem JA {E:Env} {fr:af} {ac:Act} (A:jQ E g.G w) (H: ∀y,aB g (iD E fr y) (ac.eval y)) {eff:Eff} (h:wS E fr o=some (some (true,eff))):Does E.P ac.eval o B w g bx eff:=by
 unfold wS at h;split at h
 ·rename_i t x i N
  split at h
  ·rename_i gn n k e hx O J
   split at h
   ·rename_i U a F X
    simp only[aF,bP] at h;obtain⟨p,rfl⟩:=h;have u:ac.eval i=.int .i64 n:=bu.1 (by rw[←O];exact H i);have d:=H x;unfold Sw at hx;split at hx
    ·rename_i c y K gi q
     simp only[aF] at hx;subst hx;rw[q] at d;simp only[aB,aX] at d;unfold aJ at d;obtain⟨b,l,I,hl,s⟩:=d;unfold Sy at a;split at a
     ·rename_i sh Q f S off C
      simp only[aF] at a;subst a;obtain⟨W,R,D,T,v,r,h3,L⟩:=(A _ _ C).2.2;rw[show(asInt (V.int K gi)).toNat=gi.toNat from rfl] at hl;rw[hl] at v;simp only[aF] at v;subst v;rw[s,I] at r;simp only[aF,Value.map.injEq] at r;subst r;obtain⟨j,M⟩:=L.look n p;have m:(Instr.lookup t (ac.eval x) (ac.eval i) false).run E.P w=.ok (.string ⟨(jL f n).toArray⟩) w:=by
       rw[I,u];have z:(Instr.checkKey D.isEmpty 10000 k (.int .i64 n)).run E.P w=.ok () w:=MapKept.run_checkKey F (show MapKept.IsKey (.int .i64) (.int .i64 n) from rfl) D.isEmpty 9999;simp[Instr.lookup,run_underlying J,MapKept.run_getObj_map h3,z,MapKept.run_findKey F M,Result.andThen]
      exact⟨.string ⟨(jL f n).toArray⟩,by simp[execOp,N,m],dS.2 rfl⟩
     ·cases a
    ·cases hx
   ·cases h
  ·cases h
 ·cases h
theorem gV (hE:oU E) (N:E.P=P) (s:sU g.G w) (F:E9 B g w) (a:Oe P B g bx w) (hB:B.n≤w.heap.size∧ ∀b,w.heap.size≤b→B.m b) (H:jB g.G1 g.G) (A:jQ E g.G w) (i: ∀y,aB g (iD E fr y) (ac.eval y)) {eff:Eff} (h:yh E fr bx o=some (true,eff)):Does P ac.eval o B w g bx eff:=by
 subst N;unfold yh at h;split at h
 ·rename_i r hl
  subst h;exact JA A i hl
 simp only at h;have d: ∀{eff:Eff},ID E.P (fun x=>(iD E fr x).wP) bx o=some (true,eff)→Does E.P ac.eval o B w g bx eff:=fun h=>wh hE rfl s F a hB (fun y=>rU (i y)) h
 cases I:o.op.operands.toList.any fun x=>(iD E fr x).FC with
 |false=>rw[I] at h;exact wh hE rfl s F a hB i h
 |true=>
  rw[I,gY] at h;split at h
  ·rename_i c v hx
   cases z:v.dO with
   |false=>rw[z] at h;exact d h
   |true=>
    rw[z,gY] at h;simp only[aF,bP] at h;obtain⟨rfl,rfl⟩:=h;have C:sU g.g0.G w:=fun b l J=>by
     obtain⟨O,q,j⟩:=H b l J;obtain⟨c,e,f,h3,K⟩:=s b O q;refine⟨c,e,f,h3,?_⟩;obtain⟨t,rfl⟩:=j;have D:(c.toList.take (l++t).length).take l.length=l:=by rw[K];simp
     rw[acX] at D;rwa [ZG (by simp)] at D
    obtain⟨u,q,j⟩:=wh (B:=B) (g:=g.g0) hE rfl C (Qf rfl) (⟨fun k L p=>(by cases p),fun k Q L M p=>(by cases p)⟩:Oe E.P B g.g0 [] w) hB (fun y=>Ct (i y)) hx;exact⟨u,q,EE z H j⟩
  ·exact d h
end
end Nt.Ev
